/- The law FnExactChangesRight answers true at every change log: the program's ChangesRight gives what the reference's gives. No condition. -/
import Derived.Test.YtgkjlfimjnhbbaaDoorQFnExactChangesRightx19
import Derived.Laws.Bits64
import Derived.Lib.Strings
namespace Go.Proofs.YtgkjlfimjnhbbaaDoor.Pure
open Go.RowKit Go.Proofs.YtgkjlfimjnhbbaaDoor.PFnExactChangesRight Go.Proofs.YtgkjlfimjnhbbaaDoorW.PrintWords Go.Proofs.YtgkjlfimjnhbbaaDoorW.PrintLast
set_option linter.unusedVariables false
set_option linter.unusedSimpArgs false
theorem w64 {x : Int} (h0 : -9223372036854775808 ≤ x) (h1 : x ≤ 9223372036854775807) : wrap64 x = x := by unfold wrap64; omega
theorem son_append (xs ys : List Int) : strOfNums (xs ++ ys) = strOfNums xs ++ strOfNums ys := by
 unfold strOfNums
 apply ByteArray.ext
 simp
theorem ba_append_size (a b : ByteArray) : (a ++ b).size = a.size + b.size := by simp
theorem ba_append_assoc (a b c : ByteArray) : (a ++ b) ++ c = a ++ (b ++ c) := by
 apply ByteArray.ext
 simp
theorem ba_ext {a b : ByteArray} (h : a.data.toList = b.data.toList) : a = b := ByteArray.ext (Array.toList_inj.1 h)
theorem ba_inj {a b : ByteArray} : a.toList = b.toList ↔ a = b :=
 ⟨fun h => ba_ext (by rwa [Go.Lib.toList_data, Go.Lib.toList_data] at h), fun h => by rw [h]⟩
theorem ba_data_extract (s : ByteArray) (i j : Nat) : (s.extract i j).data.toList = (s.data.toList.drop i).take (j - i) := Go.Lib.extract_data s i j
theorem son_bytesOf (s : ByteArray) : strOfNums (bytesOf s) = s := by
 apply ba_ext
 rw [strOfNums_data, bytesOf, List.map_map]
 conv => rhs; rw [← List.map_id s.data.toList]
 apply List.map_congr_left
 intro b _
 simp
theorem ext_son (s : ByteArray) (i j : Nat) : s.extract i j = strOfNums (((bytesOf s).drop i).take (j - i)) := by
 apply ba_ext
 rw [ba_data_extract, strOfNums_data, List.map_take, List.map_drop]
 congr 2
 have := congrArg (fun x : ByteArray => x.data.toList) (son_bytesOf s)
 simp only [strOfNums_data] at this
 exact this.symm
theorem bytesOf_son (l : List Int) (h : ∀ x ∈ l, 0 ≤ x ∧ x ≤ 255) : bytesOf (strOfNums l) = l := by
 unfold bytesOf
 rw [strOfNums_data, List.map_map]
 conv => rhs; rw [← List.map_id l]
 apply List.map_congr_left
 intro x hx
 have := h x hx
 simp only [Function.comp, id]
 rw [UInt8.toNat_ofNat']
 omega
theorem drop_bt (s : ByteArray) (i : Int) (h0 : 0 ≤ i) (h1 : i < s.size) : (bytesOf s).drop i.toNat = bt s i :: (bytesOf s).drop (i + 1).toNat := by
 have hl : i.toNat < (bytesOf s).length := by rw [bytesOf_length]; omega
 rw [List.drop_eq_getElem_cons hl, ← rd_bytesOf, show (i + 1).toNat = i.toNat + 1 by omega]
 congr 1
 unfold rd
 rw [List.getD_eq_getElem?_getD, List.getElem?_eq_getElem hl]; rfl
theorem some_loop {ρ : Type} (n : Nat) (hn : (n : Int) ≤ 4611686018427387904) (K : Nat) (g : Nat → Int → Int → Option ρ)
  (step : ∀ (k : Nat) (a i : Int), K ≤ k → 0 ≤ i → i < n → (∃ r, g (k + 1) a i = some r) ∨ ∃ a', g (k + 1) a i = g k a' (wrap64 (i + 1)))
  (fin : ∀ (k : Nat) (a i : Int), K ≤ k → 0 ≤ i → (n : Int) ≤ i → ∃ r, g (k + 1) a i = some r) :
  ∀ (d k : Nat) (a i : Int), 0 ≤ i → i + d = n → K + d < k → ∃ r, g k a i = some r
 | 0, k, a, i, h0, hi, hk => by
  obtain ⟨k, rfl⟩ : ∃ q, k = q + 1 := ⟨k - 1, by omega⟩
  exact fin k a i (by omega) h0 (by omega)
 | d + 1, k, a, i, h0, hi, hk => by
  obtain ⟨k, rfl⟩ : ∃ q, k = q + 1 := ⟨k - 1, by omega⟩
  rcases step k a i (by omega) h0 (by omega) with h | ⟨a', e⟩
  ·exact h
  ·rw [e, w64 (x := i + 1) (by omega) (by omega)]
   exact some_loop n hn K g step fin d k a' (i + 1) (by omega) (by omega) (by omega)
theorem skip_loop {ρ : Type} (r : ρ) (n : Nat) (hn : (n : Int) ≤ 4611686018427387904) (K : Nat) (g : Nat → Int → Option ρ)
  (step : ∀ (k : Nat) (i : Int), K ≤ k → 0 ≤ i → i < n → g (k + 1) i = g k (wrap64 (i + 1)))
  (fin : ∀ (k : Nat) (i : Int), K ≤ k → 0 ≤ i → (n : Int) ≤ i → g (k + 1) i = some r) :
  ∀ (d k : Nat) (i : Int), 0 ≤ i → i + d = n → K + d < k → g k i = some r
 | 0, k, i, h0, hi, hk => by
  obtain ⟨k, rfl⟩ : ∃ q, k = q + 1 := ⟨k - 1, by omega⟩
  exact fin k i (by omega) h0 (by omega)
 | d + 1, k, i, h0, hi, hk => by
  obtain ⟨k, rfl⟩ : ∃ q, k = q + 1 := ⟨k - 1, by omega⟩
  rw [step k i (by omega) h0 (by omega), w64 (x := i + 1) (by omega) (by omega)]
  exact skip_loop r n hn K g step fin d k (i + 1) (by omega) (by omega) (by omega)
theorem copy_loop {β : Type} (n : Nat) (hn : (n : Int) ≤ 4611686018427387904) (src : Nat → β) (K : Nat) (g : Nat → List β → Int → Option (List β))
  (step : ∀ (k : Nat) (x : List β) (i : Int), K ≤ k → 0 ≤ i → i < n → x.length = n → g (k + 1) x i = g k (x.set i.toNat (src i.toNat)) (wrap64 (i + 1)))
  (fin : ∀ (k : Nat) (x : List β) (i : Int), (n : Int) ≤ i → g (k + 1) x i = some x) :
  ∀ (d k : Nat) (x : List β) (i : Int), 0 ≤ i → i + d = n → K + d < k → x.length = n → g k x i = some (x.take i.toNat ++ (List.range' i.toNat d).map src)
 | 0, k, x, i, h0, hi, hk, hx => by
  obtain ⟨k, rfl⟩ : ∃ q, k = q + 1 := ⟨k - 1, by omega⟩
  rw [fin k x i (by omega), List.take_of_length_le (by omega)]
  simp
 | d + 1, k, x, i, h0, hi, hk, hx => by
  obtain ⟨k, rfl⟩ : ∃ q, k = q + 1 := ⟨k - 1, by omega⟩
  rw [step k x i (by omega) h0 (by omega) hx, w64 (x := i + 1) (by omega) (by omega),
   copy_loop n hn src K g step fin d k _ (i + 1) (by omega) (by omega) (by omega) (by rw [List.length_set]; exact hx)]
  congr 1
  rw [show (i + 1).toNat = i.toNat + 1 by omega, List.range'_succ, List.map_cons, List.take_succ_eq_append_getElem (by rw [List.length_set]; omega), List.getElem_set_self, List.take_set_of_le (by omega), List.append_assoc]
  rfl
theorem copy_all {β : Type} (n : Nat) (hn : (n : Int) ≤ 4611686018427387904) (src : Nat → β) (K : Nat) (g : Nat → List β → Int → Option (List β)) (z : β)
  (step : ∀ (k : Nat) (x : List β) (i : Int), K ≤ k → 0 ≤ i → i < n → x.length = n → g (k + 1) x i = g k (x.set i.toNat (src i.toNat)) (wrap64 (i + 1)))
  (fin : ∀ (k : Nat) (x : List β) (i : Int), (n : Int) ≤ i → g (k + 1) x i = some x) (k : Nat) (hk : K + n < k) :
  g k (List.replicate n z) 0 = some ((List.range n).map src) := by
 rw [copy_loop n hn src K g step fin n k _ 0 (by omega) (by omega) hk (by simp)]
 simp [List.range_eq_range']
theorem range_map_getD {α β : Type} (l : List α) (z : α) (f : α → β) : (List.range l.length).map (fun j => f (l.getD j z)) = l.map f := by
 apply List.ext_getElem
 ·simp
 ·intro i h1 h2
  simp only [List.getElem_map, List.getElem_range]
  rw [List.getD_eq_getElem?_getD, List.getElem?_eq_getElem (by simpa using h1)]
  rfl
theorem all_loop (fin : Bool) (f : Nat → Bool) (n : Nat) (hn : (n : Int) ≤ 4611686018427387904) (K : Nat) (g : Nat → Int → Option Bool)
  (step : ∀ (k : Nat) (i : Int), K ≤ k → 0 ≤ i → i < n → g (k + 1) i = if f i.toNat = true then g k (wrap64 (i + 1)) else some false)
  (hfin : ∀ (k : Nat) (i : Int), K ≤ k → 0 ≤ i → (n : Int) ≤ i → g (k + 1) i = some fin) :
  ∀ (d k : Nat) (i : Int), 0 ≤ i → i + d = n → K + d < k → g k i = some ((List.range' i.toNat d).all f && fin)
 | 0, k, i, h0, hi, hk => by
  obtain ⟨k, rfl⟩ : ∃ q, k = q + 1 := ⟨k - 1, by omega⟩
  rw [hfin k i (by omega) h0 (by omega)]; simp
 | d + 1, k, i, h0, hi, hk => by
  obtain ⟨k, rfl⟩ : ∃ q, k = q + 1 := ⟨k - 1, by omega⟩
  rw [step k i (by omega) h0 (by omega), w64 (x := i + 1) (by omega) (by omega), List.range'_succ, List.all_cons]
  cases hf : f i.toNat with
  | false => simp
  | true =>
   rw [if_pos rfl, all_loop fin f n hn K g step hfin d k (i + 1) (by omega) (by omega) (by omega), show (i + 1).toNat = i.toNat + 1 by omega]
   simp
def cvRdn (x : S195) : S126 := ⟨x.f0, x.f1⟩
theorem laws_szRdnS_f (l : List S195) (hl : (l.length : Int) ≤ 4611686018427387904) (a : Int) (k : Nat) (hk : l.length < k) : ∃ r, laws_szRdnS.f k l a = some r := by
 unfold laws_szRdnS.f
 split
 ·exact ⟨_, rfl⟩
 ·refine some_loop l.length hl 0 (fun k a i => laws_szRdnS.l0 k l a i) (fun k a i _ h0 hi => ?_) (fun k a i _ h0 hi => ?_) l.length k _ 0 (by omega) (by omega) (by omega)
  ·show (∃ r, laws_szRdnS.l0 (k + 1) l a i = some r) ∨ ∃ a', laws_szRdnS.l0 (k + 1) l a i = laws_szRdnS.l0 k l a' (wrap64 (i + 1))
   rw [laws_szRdnS.l0, if_pos hi, if_pos h0]
   unfold laws_szRdn.f
   repeat' split
   all_goals simp only [Option.bind_some]
   all_goals (try split)
   all_goals first | exact .inl ⟨_, rfl⟩ | exact .inr ⟨_, rfl⟩
  ·show ∃ r, laws_szRdnS.l0 (k + 1) l a i = some r
   rw [laws_szRdnS.l0, if_neg (by omega)]
   exact ⟨_, rfl⟩
theorem laws_toRdnS_f (l : List S195) (hl : l.length ≤ 8796093022208) (k : Nat) (hk : l.length < k) : laws_toRdnS.f k l = some (l.map cvRdn) := by
 unfold laws_toRdnS.f
 rw [if_pos (by omega), if_pos (by omega), show ((l.length : Int)).toNat = l.length from rfl,
  copy_all l.length (by omega) (fun j => cvRdn (l.getD j z195)) 0 (fun k x i => laws_toRdnS.l0 k l x i) z126 (fun k x i _ h0 hi hx => ?_) (fun k x i hi => ?_) k (by omega), range_map_getD]
 ·show laws_toRdnS.l0 (k + 1) l x i = _
  rw [laws_toRdnS.l0, if_pos hi, if_pos h0]
  unfold laws_toRdn.f
  simp only [Option.bind_some]
  rw [if_pos (by omega)]
  rfl
 ·show laws_toRdnS.l0 (k + 1) l x i = _
  rw [laws_toRdnS.l0, if_neg (by omega)]
theorem laws_eqRdnS_f (l : List S126) (hl : (l.length : Int) ≤ 4611686018427387904) (k : Nat) (hk : l.length < k) : laws_eqRdnS.f k l l = some true := by
 unfold laws_eqRdnS.f
 rw [if_pos rfl]
 refine skip_loop true l.length hl 0 (fun k i => laws_eqRdnS.l0 k l l i) (fun k i _ h0 hi => ?_) (fun k i _ h0 hi => ?_) l.length k 0 (by omega) (by omega) (by omega)
 ·show laws_eqRdnS.l0 (k + 1) l l i = laws_eqRdnS.l0 k l l (wrap64 (i + 1))
  rw [laws_eqRdnS.l0, if_pos hi, if_pos h0, if_pos hi]
  unfold laws_eqRdn.f
  rw [if_pos rfl, if_pos rfl]
  simp
 ·show laws_eqRdnS.l0 (k + 1) l l i = _
  rw [laws_eqRdnS.l0, if_neg (by omega)]
theorem laws_szStringS_f (l : List ByteArray) (hl : (l.length : Int) ≤ 4611686018427387904) (a : Int) (k : Nat) (hk : l.length < k) : ∃ r, laws_szStringS.f k l a = some r := by
 unfold laws_szStringS.f
 split
 ·exact ⟨_, rfl⟩
 ·refine some_loop l.length hl 0 (fun k a i => laws_szStringS.l0 k l a i) (fun k a i _ h0 hi => ?_) (fun k a i _ h0 hi => ?_) l.length k _ 0 (by omega) (by omega) (by omega)
  ·show (∃ r, laws_szStringS.l0 (k + 1) l a i = some r) ∨ ∃ a', laws_szStringS.l0 (k + 1) l a i = laws_szStringS.l0 k l a' (wrap64 (i + 1))
   rw [laws_szStringS.l0, if_pos hi, if_pos h0]
   repeat' split
   all_goals first | exact .inl ⟨_, rfl⟩ | exact .inr ⟨_, rfl⟩
  ·show ∃ r, laws_szStringS.l0 (k + 1) l a i = some r
   rw [laws_szStringS.l0, if_neg (by omega)]
   exact ⟨_, rfl⟩
theorem laws_toStringS_f (l : List ByteArray) (hl : l.length ≤ 17592186044416) (k : Nat) (hk : l.length < k) : laws_toStringS.f k l = some l := by
 unfold laws_toStringS.f
 rw [if_pos (by omega), if_pos (by omega), show ((l.length : Int)).toNat = l.length from rfl,
  copy_all l.length (by omega) (fun j => id (l.getD j ByteArray.empty)) 0 (fun k x i => laws_toStringS.l0 k l x i) (⟨#[]⟩ : ByteArray) (fun k x i _ h0 hi hx => ?_) (fun k x i hi => ?_) k (by omega), range_map_getD]
 ·rw [List.map_id]
 ·show laws_toStringS.l0 (k + 1) l x i = _
  rw [laws_toStringS.l0, if_pos hi, if_pos h0, if_pos (by omega)]
  rfl
 ·show laws_toStringS.l0 (k + 1) l x i = _
  rw [laws_toStringS.l0, if_neg (by omega)]
theorem laws_eqStringS_f (l : List ByteArray) (hl : (l.length : Int) ≤ 4611686018427387904) (k : Nat) (hk : l.length < k) : laws_eqStringS.f k l l = some true := by
 unfold laws_eqStringS.f
 rw [if_pos rfl]
 refine skip_loop true l.length hl 0 (fun k i => laws_eqStringS.l0 k l l i) (fun k i _ h0 hi => ?_) (fun k i _ h0 hi => ?_) l.length k 0 (by omega) (by omega) (by omega)
 ·show laws_eqStringS.l0 (k + 1) l l i = laws_eqStringS.l0 k l l (wrap64 (i + 1))
  rw [laws_eqStringS.l0, if_pos hi, if_pos h0, if_pos hi]
  simp
 ·show laws_eqStringS.l0 (k + 1) l l i = _
  rw [laws_eqStringS.l0, if_neg (by omega)]
abbrev At := S111
def cvAttr (x : S197) : At := ⟨x.f0, x.f1⟩
theorem laws_szAttrS_f (l : List S197) (hl : (l.length : Int) ≤ 4611686018427387904) (a : Int) (M : Nat) (hM : ∀ x ∈ l, x.f1.length ≤ M ∧ (x.f1.length : Int) ≤ 4611686018427387904) (k : Nat) (hk : l.length + M + 1 < k) : ∃ r, laws_szAttrS.f k l a = some r := by
 unfold laws_szAttrS.f
 split
 ·exact ⟨_, rfl⟩
 ·refine some_loop l.length hl (M + 1) (fun k a i => laws_szAttrS.l0 k l a i) (fun k a i hk h0 hi => ?_) (fun k a i _ h0 hi => ?_) l.length k _ 0 (by omega) (by omega) (by omega)
  ·show (∃ r, laws_szAttrS.l0 (k + 1) l a i = some r) ∨ ∃ a', laws_szAttrS.l0 (k + 1) l a i = laws_szAttrS.l0 k l a' (wrap64 (i + 1))
   have hmem : rd_T197 l i ∈ l := by
    have hi2 : i.toNat < l.length := by omega
    unfold rd_T197
    rw [List.getD_eq_getElem?_getD, List.getElem?_eq_getElem hi2]
    exact List.getElem_mem hi2
   obtain ⟨m1, m2⟩ := hM _ hmem
   rw [laws_szAttrS.l0, if_pos hi, if_pos h0]
   unfold laws_szAttr.f
   split
   ·simp only [Option.bind_some]
    rw [if_pos (by omega)]
    exact .inl ⟨_, rfl⟩
   ·obtain ⟨r, e⟩ := laws_szStringS_f (rd_T197 l i).f1 m2 (wrap64 (a - ((rd_T197 l i).f0.size : Int))) k (by omega)
    rw [e]
    simp only [Option.bind_some]
    by_cases h : r < 0
    ·rw [if_pos h]
     simp only [Option.bind_some]
     rw [if_pos (by omega)]
     exact .inl ⟨_, rfl⟩
    ·rw [if_neg h]
     simp only [Option.bind_some]
     rw [if_neg h]
     exact .inr ⟨_, rfl⟩
  ·show ∃ r, laws_szAttrS.l0 (k + 1) l a i = some r
   rw [laws_szAttrS.l0, if_neg (by omega)]
   exact ⟨_, rfl⟩
theorem laws_toAttrS_f (l : List S197) (hl : l.length ≤ 7036874417766) (M : Nat) (hM : ∀ x ∈ l, x.f1.length ≤ M ∧ x.f1.length ≤ 17592186044416) (k : Nat) (hk : l.length + M + 1 < k) : laws_toAttrS.f k l = some (l.map cvAttr) := by
 unfold laws_toAttrS.f
 rw [if_pos (by omega), if_pos (by omega), show ((l.length : Int)).toNat = l.length from rfl,
  copy_all l.length (by omega) (fun j => cvAttr (l.getD j z197)) (M + 1) (fun k x i => laws_toAttrS.l0 k l x i) z111 (fun k x i hk h0 hi hx => ?_) (fun k x i hi => ?_) k (by omega), range_map_getD]
 ·show laws_toAttrS.l0 (k + 1) l x i = _
  have hmem : rd_T197 l i ∈ l := by
   have hi2 : i.toNat < l.length := by omega
   unfold rd_T197
   rw [List.getD_eq_getElem?_getD, List.getElem?_eq_getElem hi2]
   exact List.getElem_mem hi2
  obtain ⟨m1, m2⟩ := hM _ hmem
  rw [laws_toAttrS.l0, if_pos hi, if_pos h0]
  unfold laws_toAttr.f
  rw [laws_toStringS_f _ m2 k (by omega)]
  simp only [Option.bind_some]
  rw [if_pos (by omega)]
  rfl
 ·show laws_toAttrS.l0 (k + 1) l x i = _
  rw [laws_toAttrS.l0, if_neg (by omega)]
theorem laws_eqAttrS_f (l : List At) (hl : (l.length : Int) ≤ 4611686018427387904) (M : Nat) (hM : ∀ x ∈ l, x.f1.length ≤ M ∧ (x.f1.length : Int) ≤ 4611686018427387904) (k : Nat) (hk : l.length + M + 1 < k) : laws_eqAttrS.f k l l = some true := by
 unfold laws_eqAttrS.f
 rw [if_pos rfl]
 refine skip_loop true l.length hl (M + 1) (fun k i => laws_eqAttrS.l0 k l l i) (fun k i hk h0 hi => ?_) (fun k i _ h0 hi => ?_) l.length k 0 (by omega) (by omega) (by omega)
 ·show laws_eqAttrS.l0 (k + 1) l l i = laws_eqAttrS.l0 k l l (wrap64 (i + 1))
  have hmem : rd_T111 l i ∈ l := by
   have hi2 : i.toNat < l.length := by omega
   unfold rd_T111
   rw [List.getD_eq_getElem?_getD, List.getElem?_eq_getElem hi2]
   exact List.getElem_mem hi2
  obtain ⟨m1, m2⟩ := hM _ hmem
  rw [laws_eqAttrS.l0, if_pos hi, if_pos h0, if_pos hi]
  unfold laws_eqAttr.f
  rw [if_pos rfl, laws_eqStringS_f _ m2 k (by omega)]
  simp
 ·show laws_eqAttrS.l0 (k + 1) l l i = _
  rw [laws_eqAttrS.l0, if_neg (by omega)]
def up (c : Int) : Int := if 65 ≤ c ∧ c ≤ 90 then c + 32 else c
def nput (l : List Int) (c : Int) : List Int := if c = 32 ∧ (l = [] ∨ rd l ((l.length : Int) - 1) = 32) then l else l ++ [c]
def nfold (l cs : List Int) : List Int := cs.foldl (fun l c => nput l (up c)) l
def ntrim (l : List Int) : List Int := if l ≠ [] ∧ rd l ((l.length : Int) - 1) = 32 then l.take (l.length - 1) else l
def prt (c : Int) : Bool := decide (32 ≤ c) && decide (c ≤ 126)
theorem prt_lo {c : Int} (h : c < 32) : prt c = false := by unfold prt; rw [decide_eq_false (by omega)]; rfl
theorem prt_hi {c : Int} (h : c > 126) : prt c = false := by unfold prt; rw [decide_eq_false (p := c ≤ 126) (by omega)]; simp
def plainP (s : ByteArray) : Bool := (bytesOf s).all prt
def NormL (s : ByteArray) : List Int := if s.size ≤ 100 ∧ plainP s = true then ntrim (nfold [] (bytesOf s)) else []
def NormP (s : ByteArray) : ByteArray := strOfNums (NormL s)
theorem spec_l02Plain_l0 (s : ByteArray) (hs : s.size ≤ 4611686018427387904) : ∀ (d k : Nat) (i : Int), 0 ≤ i → i + d = s.size → d < k →
  spec_l02Plain.l0 k s i = some (((bytesOf s).drop i.toNat).all prt)
 | 0, k, i, h0, hd, hk => by
  obtain ⟨k, rfl⟩ : ∃ m, k = m + 1 := ⟨k - 1, by omega⟩
  simp only [spec_l02Plain.l0]
  rw [if_neg (by omega), List.drop_of_length_le (by rw [bytesOf_length]; omega)]; rfl
 | d + 1, k, i, h0, hd, hk => by
  obtain ⟨k, rfl⟩ : ∃ m, k = m + 1 := ⟨k - 1, by omega⟩
  simp only [spec_l02Plain.l0]
  rw [if_pos (by omega), if_pos h0, drop_bt s i h0 (by omega), List.all_cons]
  by_cases h1 : bt s i < 32
  ·rw [if_pos h1, show prt (bt s i) = false from prt_lo h1]; rfl
  ·rw [if_neg h1]
   by_cases h2 : bt s i > 126
   ·rw [if_pos h2, show prt (bt s i) = false from prt_hi h2]; rfl
   ·rw [if_neg h2, w64 (by omega) (by omega), spec_l02Plain_l0 s hs d k (i + 1) (by omega) (by omega) (by omega)]
    simp [prt, show 32 ≤ bt s i by omega, show bt s i ≤ 126 by omega]
theorem spec_l02Plain_f (s : ByteArray) (hs : s.size ≤ 4611686018427387904) (k : Nat) (hk : s.size < k) : spec_l02Plain.f k s = some (plainP s) := by
 unfold spec_l02Plain.f
 rw [spec_l02Plain_l0 s hs s.size k 0 (by omega) (by omega) hk]; rfl
theorem impl_isPrintable_l0 (s : ByteArray) (hs : s.size ≤ 4611686018427387904) : ∀ (d k : Nat) (i : Int), 0 ≤ i → i + d = s.size → d < k →
  impl_isPrintable.l0 k s (s.size : Int) i = some (((bytesOf s).drop i.toNat).all prt)
 | 0, k, i, h0, hd, hk => by
  obtain ⟨k, rfl⟩ : ∃ m, k = m + 1 := ⟨k - 1, by omega⟩
  simp only [impl_isPrintable.l0]
  rw [if_neg (by omega), List.drop_of_length_le (by rw [bytesOf_length]; omega)]; rfl
 | d + 1, k, i, h0, hd, hk => by
  obtain ⟨k, rfl⟩ : ∃ m, k = m + 1 := ⟨k - 1, by omega⟩
  simp only [impl_isPrintable.l0]
  rw [if_pos (by omega), if_pos h0, if_pos (by omega), drop_bt s i h0 (by omega), List.all_cons]
  by_cases h1 : bt s i < 32
  ·rw [if_pos h1, show prt (bt s i) = false from prt_lo h1]; rfl
  ·rw [if_neg h1]
   by_cases h2 : bt s i > 126
   ·rw [if_pos h2, show prt (bt s i) = false from prt_hi h2]; rfl
   ·rw [if_neg h2, w64 (by omega) (by omega), impl_isPrintable_l0 s hs d k (i + 1) (by omega) (by omega) (by omega)]
    simp [prt, show 32 ≤ bt s i by omega, show bt s i ≤ 126 by omega]
theorem impl_isPrintable_f (s : ByteArray) (hs : s.size ≤ 4611686018427387904) (k : Nat) (hk : s.size < k) : impl_isPrintable.f k s = some (plainP s) := by
 unfold impl_isPrintable.f
 rw [impl_isPrintable_l0 s hs s.size k 0 (by omega) (by omega) hk]; rfl
theorem nput_length (l : List Int) (c : Int) : (nput l c).length ≤ l.length + 1 := by
 unfold nput; split <;> simp
theorem up_of {c : Int} (h0 : 0 ≤ c) (h1 : c ≤ 255) (b : Bool) (hb : b = (decide (c ≥ 65) && decide (c ≤ 90))) : (if b = true then (c + 32) % 256 else c) = up c := by
 unfold up
 subst hb
 by_cases h : 65 ≤ c ∧ c ≤ 90
 ·rw [if_pos h, if_pos (by simp [h.1, h.2])]; omega
 ·rw [if_neg h, if_neg (by simpa using h)]
theorem spec_Norm_j2 (k : Nat) (s : ByteArray) (l : List Int) (i c : Int) (b : Bool) (hl : l.length < 1000) (h0 : 0 ≤ i) (h1 : i < 1000) :
  spec_Norm.j2 (k + 1) s l i c b = spec_Norm.l0 k s (nput l (if b = true then (c + 32) % 256 else c)) (i + 1) := by
 simp only [spec_Norm.j2]
 rw [w64 (x := i + 1) (by omega) (by omega), w64 (x := (l.length : Int) - 1) (by omega) (by omega), if_pos (show l.length < 140737488355328 by omega), if_pos (show l.length < 140737488355328 by omega)]
 have key : ∀ c : Int, (if c = 32 then (if (l.length : Int) = 0 then spec_Norm.l0 k s l (i + 1) else (if 0 ≤ (l.length : Int) - 1 then (if (l.length : Int) - 1 < (l.length : Int) then (if rd l ((l.length : Int) - 1) = 32 then spec_Norm.l0 k s l (i + 1) else spec_Norm.l0 k s (l ++ [c]) (i + 1)) else none) else none)) else spec_Norm.l0 k s (l ++ [c]) (i + 1)) = spec_Norm.l0 k s (nput l c) (i + 1) := by
  intro c
  unfold nput
  by_cases hc : c = 32
  ·rw [if_pos hc]
   by_cases hn : l = []
   ·rw [if_pos (by simp [hn]), if_pos ⟨hc, .inl hn⟩]
   ·have : 0 < l.length := List.length_pos_iff.2 hn
    rw [if_neg (by omega), if_pos (by omega), if_pos (by omega)]
    by_cases hr : rd l ((l.length : Int) - 1) = 32
    ·rw [if_pos hr, if_pos ⟨hc, .inr hr⟩]
    ·rw [if_neg hr, if_neg (fun x => x.2.elim hn hr)]
  ·rw [if_neg hc, if_neg (fun x => hc x.1)]
 cases b
 ·exact key c
 ·exact key _
theorem impl_Norm_j2 (k : Nat) (s : ByteArray) (l : List Int) (n i c : Int) (b : Bool) (hl : l.length < 1000) (h0 : 0 ≤ i) (h1 : i < 1000) :
  impl_Norm.j2 (k + 1) s l c n i b = impl_Norm.l0 k s (nput l (if b = true then (c + 32) % 256 else c)) n (i + 1) := by
 simp only [impl_Norm.j2]
 rw [w64 (x := i + 1) (by omega) (by omega), w64 (x := (l.length : Int) - 1) (by omega) (by omega), if_pos (show l.length < 140737488355328 by omega), if_pos (show l.length < 140737488355328 by omega)]
 have key : ∀ c : Int, (if c = 32 then (if (l.length : Int) > 0 then (if 0 ≤ (l.length : Int) - 1 then (if (l.length : Int) - 1 < (l.length : Int) then (if rd l ((l.length : Int) - 1) = 32 then impl_Norm.l0 k s l n (i + 1) else impl_Norm.l0 k s (l ++ [c]) n (i + 1)) else none) else none) else impl_Norm.l0 k s l n (i + 1)) else impl_Norm.l0 k s (l ++ [c]) n (i + 1)) = impl_Norm.l0 k s (nput l c) n (i + 1) := by
  intro c
  unfold nput
  by_cases hc : c = 32
  ·rw [if_pos hc]
   by_cases hn : l = []
   ·rw [if_neg (by simp [hn]), if_pos ⟨hc, .inl hn⟩]
   ·have : 0 < l.length := List.length_pos_iff.2 hn
    rw [if_pos (by omega), if_pos (by omega), if_pos (by omega)]
    by_cases hr : rd l ((l.length : Int) - 1) = 32
    ·rw [if_pos hr, if_pos ⟨hc, .inr hr⟩]
    ·rw [if_neg hr, if_neg (fun x => x.2.elim hn hr)]
  ·rw [if_neg hc, if_neg (fun x => hc x.1)]
 cases b
 ·exact key c
 ·exact key _
theorem spec_Norm_l0 (s : ByteArray) (hs : s.size ≤ 100) : ∀ (d k : Nat) (i : Int) (l : List Int), 0 ≤ i → i + d = s.size → 2 * d < k → l.length ≤ i →
  spec_Norm.l0 k s l i = some (strOfNums (ntrim (nfold l ((bytesOf s).drop i.toNat))))
 | 0, k, i, l, h0, hd, hk, hl => by
  obtain ⟨k, rfl⟩ : ∃ m, k = m + 1 := ⟨k - 1, by omega⟩
  simp only [spec_Norm.l0]
  rw [if_neg (by omega), List.drop_of_length_le (by rw [bytesOf_length]; omega)]
  rw [show nfold l [] = l from rfl]
  unfold ntrim
  by_cases hn : l = []
  ·subst hn; simp
  ·have : 0 < l.length := List.length_pos_iff.2 hn
   rw [w64 (x := (l.length : Int) - 1) (by omega) (by omega), if_pos (by omega), if_pos (by omega), if_pos (by omega)]
   by_cases hr : rd l ((l.length : Int) - 1) = 32
   ·rw [if_pos hr, if_pos (show (l.length : Int) - 1 ≤ (l.length : Int) by omega), if_pos ⟨hn, hr⟩, show ((l.length : Int) - 1).toNat = l.length - 1 by omega]
   ·rw [if_neg hr, if_neg (fun x => hr x.2)]
 | d + 1, k, i, l, h0, hd, hk, hl => by
  obtain ⟨k, rfl⟩ : ∃ m, k = m + 2 := ⟨k - 2, by omega⟩
  have hb := bt_range s i
  have hj : ∀ b : Bool, b = (decide (bt s i ≥ 65) && decide (bt s i ≤ 90)) → spec_Norm.j2 (k + 1) s l i (bt s i) b = some (strOfNums (ntrim (nfold l ((bytesOf s).drop i.toNat)))) := by
   intro b hbb
   rw [spec_Norm_j2 k s l i _ b (by omega) h0 (by omega), up_of hb.1 hb.2 b hbb]
   have := nput_length l (up (bt s i))
   rw [spec_Norm_l0 s hs d k (i + 1) _ (by omega) (by omega) (by omega) (by omega), drop_bt s i h0 (by omega)]; rfl
  simp only [spec_Norm.l0]
  rw [if_pos (by omega), if_pos h0]
  by_cases h : bt s i ≥ 65
  ·rw [if_pos h]; exact hj _ (by simp [h])
  ·rw [if_neg h]; exact hj _ (by simp [h])
theorem son_take (l : List Int) (n : Nat) : (strOfNums l).extract 0 n = strOfNums (l.take n) := by
 apply ba_ext
 rw [ByteArray.data_extract, Array.toList_extract, strOfNums_data, strOfNums_data]
 simp [List.extract]
theorem son_drop (l : List Int) (n : Nat) : (strOfNums l).extract n (strOfNums l).size = strOfNums (l.drop n) := by
 apply ba_ext
 rw [ByteArray.data_extract, Array.toList_extract, strOfNums_data, strOfNums_data, strOfNums_size]
 simp only [List.extract, List.map_drop]
 exact List.take_of_length_le (by simp)
theorem drop_last (l : List Int) (h : 0 < l.length) : l.drop (l.length - 1) = [rd l ((l.length : Int) - 1)] := by
 rw [List.drop_eq_getElem_cons (by omega), List.drop_of_length_le (by omega)]
 congr 1
 unfold rd
 rw [show ((l.length : Int) - 1).toNat = l.length - 1 by omega, List.getD_eq_getElem?_getD, List.getElem?_eq_getElem (by omega)]; rfl
theorem trim_blank (l : List Int) (hl : l.length < 1000) (hr : ∀ x ∈ l, 0 ≤ x ∧ x ≤ 255) : strings_TrimSuffix.f (strOfNums l) (⟨#[32]⟩ : ByteArray) = some (strOfNums (ntrim l)) := by
 have hz : (⟨#[32]⟩ : ByteArray).size = 1 := rfl
 unfold strings_TrimSuffix.f stringslite_TrimSuffix.f stringslite_HasSuffix.f ntrim
 rw [hz]
 by_cases hn : l = []
 ·subst hn
  rw [if_neg (show ¬ (((strOfNums []).size : Int) ≥ ((1 : Nat) : Int)) by decide)]; rfl
 ·have hp : 0 < l.length := List.length_pos_iff.2 hn
  have hin : rd l ((l.length : Int) - 1) ∈ l := by have h := drop_last l hp; exact List.mem_of_mem_drop (i := l.length - 1) (by rw [h]; simp)
  have hb := hr _ hin
  simp only [strOfNums_size, Int.natCast_one]
  rw [w64 (x := (l.length : Int) - 1) (by omega) (by omega), if_pos (by omega), if_pos (by omega), if_pos (by omega)]
  simp only [Option.bind_some]
  have e1 : (strOfNums l).extract ((l.length : Int) - 1).toNat l.length = strOfNums [rd l ((l.length : Int) - 1)] := by
   rw [← drop_last l hp, ← son_drop, strOfNums_size, show ((l.length : Int) - 1).toNat = l.length - 1 by omega]
  rw [e1]
  have e2 : ((strOfNums [rd l ((l.length : Int) - 1)]).toList == (⟨#[32]⟩ : ByteArray).toList) = decide (rd l ((l.length : Int) - 1) = 32) := by
   rw [Go.Lib.toList_data, Go.Lib.toList_data, strOfNums_data]
   generalize rd l ((l.length : Int) - 1) = x at hb
   have key : ∀ z : Fin 256, (([(z.val : Int)].map fun n => UInt8.ofNat n.toNat) == (⟨#[32]⟩ : ByteArray).data.toList) = decide ((z.val : Int) = 32) := by decide +kernel
   have := key ⟨x.toNat, by omega⟩
   simpa [Int.toNat_of_nonneg hb.1] using this
  rw [e2]
  by_cases h : rd l ((l.length : Int) - 1) = 32
  ·rw [decide_eq_true h]
   simp only [if_true, Option.bind_some]
   rw [if_pos (show l ≠ [] ∧ rd l ((l.length : Int) - 1) = 32 from ⟨hn, h⟩), son_take, show ((l.length : Int) - 1).toNat = l.length - 1 by omega, if_pos (show 0 ≤ (l.length : Int) - 1 by omega), if_pos (show (l.length : Int) - 1 ≤ (l.length : Int) by omega)]; rfl
  ·rw [decide_eq_false h, if_neg (show ¬ (l ≠ [] ∧ rd l ((l.length : Int) - 1) = 32) from fun x => h x.2)]; rfl
theorem nput_range {l : List Int} {c : Int} (hl : ∀ x ∈ l, 0 ≤ x ∧ x ≤ 255) (hc : 0 ≤ c ∧ c ≤ 255) : ∀ x ∈ nput l c, 0 ≤ x ∧ x ≤ 255 := by
 intro x hx
 unfold nput at hx
 split at hx
 ·exact hl x hx
 ·rcases List.mem_append.1 hx with h | h
  ·exact hl x h
  ·rw [List.mem_singleton.1 h]; exact hc
theorem up_range {c : Int} (hc : 0 ≤ c ∧ c ≤ 255) : 0 ≤ up c ∧ up c ≤ 255 := by unfold up; split <;> omega
theorem impl_Norm_l0 (s : ByteArray) (hs : s.size ≤ 100) : ∀ (d k : Nat) (i : Int) (l : List Int), 0 ≤ i → i + d = s.size → 2 * d < k → l.length ≤ i → (∀ x ∈ l, 0 ≤ x ∧ x ≤ 255) →
  impl_Norm.l0 k s l (s.size : Int) i = some (strOfNums (ntrim (nfold l ((bytesOf s).drop i.toNat))))
 | 0, k, i, l, h0, hd, hk, hl, hr => by
  obtain ⟨k, rfl⟩ : ∃ m, k = m + 1 := ⟨k - 1, by omega⟩
  simp only [impl_Norm.l0]
  rw [if_neg (by omega), List.drop_of_length_le (by rw [bytesOf_length]; omega), trim_blank l (by omega) hr]
  rfl
 | d + 1, k, i, l, h0, hd, hk, hl, hr => by
  obtain ⟨k, rfl⟩ : ∃ m, k = m + 2 := ⟨k - 2, by omega⟩
  have hb := bt_range s i
  have hj : ∀ b : Bool, b = (decide (bt s i ≥ 65) && decide (bt s i ≤ 90)) → impl_Norm.j2 (k + 1) s l (bt s i) (s.size : Int) i b = some (strOfNums (ntrim (nfold l ((bytesOf s).drop i.toNat)))) := by
   intro b hbb
   rw [impl_Norm_j2 k s l _ i _ b (by omega) h0 (by omega), up_of hb.1 hb.2 b hbb]
   have := nput_length l (up (bt s i))
   rw [impl_Norm_l0 s hs d k (i + 1) _ (by omega) (by omega) (by omega) (by omega) (nput_range hr (up_range hb)), drop_bt s i h0 (by omega)]; rfl
  simp only [impl_Norm.l0]
  rw [if_pos (by omega), if_pos h0, if_pos (by omega)]
  by_cases h : bt s i ≥ 65
  ·rw [if_pos h]; exact hj _ (by simp [h])
  ·rw [if_neg h]; exact hj _ (by simp [h])
theorem spec_Norm_f (s : ByteArray) (k : Nat) (hk : 2 * s.size + 2 < k) : spec_Norm.f k s = some (NormP s) := by
 obtain ⟨k, rfl⟩ : ∃ m, k = m + 1 := ⟨k - 1, by omega⟩
 unfold spec_Norm.f NormP NormL
 by_cases h : s.size ≤ 100
 ·rw [if_neg (by omega), spec_l02Plain_f s (by omega) _ (by omega)]
  simp only [Option.bind_some, spec_Norm.j0]
  by_cases hp : plainP s = true
  ·rw [if_neg (by simp [hp]), if_pos ⟨h, hp⟩, spec_Norm_l0 s h s.size k 0 [] (by omega) (by omega) (by omega) (by simp)]; rfl
  ·rw [if_pos (by simp [hp]), if_neg (fun x => hp x.2)]; rfl
 ·rw [if_pos (by omega), if_neg (fun x => h x.1)]
  simp only [spec_Norm.j0, if_true]; rfl
theorem impl_Norm_f (s : ByteArray) (k : Nat) (hk : 2 * s.size + 2 < k) : impl_Norm.f k s = some (NormP s) := by
 obtain ⟨k, rfl⟩ : ∃ m, k = m + 1 := ⟨k - 1, by omega⟩
 unfold impl_Norm.f NormP NormL
 by_cases h : s.size ≤ 100
 ·rw [if_neg (by omega), impl_isPrintable_f s (by omega) _ (by omega)]
  simp only [Option.bind_some, impl_Norm.j0]
  by_cases hp : plainP s = true
  ·rw [if_neg (by simp [hp]), if_pos ⟨h, hp⟩, impl_Norm_l0 s h s.size k 0 [] (by omega) (by omega) (by omega) (by simp) (by simp)]; rfl
  ·rw [if_pos (by simp [hp]), if_neg (fun x => hp x.2)]; rfl
 ·rw [if_pos (by omega), if_neg (fun x => h x.1)]
  simp only [impl_Norm.j0, if_true]; rfl
def lowc (c : Int) : Bool := decide (97 ≤ c) && decide (c ≤ 122)
def nch (c : Int) : Bool := lowc c || (decide (48 ≤ c) && decide (c ≤ 57)) || decide (c = 95)
def NameP (s : ByteArray) : Bool := decide (1 ≤ s.size) && decide (s.size ≤ 20) && lowc (bt s 0) && (bytesOf s).all nch
theorem spec_NameRight_l0 (s : ByteArray) (hs : s.size ≤ 20) : ∀ (d k : Nat) (i : Int), 0 ≤ i → i + d = s.size → d < k →
  spec_NameRight.l0 k s i = some ((decide (i ≠ 0) || decide (s.size = 0) || lowc (bt s 0)) && ((bytesOf s).drop i.toNat).all nch)
 | 0, k, i, h0, hi, hk => by
  obtain ⟨k, rfl⟩ : ∃ q, k = q + 1 := ⟨k - 1, by omega⟩
  rw [spec_NameRight.l0, if_neg (by omega), List.drop_of_length_le (by rw [bytesOf_length]; omega), List.all_nil, Bool.and_true]
  by_cases hz : i = 0
  ·rw [decide_eq_true (p := s.size = 0) (by omega)]; simp
  ·rw [decide_eq_true (p := i ≠ 0) hz]; rfl
 | d + 1, k, i, h0, hi, hk => by
  obtain ⟨k, rfl⟩ : ∃ q, k = q + 1 := ⟨k - 1, by omega⟩
  have ih := spec_NameRight_l0 s hs d k (i + 1) (by omega) (by omega) (by omega)
  rw [decide_eq_true (p := i + 1 ≠ 0) (by omega), Bool.true_or, Bool.true_or, Bool.true_and] at ih
  rw [spec_NameRight.l0, if_pos (by omega), if_pos h0, drop_bt s i h0 (by omega), List.all_cons, w64 (x := i + 1) (by omega) (by omega), ih, decide_eq_false (p := s.size = 0) (by omega), Bool.or_false]
  have hc := bt_range s i
  generalize hcg : bt s i = c at hc ⊢
  have h00 : i = 0 → lowc (bt s 0) = lowc c := fun e => by rw [← hcg, e]
  unfold nch lowc at *
  by_cases c1 : c ≥ 97
  ·rw [if_pos c1, decide_eq_true (p := 97 ≤ c) c1]
   by_cases c2 : c ≤ 122
   ·rw [if_pos c2, decide_eq_true c2]
    by_cases hz : i = 0
    ·rw [h00 hz, decide_eq_true (p := 97 ≤ c) c1, decide_eq_true c2]; simp
    ·rw [decide_eq_true (p := i ≠ 0) hz]; simp
   ·rw [if_neg c2, decide_eq_false c2, decide_eq_false (p := c ≤ 57) (by omega), decide_eq_false (p := c = 95) (by omega)]
    by_cases hz : i = 0
    ·rw [if_pos hz, h00 hz, decide_eq_false c2, decide_eq_false (p := i ≠ 0) (by omega)]; simp
    ·rw [if_neg hz, if_pos (by omega), if_neg (by omega), if_neg (by omega)]; simp
  ·rw [if_neg c1, decide_eq_false (p := 97 ≤ c) c1]
   by_cases hz : i = 0
   ·rw [if_pos hz, h00 hz, decide_eq_false (p := 97 ≤ c) c1, decide_eq_false (p := i ≠ 0) (by omega)]; simp
   ·rw [if_neg hz, decide_eq_true (p := i ≠ 0) hz]
    by_cases c3 : c ≥ 48
    ·rw [if_pos c3, decide_eq_true (p := 48 ≤ c) c3]
     by_cases c4 : c ≤ 57
     ·rw [if_pos c4, decide_eq_true c4]; simp
     ·rw [if_neg c4, decide_eq_false c4]
      by_cases c5 : c = 95
      ·rw [if_pos c5, decide_eq_true c5]; simp
      ·rw [if_neg c5, decide_eq_false c5]; simp
    ·rw [if_neg c3, decide_eq_false (p := 48 ≤ c) c3, if_neg (by omega), decide_eq_false (p := c = 95) (by omega)]; simp
theorem spec_NameRight_f (s : ByteArray) (k : Nat) (hk : 30 ≤ k) : spec_NameRight.f k s = some (NameP s) := by
 obtain ⟨k, rfl⟩ : ∃ q, k = q + 1 := ⟨k - 1, by omega⟩
 unfold spec_NameRight.f NameP
 by_cases h1 : (s.size : Int) < 1
 ·rw [if_pos h1, spec_NameRight.j0, if_pos rfl, decide_eq_false (p := 1 ≤ s.size) (by omega)]; rfl
 ·rw [if_neg h1, decide_eq_true (p := 1 ≤ s.size) (by omega)]
  by_cases h2 : (s.size : Int) > 20
  ·rw [decide_eq_true h2, spec_NameRight.j0, if_pos rfl, decide_eq_false (p := s.size ≤ 20) (by omega)]; rfl
  ·rw [decide_eq_false h2, spec_NameRight.j0, if_neg (by simp), decide_eq_true (p := s.size ≤ 20) (by omega), spec_NameRight_l0 s (by omega) s.size k 0 (by omega) (by omega) (by omega), decide_eq_false (p := s.size = 0) (by omega)]
   simp
theorem dw_nil {α : Type} (p : α → Bool) : ∀ l : List α, (∀ x ∈ l, p x = true) → l.dropWhile p = []
 | [], _ => rfl
 | a :: l, h => by
  rw [List.dropWhile_cons, if_pos (h a (by simp))]
  exact dw_nil p l (fun x hx => h x (List.mem_cons_of_mem _ hx))
theorem dw_all {α : Type} (p : α → Bool) : ∀ l : List α, (∀ x ∈ l.dropWhile p, p x = true) → ∀ x ∈ l, p x = true
 | [], _, x, hx => by cases hx
 | a :: l, h, x, hx => by
  rw [List.dropWhile_cons] at h
  by_cases ha : p a = true
  ·rw [if_pos ha] at h
   rcases List.mem_cons.1 hx with e | e
   ·rw [e]; exact ha
   ·exact dw_all p l h x e
  ·rw [if_neg ha] at h
   exact absurd (h a (by simp)) ha
theorem trim_nil (l cs : List UInt8) : (Lib.trimS l cs == ([] : List UInt8)) = l.all (cs.contains ·) := by
 have key : Lib.trimS l cs = [] ↔ ∀ x ∈ l, cs.contains x = true := by
  unfold Lib.trimS Lib.trimLeftS Lib.trimRightS
  constructor
  ·intro h x hx
   refine dw_all (cs.contains ·) l.reverse (fun y hy => ?_) x (List.mem_reverse.2 hx)
   refine dw_all (cs.contains ·) (l.reverse.dropWhile (cs.contains ·)).reverse (fun z hz => ?_) y (List.mem_reverse.2 hy)
   rw [h] at hz; cases hz
  ·intro h
   rw [dw_nil (cs.contains ·) l.reverse (fun x hx => h x (List.mem_reverse.1 hx))]; rfl
 by_cases h : Lib.trimS l cs = []
 ·rw [h, List.all_eq_true.2 (key.1 h)]; rfl
 ·rw [beq_eq_false_iff_ne.2 h]
  symm
  rw [Bool.eq_false_iff]
  exact fun h2 => h (key.2 (List.all_eq_true.1 h2))
theorem nch_contains (b : UInt8) : ([97, 98, 99, 100, 101, 102, 103, 104, 105, 106, 107, 108, 109, 110, 111, 112, 113, 114, 115, 116, 117, 118, 119, 120, 121, 122, 48, 49, 50, 51, 52, 53, 54, 55, 56, 57, 95] : List UInt8).contains b = nch b.toNat := by
 have key : ∀ z : Fin 256, ([97, 98, 99, 100, 101, 102, 103, 104, 105, 106, 107, 108, 109, 110, 111, 112, 113, 114, 115, 116, 117, 118, 119, 120, 121, 122, 48, 49, 50, 51, 52, 53, 54, 55, 56, 57, 95] : List UInt8).contains (UInt8.ofNat z.val) = nch (z.val : Nat) := by decide +kernel
 have := key ⟨b.toNat, b.toNat_lt⟩
 simpa using this
theorem impl_NameRight_f (s : ByteArray) : impl_NameRight.f s = some (NameP s) := by
 unfold impl_NameRight.f NameP
 by_cases h1 : (s.size : Int) ≥ 1
 ·rw [if_pos h1, decide_eq_true (p := 1 ≤ s.size) (by omega)]
  by_cases h2 : (s.size : Int) ≤ 20
  ·rw [if_pos h2, decide_eq_true (p := s.size ≤ 20) (by omega), if_pos (by omega)]
   unfold lowc
   by_cases h3 : bt s 0 ≥ 97
   ·rw [if_pos h3, decide_eq_true (p := 97 ≤ bt s 0) h3]
    by_cases h4 : bt s 0 ≤ 122
    ·rw [if_pos h4, decide_eq_true h4]
     unfold strings_Trim.f
     rw [if_pos ⟨by omega, by decide, by decide⟩]
     simp only [Option.bind_some, Bool.true_and]
     congr 1
     rw [Go.Lib.toList_data]
     show (Lib.trimS s.data.toList _ == []) = _
     rw [trim_nil]
     unfold bytesOf
     rw [List.all_map]
     congr 1
     funext b
     exact nch_contains b
    ·rw [if_neg h4, decide_eq_false h4]; rfl
   ·rw [if_neg h3, decide_eq_false (p := 97 ≤ bt s 0) h3]; rfl
  ·rw [if_neg h2, decide_eq_false (p := s.size ≤ 20) (by omega)]; rfl
 ·rw [if_neg h1, decide_eq_false (p := 1 ≤ s.size) (by omega)]; rfl
def ValueP (s : ByteArray) : Bool := decide (1 ≤ s.size) && decide (s.size ≤ 40) && ((NormP s).toList != ([] : List UInt8))
theorem spec_l02Value_f (s : ByteArray) (k : Nat) (hk : 100 ≤ k) : spec_l02Value.f k s = some (ValueP s) := by
 unfold spec_l02Value.f ValueP
 by_cases h1 : (s.size : Int) ≥ 1
 ·by_cases h2 : (s.size : Int) ≤ 40
  ·rw [if_pos h1, if_pos h2, spec_Norm_f s k (by omega), decide_eq_true (p := 1 ≤ s.size) (by omega), decide_eq_true (p := s.size ≤ 40) (by omega)]
   simp
  ·rw [if_pos h1, if_neg h2, decide_eq_false (p := s.size ≤ 40) (by omega)]; simp
 ·rw [if_neg h1, decide_eq_false (p := 1 ≤ s.size) (by omega)]; simp
theorem impl_isProper_f (s : ByteArray) (k : Nat) (hk : 100 ≤ k) : impl_isProper.f k s = some (ValueP s) := by
 unfold impl_isProper.f ValueP
 by_cases h1 : (s.size : Int) ≥ 1
 ·by_cases h2 : (s.size : Int) ≤ 40
  ·rw [if_pos h1, if_pos h2, impl_Norm_f s k (by omega), decide_eq_true (p := 1 ≤ s.size) (by omega), decide_eq_true (p := s.size ≤ 40) (by omega)]
   simp
  ·rw [if_pos h1, if_neg h2, decide_eq_false (p := s.size ≤ 40) (by omega)]; simp
 ·rw [if_neg h1, decide_eq_false (p := 1 ≤ s.size) (by omega)]; simp
abbrev Rd := S126
def RdnP (x : Rd) : Bool := NameP x.f0 && ValueP x.f1
def DnP (l : List Rd) : Bool := decide (l.length ≤ 6) && l.all RdnP
theorem rd_drop (l : List Rd) (i : Int) (h0 : 0 ≤ i) (h1 : i < l.length) : l.drop i.toNat = rd_T126 l i :: l.drop (i + 1).toNat := by
 have hi : i.toNat < l.length := by omega
 rw [List.drop_eq_getElem_cons hi, show (i + 1).toNat = i.toNat + 1 by omega]
 congr 1
 unfold rd_T126
 rw [List.getD_eq_getElem?_getD, List.getElem?_eq_getElem hi]; rfl
theorem spec_DnRight_l0 (l : List Rd) (hl : (l.length : Int) ≤ 4611686018427387904) : ∀ (d k : Nat) (i : Int), 0 ≤ i → i + d = l.length → 100 + d < k →
  spec_DnRight.l0 k l i = some ((l.drop i.toNat).all RdnP && decide (l.length ≤ 6))
 | 0, k, i, h0, hi, hk => by
  obtain ⟨k, rfl⟩ : ∃ q, k = q + 1 := ⟨k - 1, by omega⟩
  rw [spec_DnRight.l0, if_neg (by omega), List.drop_of_length_le (by omega), List.all_nil, Bool.true_and]
  congr 1
  by_cases h6 : l.length ≤ 6
  ·rw [decide_eq_true h6, decide_eq_true (by omega)]
  ·rw [decide_eq_false h6, decide_eq_false (by omega)]
 | d + 1, k, i, h0, hi, hk => by
  obtain ⟨k, rfl⟩ : ∃ q, k = q + 1 := ⟨k - 1, by omega⟩
  rw [spec_DnRight.l0, if_pos (by omega), if_pos h0, rd_drop l i h0 (by omega), List.all_cons, spec_NameRight_f _ k (by omega), spec_l02Value_f _ k (by omega),
   w64 (x := i + 1) (by omega) (by omega), spec_DnRight_l0 l hl d k (i + 1) (by omega) (by omega) (by omega)]
  unfold RdnP
  cases NameP (rd_T126 l i).f0 <;> cases ValueP (rd_T126 l i).f1 <;> simp
theorem spec_DnRight_f (l : List Rd) (hl : (l.length : Int) ≤ 4611686018427387904) (k : Nat) (hk : 101 + l.length ≤ k) : spec_DnRight.f k l = some (DnP l) := by
 unfold spec_DnRight.f DnP
 rw [spec_DnRight_l0 l hl l.length k 0 (by omega) (by omega) (by omega)]
 simp [Bool.and_comm]
theorem impl_DnRight_1_f (a b : ByteArray) (k : Nat) (hk : 100 ≤ k) : impl_DnRight_1.f k a b = some (!(NameP a && ValueP b)) := by
 unfold impl_DnRight_1.f impl_isRdn.f
 rw [impl_NameRight_f, impl_isProper_f _ k hk]
 cases NameP a <;> cases ValueP b <;> rfl
theorem impl_DnRight_ix (k : Nat) (hk : 100 ≤ k) : ∀ (l : List Rd) (i : Int), 0 ≤ i → ∃ r, impl_DnRight.ix k l i = some r ∧ (!(decide (r ≥ 0))) = l.all RdnP
 | [], i, h0 => ⟨-1, rfl, rfl⟩
 | x :: xs, i, h0 => by
  simp only [impl_DnRight.ix]
  rw [impl_DnRight_1_f _ _ k hk, List.all_cons, Option.bind_some]
  unfold RdnP
  cases NameP x.f0 && ValueP x.f1 with
  | true => exact impl_DnRight_ix k hk xs (i + 1) (by omega)
  | false => exact ⟨i, rfl, by rw [decide_eq_true (p := i ≥ 0) h0]; rfl⟩
theorem impl_DnRight_f (l : List Rd) (k : Nat) (hk : 100 ≤ k) : impl_DnRight.f k l = some (DnP l) := by
 unfold impl_DnRight.f DnP
 by_cases h : (l.length : Int) ≤ 6
 ·obtain ⟨r, e, h2⟩ := impl_DnRight_ix k hk l 0 (by omega)
  rw [if_pos h, e, Option.bind_some, h2, decide_eq_true (p := l.length ≤ 6) (by omega)]; rfl
 ·rw [if_neg h, decide_eq_false (p := l.length ≤ 6) (by omega)]; rfl
theorem DnP_mem {l : List Rd} (h : DnP l = true) : l.length ≤ 6 ∧ ∀ x ∈ l, RdnP x = true := by
 unfold DnP at h
 simp only [Bool.and_eq_true, decide_eq_true_eq, List.all_eq_true] at h
 exact h
theorem ValueP_size {s : ByteArray} (h : ValueP s = true) : 1 ≤ s.size ∧ s.size ≤ 40 := by
 unfold ValueP at h
 simp only [Bool.and_eq_true, decide_eq_true_eq] at h
 omega
theorem NameP_size {s : ByteArray} (h : NameP s = true) : 1 ≤ s.size ∧ s.size ≤ 20 := by
 unfold NameP at h
 simp only [Bool.and_eq_true, decide_eq_true_eq] at h
 omega
theorem RdnP_size {x : Rd} (h : RdnP x = true) : x.f0.size ≤ 20 ∧ x.f1.size ≤ 40 := by
 unfold RdnP at h
 simp only [Bool.and_eq_true] at h
 exact ⟨(NameP_size h.1).2, (ValueP_size h.2).2⟩
theorem rd_mem (l : List Rd) (i : Int) (h0 : 0 ≤ i) (h1 : i < l.length) : rd_T126 l i ∈ l := by
 have hi : i.toNat < l.length := by omega
 unfold rd_T126
 rw [List.getD_eq_getElem?_getD, List.getElem?_eq_getElem hi]
 exact List.getElem_mem hi
def oddP (s : ByteArray) (i : Int) : Bool :=
 (decide (bt s i = 44) || decide (bt s i = 43) || decide (bt s i = 34) || decide (bt s i = 92) || decide (bt s i = 60) || decide (bt s i = 62) || decide (bt s i = 59) || decide (bt s i = 61)) ||
 ((decide (bt s i = 35) && decide (i = 0)) || (decide (bt s i = 32) && (decide (i = 0) || decide (i = (s.size : Int) - 1))))
def escF (s : ByteArray) : Nat → Int → List Int
 | 0, _ => []
 | d + 1, i => (if oddP s i = true then [92, bt s i] else [bt s i]) ++ escF s d (i + 1)
def escB (s : ByteArray) : List Int := escF s s.size 0
def textB : Bool → List Rd → List Int
 | _, [] => []
 | sep, x :: xs => (if sep = true then [44] else []) ++ (bytesOf x.f0 ++ ([61] ++ (escB x.f1 ++ textB true xs)))
def TextP (l : List Rd) : ByteArray := strOfNums (textB false l)
theorem escF_length (s : ByteArray) : ∀ (d : Nat) (i : Int), (escF s d i).length ≤ 2 * d
 | 0, i => by simp [escF]
 | d + 1, i => by
  have := escF_length s d (i + 1)
  simp only [escF, List.length_append]
  split <;> simp <;> omega
theorem escF_range (s : ByteArray) : ∀ (d : Nat) (i : Int), ∀ x ∈ escF s d i, 0 ≤ x ∧ x ≤ 255
 | 0, i, x, h => by simp [escF] at h
 | d + 1, i, x, h => by
  simp only [escF, List.mem_append] at h
  rcases h with h | h
  ·have := bt_range s i
   split at h <;> simp at h
   ·rcases h with rfl | rfl <;> omega
   ·subst h; omega
  ·exact escF_range s d (i + 1) x h
theorem spec_l02Odd_f (s : ByteArray) (i : Int) (h0 : 0 ≤ i) (h1 : i < s.size) (hs : s.size ≤ 4611686018427387904) (k : Nat) (hk : 1 ≤ k) : spec_l02Odd.f k s i = some (oddP s i) := by
 obtain ⟨k, rfl⟩ : ∃ q, k = q + 1 := ⟨k - 1, by omega⟩
 unfold spec_l02Odd.f oddP
 rw [if_pos h0, if_pos h1]
 simp only [spec_l02Odd.j0, w64 (x := (s.size : Int) - 1) (by omega) (by omega)]
 generalize bt s i = c
 by_cases c1 : c = 44; · subst c1; simp
 by_cases c2 : c = 43; · subst c2; simp
 by_cases c3 : c = 34; · subst c3; simp
 by_cases c4 : c = 92; · subst c4; simp
 by_cases c5 : c = 60; · subst c5; simp
 by_cases c6 : c = 62; · subst c6; simp
 by_cases c7 : c = 59; · subst c7; simp
 by_cases c8 : c = 61; · subst c8; simp
 by_cases c9 : c = 35; · subst c9; simp; by_cases hi : i = 0 <;> simp [hi]
 by_cases c10 : c = 32
 ·subst c10; simp; by_cases hi : i = 0 <;> simp [hi]; by_cases h2 : i = (s.size : Int) - 1 <;> simp [h2]
 simp [c1, c2, c3, c4, c5, c6, c7, c8, c9, c10]
theorem spec_l02Escape_l0 (s : ByteArray) (hs : s.size ≤ 1000) : ∀ (d k : Nat) (a : List Int) (i : Int), 0 ≤ i → i + d = s.size → 1 + d < k → a.length ≤ 2 * i →
  spec_l02Escape.l0 k s a i = some (strOfNums (a ++ escF s d i))
 | 0, k, a, i, h0, hi, hk, ha => by
  obtain ⟨k, rfl⟩ : ∃ q, k = q + 1 := ⟨k - 1, by omega⟩
  rw [spec_l02Escape.l0, if_neg (by omega)]
  simp [escF]
 | d + 1, k, a, i, h0, hi, hk, ha => by
  obtain ⟨k, rfl⟩ : ∃ q, k = q + 1 := ⟨k - 1, by omega⟩
  rw [spec_l02Escape.l0, if_pos (by omega), spec_l02Odd_f s i h0 (by omega) (by omega) k (by omega), w64 (x := i + 1) (by omega) (by omega)]
  simp only [Option.bind_some, escF]
  cases oddP s i with
  | true =>
   rw [if_pos rfl, if_pos (by omega), if_pos h0, if_pos (by rw [List.length_append, List.length_singleton]; omega), spec_l02Escape_l0 s hs d k _ (i + 1) (by omega) (by omega) (by omega) (by simp; omega)]
   simp
  | false =>
   rw [if_neg (by simp), if_pos h0, if_pos (by omega), spec_l02Escape_l0 s hs d k _ (i + 1) (by omega) (by omega) (by omega) (by simp; omega)]
   simp
theorem spec_l02Escape_f (s : ByteArray) (hs : s.size ≤ 40) (k : Nat) (hk : 50 ≤ k) : spec_l02Escape.f k s = some (strOfNums (escB s)) := by
 unfold spec_l02Escape.f escB
 rw [spec_l02Escape_l0 s (by omega) s.size k [] 0 (by omega) (by omega) (by omega) (by simp)]
 simp
theorem escB_length (s : ByteArray) : (escB s).length ≤ 2 * s.size := escF_length s _ _
theorem spec_l02Text_l0 (l : List Rd) (hl : l.length ≤ 6) (hr : ∀ x ∈ l, RdnP x = true) : ∀ (d k : Nat) (a : ByteArray) (i : Int), 0 ≤ i → i + d = l.length → 60 + d < k → a.size ≤ 200 * i →
  spec_l02Text.l0 k l a i = some (a ++ strOfNums (textB (decide (0 < i)) (l.drop i.toNat)))
 | 0, k, a, i, h0, hi, hk, ha => by
  obtain ⟨k, rfl⟩ : ∃ q, k = q + 1 := ⟨k - 1, by omega⟩
  rw [spec_l02Text.l0, if_neg (by omega), List.drop_of_length_le (by omega)]
  simp only [textB]
  rw [show strOfNums [] = (⟨#[]⟩ : ByteArray) from rfl]
  congr 1
  apply ByteArray.ext
  simp
 | d + 1, k, a, i, h0, hi, hk, ha => by
  obtain ⟨k, rfl⟩ : ∃ q, k = q + 1 := ⟨k - 1, by omega⟩
  obtain ⟨hn, hv⟩ := RdnP_size (hr _ (rd_mem l i h0 (by omega)))
  have he := escB_length (rd_T126 l i).f1
  have s1 : (⟨#[44]⟩ : ByteArray).size = 1 := rfl
  have s2 : (⟨#[61]⟩ : ByteArray).size = 1 := rfl
  rw [spec_l02Text.l0, if_pos (by omega), spec_l02Escape_f _ hv k (by omega), w64 (x := i + 1) (by omega) (by omega), rd_drop l i h0 (by omega)]
  simp only [Option.bind_some, textB]
  by_cases hz : i > 0
  ·rw [if_pos hz, if_pos (by omega), if_pos h0, if_pos (by simp only [ba_append_size, s1]; omega), if_pos (by simp only [ba_append_size, s1]; omega), if_pos (by simp only [ba_append_size, s1, s2, strOfNums_size]; omega),
    spec_l02Text_l0 l hl hr d k _ (i + 1) (by omega) (by omega) (by omega) (by simp only [ba_append_size, s1, s2, strOfNums_size]; omega), decide_eq_true (p := 0 < i) hz, decide_eq_true (p := 0 < i + 1) (by omega), if_pos rfl]
   simp only [son_append, son_bytesOf, ba_append_assoc]
   rfl
  ·rw [if_neg hz, if_pos h0, if_pos (by omega), if_pos (by simp only [ba_append_size]; omega), if_pos (by simp only [ba_append_size, s2, strOfNums_size]; omega),
    spec_l02Text_l0 l hl hr d k _ (i + 1) (by omega) (by omega) (by omega) (by simp only [ba_append_size, s2, strOfNums_size]; omega), decide_eq_false (p := 0 < i) hz, decide_eq_true (p := 0 < i + 1) (by omega), if_neg (by simp), List.nil_append]
   simp only [son_append, son_bytesOf, ba_append_assoc]
   rfl
theorem spec_l02Text_f (l : List Rd) (h : DnP l = true) (k : Nat) (hk : 70 ≤ k) : spec_l02Text.f k l = some (TextP l) := by
 obtain ⟨hl, hr⟩ := DnP_mem h
 unfold spec_l02Text.f TextP
 rw [spec_l02Text_l0 l hl hr l.length k _ 0 (by omega) (by omega) (by omega) (by decide)]
 rw [show (0 : Int).toNat = 0 from rfl, List.drop_zero, decide_eq_false (p := (0 : Int) < 0) (by omega)]
 congr 1
theorem marked_key (c : Int) (h0 : 0 ≤ c) (h1 : c ≤ 255) : decide (Lib.indexByte [44, 43, 34, 92, 60, 62, 59, 61] (UInt8.ofNat c.toNat) ≥ 0) =
  (decide (c = 44) || decide (c = 43) || decide (c = 34) || decide (c = 92) || decide (c = 60) || decide (c = 62) || decide (c = 59) || decide (c = 61)) := by
 have key : ∀ z : Fin 256, decide (Lib.indexByte [44, 43, 34, 92, 60, 62, 59, 61] (UInt8.ofNat z.val) ≥ 0) = (decide (z.val = 44) || decide (z.val = 43) || decide (z.val = 34) || decide (z.val = 92) || decide (z.val = 60) || decide (z.val = 62) || decide (z.val = 59) || decide (z.val = 61)) := by decide +kernel
 have k2 : decide (Lib.indexByte [44, 43, 34, 92, 60, 62, 59, 61] (UInt8.ofNat c.toNat) ≥ 0) = (decide (c.toNat = 44) || decide (c.toNat = 43) || decide (c.toNat = 34) || decide (c.toNat = 92) || decide (c.toNat = 60) || decide (c.toNat = 62) || decide (c.toNat = 59) || decide (c.toNat = 61)) := key ⟨c.toNat, by omega⟩
 rw [k2]
 have e : ∀ q : Nat, decide (c.toNat = q) = decide (c = (q : Int)) := fun q => by
  by_cases h : c = (q : Int)
  ·rw [decide_eq_true h, decide_eq_true (by omega)]
  ·rw [decide_eq_false h, decide_eq_false (by omega)]
 simp only [e]
 rfl
theorem impl_isMarked_f (s : ByteArray) (i : Int) (h0 : 0 ≤ i) (h1 : i < s.size) (hs : s.size ≤ 4611686018427387904) : impl_isMarked.f s i = some (oddP s i) := by
 have hc := bt_range s i
 have k3 := marked_key (bt s i) hc.1 hc.2
 unfold impl_isMarked.f oddP strings_IndexByte.f
 rw [if_pos h0, if_pos h1, w64 (x := (s.size : Int) - 1) (by omega) (by omega)]
 simp only [Option.bind_some]
 generalize bt s i = c at hc k3 ⊢
 show (if Lib.indexByte [44, 43, 34, 92, 60, 62, 59, 61] (UInt8.ofNat c.toNat) ≥ 0 then some true else _) = some (_ || _)
 rw [← k3]
 by_cases hx : Lib.indexByte [44, 43, 34, 92, 60, 62, 59, 61] (UInt8.ofNat c.toNat) ≥ 0
 ·rw [if_pos hx, decide_eq_true hx]; rfl
 ·rw [if_neg hx, decide_eq_false hx, Bool.false_or]
  by_cases c9 : c = 35
  ·subst c9; by_cases hi : i = 0 <;> simp [hi]
  ·by_cases c10 : c = 32
   ·subst c10; by_cases hi : i = 0 <;> simp [hi]; by_cases h2 : i = (s.size : Int) - 1 <;> simp [h2]
   ·simp [c9, c10]
theorem impl_dnText_l1 (l : List Rd) (len i : Int) (n s : ByteArray) (hs : s.size ≤ 1000) : ∀ (d k : Nat) (a : List Int) (j : Int), 0 ≤ j → j + d = s.size → a.length + 2 * d ≤ 1000000 →
  impl_dnText.l1 (k + d + 1) a l len i (s.size : Int) j n s = impl_dnText.l0 k (a ++ escF s d j) l len (wrap64 (i + 1))
 | 0, k, a, j, h0, hj, ha => by
  rw [Nat.add_zero, impl_dnText.l1, if_neg (by omega)]
  simp [escF]
 | d + 1, k, a, j, h0, hj, ha => by
  rw [show k + (d + 1) + 1 = (k + d + 1) + 1 by omega, impl_dnText.l1, if_pos (by omega), impl_isMarked_f s j h0 (by omega) (by omega), w64 (x := j + 1) (by omega) (by omega)]
  simp only [Option.bind_some, escF]
  cases oddP s j with
  | true =>
   rw [if_pos rfl, if_pos (by omega), if_pos h0, if_pos (by omega), if_pos (by rw [List.length_append, List.length_singleton]; omega), impl_dnText_l1 l len i n s hs d k _ (j + 1) (by omega) (by omega) (by simp; omega)]
   simp
  | false =>
   rw [if_neg (by simp), if_pos h0, if_pos (by omega), if_pos (by omega), impl_dnText_l1 l len i n s hs d k _ (j + 1) (by omega) (by omega) (by simp; omega)]
   simp
theorem impl_dnText_l0 (l : List Rd) (hl : l.length ≤ 6) (hr : ∀ x ∈ l, RdnP x = true) : ∀ (d k : Nat) (a : List Int) (i : Int), 0 ≤ i → i + d = l.length → 50 * d < k → a.length ≤ 200 * i →
  impl_dnText.l0 k a l (l.length : Int) i = some (strOfNums (a ++ textB (decide (0 < i)) (l.drop i.toNat)))
 | 0, k, a, i, h0, hi, hk, ha => by
  obtain ⟨k, rfl⟩ : ∃ q, k = q + 1 := ⟨k - 1, by omega⟩
  rw [impl_dnText.l0, if_neg (by omega), List.drop_of_length_le (by omega)]
  simp [textB]
 | d + 1, k, a, i, h0, hi, hk, ha => by
  obtain ⟨hn, hv⟩ := RdnP_size (hr _ (rd_mem l i h0 (by omega)))
  obtain ⟨k, rfl⟩ : ∃ q, k = (q + (rd_T126 l i).f1.size + 1) + 2 := ⟨k - (rd_T126 l i).f1.size - 3, by omega⟩
  have he := escB_length (rd_T126 l i).f1
  have key : ∀ b : List Int, b.length ≤ 200 * i + 1 → impl_dnText.j1 ((k + (rd_T126 l i).f1.size + 1) + 1) b l (l.length : Int) i (rd_T126 l i).f0 (rd_T126 l i).f1 = some (strOfNums (b ++ (bytesOf (rd_T126 l i).f0 ++ ([61] ++ (escB (rd_T126 l i).f1 ++ textB true (l.drop (i + 1).toNat)))))) := by
   intro b hb
   have hbl := bytesOf_length (rd_T126 l i).f0
   rw [impl_dnText.j1, if_pos (by omega)]
   simp only [Option.bind_some]
   rw [if_pos (by rw [List.length_append]; omega), impl_dnText_l1 l _ i _ _ (by omega) _ k _ 0 (by omega) (by omega) (by simp; omega), w64 (x := i + 1) (by omega) (by omega)]
   show impl_dnText.l0 k (_ ++ escB (rd_T126 l i).f1) l _ _ = _
   rw [impl_dnText_l0 l hl hr d k _ (i + 1) (by omega) (by omega) (by omega) (by simp only [List.length_append, List.length_singleton]; omega), decide_eq_true (p := 0 < i + 1) (by omega)]
   simp only [List.append_assoc]
  rw [impl_dnText.l0, if_pos (by omega), if_pos h0, if_pos (by omega), rd_drop l i h0 (by omega)]
  simp only [textB]
  by_cases hz : i > 0
  ·rw [if_pos hz, if_pos (by omega), key _ (by rw [List.length_append, List.length_singleton]; omega), decide_eq_true (p := 0 < i) hz, if_pos rfl]
   simp only [List.append_assoc]
  ·rw [if_neg hz, key _ (by omega), decide_eq_false (p := 0 < i) hz, if_neg (by simp), List.nil_append]
theorem impl_dnText_f (l : List Rd) (h : DnP l = true) (k : Nat) (hk : 310 ≤ k) : impl_dnText.f k l = some (TextP l) := by
 obtain ⟨hl, hr⟩ := DnP_mem h
 unfold impl_dnText.f TextP
 rw [impl_dnText_l0 l hl hr l.length k _ 0 (by omega) (by omega) (by omega) (by simp)]
 rw [show (0 : Int).toNat = 0 from rfl, List.drop_zero, decide_eq_false (p := (0 : Int) < 0) (by omega)]
 rfl
def cutL : List Int → List Int → List (List Int)
 | [], cur => [cur]
 | c :: r, cur =>
  if c = 92 then (match r with
   | [] => [cur ++ [c]]
   | d :: r' => cutL r' (cur ++ [c, d]))
  else if c = 44 then cur :: cutL r [] else cutL r (cur ++ [c])
def unesc : List Int → List Int
 | [] => []
 | c :: r => if c = 92 then (match r with
   | [] => [c]
   | d :: r' => d :: unesc r') else c :: unesc r
theorem cutL_nil (cur : List Int) : cutL [] cur = [cur] := by rw [cutL.eq_def]
theorem cutL_cons (c : Int) (r cur : List Int) : cutL (c :: r) cur = if c = 92 then (match r with
   | [] => [cur ++ [c]]
   | d :: r' => cutL r' (cur ++ [c, d]))
  else if c = 44 then cur :: cutL r [] else cutL r (cur ++ [c]) := by rw [cutL.eq_def]
theorem unesc_nil : unesc [] = [] := by rw [unesc.eq_def]
theorem unesc_cons (c : Int) (r : List Int) : unesc (c :: r) = if c = 92 then (match r with
   | [] => [c]
   | d :: r' => d :: unesc r') else c :: unesc r := by rw [unesc.eq_def]
theorem cutL_length : ∀ (n : Nat) (l cur : List Int), l.length ≤ n → (cutL l cur).length ≤ l.length + 1
 | n, [], cur, h => by simp [cutL_nil]
 | 0, c :: r, cur, h => by simp at h
 | n + 1, c :: r, cur, h => by
  rw [cutL_cons]
  simp only [List.length_cons] at h ⊢
  split
  ·match r, h with
   | [], h => simp
   | d :: r', h =>
    have := cutL_length n r' (cur ++ [c, d]) (by simp at h; omega)
    simp only [List.length_cons]; omega
  ·split
   ·have := cutL_length n r [] (by omega)
    simp only [List.length_cons]; omega
   ·have := cutL_length n r (cur ++ [c]) (by omega)
    omega
theorem cutL_sizes : ∀ (n : Nat) (l cur : List Int), l.length ≤ n → ∀ x ∈ cutL l cur, x.length ≤ cur.length + l.length
 | n, [], cur, h, x, hx => by simp [cutL_nil] at hx; rw [hx]; simp
 | 0, c :: r, cur, h, x, hx => by simp at h
 | n + 1, c :: r, cur, h, x, hx => by
  rw [cutL_cons] at hx
  simp only [List.length_cons] at h ⊢
  split at hx
  ·match r, h, hx with
   | [], h, hx => simp at hx; rw [hx]; simp
   | d :: r', h, hx =>
    have := cutL_sizes n r' (cur ++ [c, d]) (by simp at h; omega) x hx
    simp at this ⊢; omega
  ·split at hx
   ·rcases List.mem_cons.1 hx with e | e
    ·rw [e]; omega
    ·have := cutL_sizes n r [] (by omega) x e
     simp at this; omega
   ·have := cutL_sizes n r (cur ++ [c]) (by omega) x hx
    simp at this; omega
theorem spec_l02Cut_l0 (t : ByteArray) (ht : t.size ≤ 1048576) : ∀ (d k : Nat) (out : List ByteArray) (cur : List Int) (i : Int), 0 ≤ i → i + d = t.size → 2 * d + 1 < k → out.length ≤ i → cur.length ≤ i →
  spec_l02Cut.l0 k t out cur i = some (out ++ (cutL ((bytesOf t).drop i.toNat) cur).map strOfNums)
 | 0, k, out, cur, i, h0, hi, hk, ho, hc => by
  obtain ⟨k, rfl⟩ : ∃ q, k = q + 1 := ⟨k - 1, by omega⟩
  rw [spec_l02Cut.l0, if_neg (by omega), if_pos (by omega), List.drop_of_length_le (by rw [bytesOf_length]; omega)]
  rfl
 | d + 1, k, out, cur, i, h0, hi, hk, ho, hc => by
  obtain ⟨k, rfl⟩ : ∃ q, k = q + 2 := ⟨k - 2, by omega⟩
  rw [spec_l02Cut.l0, if_pos (by omega), if_pos h0, w64 (x := i + 1) (by omega) (by omega), drop_bt t i h0 (by omega)]
  by_cases h92 : bt t i = 92
  ·rw [if_pos h92]
   by_cases hn : i + 1 < (t.size : Int)
   ·rw [decide_eq_true hn, spec_l02Cut.j1, if_pos rfl, if_pos h0, if_pos (by omega), w64 (x := i + 1) (by omega) (by omega), if_pos (by omega), if_pos hn]
    simp only [Option.bind_some]
    obtain ⟨d, rfl⟩ : ∃ q, d = q + 1 := ⟨d - 1, by omega⟩
    rw [if_pos (by simp; omega), w64 (x := i + 1 + 1) (by omega) (by omega), spec_l02Cut_l0 t ht d k out _ (i + 1 + 1) (by omega) (by omega) (by omega) (by omega) (by simp; omega), drop_bt t (i + 1) (by omega) hn]
    congr 2
    rw [cutL_cons, if_pos h92]
   ·rw [decide_eq_false hn, spec_l02Cut.j1, if_neg (by simp), if_pos h0, if_pos (by omega), if_neg (by omega), if_pos (by omega), w64 (x := i + 1) (by omega) (by omega), spec_l02Cut_l0 t ht d k out _ (i + 1) (by omega) (by omega) (by omega) (by omega) (by simp; omega)]
    rw [List.drop_of_length_le (l := bytesOf t) (i := (i + 1).toNat) (by rw [bytesOf_length]; omega)]
    congr 2
    rw [cutL_nil, cutL_cons, if_pos h92]
  ·rw [if_neg h92, spec_l02Cut.j1, if_neg (by simp), if_pos h0, if_pos (by omega)]
   by_cases h44 : bt t i = 44
   ·rw [if_pos h44, if_pos (by omega), w64 (x := i + 1) (by omega) (by omega), spec_l02Cut_l0 t ht d k _ [] (i + 1) (by omega) (by omega) (by omega) (by simp; omega) (by simp; omega), cutL_cons, if_neg h92, if_pos h44]
    simp
   ·rw [if_neg h44, if_pos (by omega), w64 (x := i + 1) (by omega) (by omega), spec_l02Cut_l0 t ht d k out _ (i + 1) (by omega) (by omega) (by omega) (by omega) (by simp; omega), cutL_cons, if_neg h92, if_neg h44]
def splitEq : List Int → List Int × List Int × Bool
 | [] => ([], [], false)
 | c :: r => if c = 61 then ([], r, true) else (c :: (splitEq r).1, (splitEq r).2.1, (splitEq r).2.2)
def rdnL (l : List Int) : List Int × List Int := if (splitEq l).2.2 = true then ((splitEq l).1, unesc (splitEq l).2.1) else ([], [])
theorem spec_l02Rdn_l1 (t : ByteArray) (ht : t.size ≤ 1048576) (e : Int) (he0 : 0 ≤ e) (he1 : e ≤ t.size) : ∀ (n d k : Nat) (a : List Int) (i : Int), d ≤ n → 0 ≤ i → i + d = t.size → d + 1 < k → a.length ≤ i →
  spec_l02Rdn.l1 k t e a i = some (t.extract 0 e.toNat, strOfNums (a ++ unesc ((bytesOf t).drop i.toNat)))
 | n, 0, k, a, i, hn, h0, hi, hk, ha => by
  obtain ⟨k, rfl⟩ : ∃ q, k = q + 1 := ⟨k - 1, by omega⟩
  rw [spec_l02Rdn.l1, if_neg (by omega), if_pos he0, if_pos he1, List.drop_of_length_le (by rw [bytesOf_length]; omega)]
  simp [unesc_nil, unesc_cons]
 | 0, d + 1, k, a, i, hn, h0, hi, hk, ha => by omega
 | n + 1, d + 1, k, a, i, hn, h0, hi, hk, ha => by
  obtain ⟨k, rfl⟩ : ∃ q, k = q + 1 := ⟨k - 1, by omega⟩
  rw [spec_l02Rdn.l1, if_pos (by omega), if_pos h0, w64 (x := i + 1) (by omega) (by omega), drop_bt t i h0 (by omega), unesc_cons]
  by_cases h92 : bt t i = 92
  ·rw [if_pos h92, if_pos h92]
   by_cases hlt : i + 1 < (t.size : Int)
   ·obtain ⟨d, rfl⟩ : ∃ q, d = q + 1 := ⟨d - 1, by omega⟩
    rw [if_pos hlt, if_pos (by omega), if_pos (by omega), w64 (x := i + 1 + 1) (by omega) (by omega), spec_l02Rdn_l1 t ht e he0 he1 n d k _ (i + 1 + 1) (by omega) (by omega) (by omega) (by omega) (by simp; omega), drop_bt t (i + 1) (by omega) hlt]
    simp
   ·rw [if_neg hlt, if_pos (by omega), spec_l02Rdn_l1 t ht e he0 he1 n d k _ (i + 1) (by omega) (by omega) (by omega) (by omega) (by simp; omega), List.drop_of_length_le (l := bytesOf t) (i := (i + 1).toNat) (by rw [bytesOf_length]; omega)]
    simp [unesc_nil, unesc_cons]
  ·rw [if_neg h92, if_neg h92, if_pos (by omega), spec_l02Rdn_l1 t ht e he0 he1 n d k _ (i + 1) (by omega) (by omega) (by omega) (by omega) (by simp; omega)]
   simp
theorem spec_l02Rdn_l0 (t : ByteArray) (ht : t.size ≤ 1048576) : ∀ (d k : Nat) (i : Int), 0 ≤ i → i + d = t.size → 2 * d + 3 < k →
  spec_l02Rdn.l0 k t i = some (if (splitEq ((bytesOf t).drop i.toNat)).2.2 = true then (t.extract 0 (i.toNat + (splitEq ((bytesOf t).drop i.toNat)).1.length), strOfNums (unesc (splitEq ((bytesOf t).drop i.toNat)).2.1)) else ((⟨#[]⟩ : ByteArray), (⟨#[]⟩ : ByteArray)))
 | 0, k, i, h0, hi, hk => by
  obtain ⟨k, rfl⟩ : ∃ q, k = q + 2 := ⟨k - 2, by omega⟩
  rw [spec_l02Rdn.l0, if_neg (by omega), spec_l02Rdn.j1, if_pos (by omega), List.drop_of_length_le (by rw [bytesOf_length]; omega)]
  rfl
 | d + 1, k, i, h0, hi, hk => by
  obtain ⟨k, rfl⟩ : ∃ q, k = q + 2 := ⟨k - 2, by omega⟩
  rw [spec_l02Rdn.l0, if_pos (by omega), if_pos h0, drop_bt t i h0 (by omega)]
  by_cases h61 : bt t i = 61
  ·have e : splitEq (bt t i :: (bytesOf t).drop (i + 1).toNat) = ([], (bytesOf t).drop (i + 1).toNat, true) := by rw [splitEq, if_pos h61]
   rw [if_pos h61, spec_l02Rdn.j1, if_neg (by omega), w64 (x := i + 1) (by omega) (by omega), spec_l02Rdn_l1 t ht i h0 (by omega) d d k [] (i + 1) (by omega) (by omega) (by omega) (by omega) (by simp; omega), e]
   simp
  ·have e : splitEq (bt t i :: (bytesOf t).drop (i + 1).toNat) = (bt t i :: (splitEq ((bytesOf t).drop (i + 1).toNat)).1, (splitEq ((bytesOf t).drop (i + 1).toNat)).2.1, (splitEq ((bytesOf t).drop (i + 1).toNat)).2.2) := by rw [splitEq, if_neg h61]
   rw [if_neg h61, w64 (x := i + 1) (by omega) (by omega), spec_l02Rdn_l0 t ht d (k + 1) (i + 1) (by omega) (by omega) (by omega), e]
   simp only [List.length_cons]
   rw [show (i + 1).toNat + (splitEq ((bytesOf t).drop (i + 1).toNat)).1.length = i.toNat + ((splitEq ((bytesOf t).drop (i + 1).toNat)).1.length + 1) by omega]
theorem splitEq_take : ∀ (l : List Int), (splitEq l).2.2 = true → l.take (splitEq l).1.length = (splitEq l).1
 | [], h => by simp [splitEq] at h
 | c :: r, h => by
  simp only [splitEq] at h ⊢
  split
  ·rfl
  ·rename_i hc
   rw [if_neg hc] at h
   simp only [List.length_cons, List.take_succ_cons]
   rw [splitEq_take r h]
def rdnP (l : List Int) : Rd := ⟨strOfNums (rdnL l).1, strOfNums (rdnL l).2⟩
theorem spec_l02Rdn_f (l : List Int) (hl : l.length ≤ 1048576) (hr : ∀ x ∈ l, 0 ≤ x ∧ x ≤ 255) (k : Nat) (hk : 2097170 < k) : spec_l02Rdn.f k (strOfNums l) = some ((rdnP l).f0, (rdnP l).f1) := by
 unfold spec_l02Rdn.f rdnP rdnL
 have hs : (strOfNums l).size = l.length := strOfNums_size l
 rw [spec_l02Rdn_l0 (strOfNums l) (by omega) l.length k 0 (by omega) (by omega) (by omega), show (0 : Int).toNat = 0 from rfl, List.drop_zero, bytesOf_son l hr, Nat.zero_add]
 split
 ·rename_i h
  have := splitEq_take l h
  rw [ext_son, bytesOf_son l hr, List.drop_zero, Nat.sub_zero, this]
 ·rfl
theorem cutL_range : ∀ (n : Nat) (l cur : List Int), l.length ≤ n → (∀ x ∈ l, 0 ≤ x ∧ x ≤ 255) → (∀ x ∈ cur, 0 ≤ x ∧ x ≤ 255) → ∀ y ∈ cutL l cur, ∀ x ∈ y, 0 ≤ x ∧ x ≤ 255
 | n, [], cur, h, hl, hc, y, hy => by simp [cutL_nil] at hy; rw [hy]; exact hc
 | 0, c :: r, cur, h, hl, hc, y, hy => by simp at h
 | n + 1, c :: r, cur, h, hl, hc, y, hy => by
  rw [cutL_cons] at hy
  simp only [List.length_cons] at h
  have hc0 := hl c (by simp)
  have hr : ∀ x ∈ r, 0 ≤ x ∧ x ≤ 255 := fun x hx => hl x (List.mem_cons_of_mem _ hx)
  split at hy
  ·match r, h, hr, hy with
   | [], h, hr, hy =>
    simp only [List.mem_singleton] at hy
    rw [hy]
    intro x hx
    rcases List.mem_append.1 hx with e | e
    ·exact hc x e
    ·rw [List.mem_singleton.1 e]; exact hc0
   | d :: r', h, hr, hy =>
    refine cutL_range n r' _ (by simp at h; omega) (fun x hx => hr x (List.mem_cons_of_mem _ hx)) (fun x hx => ?_) y hy
    rcases List.mem_append.1 hx with e | e
    ·exact hc x e
    ·rcases List.mem_cons.1 e with e | e
     ·rw [e]; exact hc0
     ·rw [List.mem_singleton.1 e]; exact hr d (by simp)
  ·split at hy
   ·rcases List.mem_cons.1 hy with e | e
    ·rw [e]; exact hc
    ·exact cutL_range n r [] (by omega) hr (fun x hx => by cases hx) y e
   ·refine cutL_range n r _ (by omega) hr (fun x hx => ?_) y hy
    rcases List.mem_append.1 hx with e | e
    ·exact hc x e
    ·rw [List.mem_singleton.1 e]; exact hc0
def DnTextP (l : List Rd) : ByteArray := if DnP l = true then TextP l else ⟨#[]⟩
theorem spec_DnText_f (l : List Rd) (hl : l.length ≤ 2000000) (k : Nat) (hk : 2000200 ≤ k) : spec_DnText.f k l = some (DnTextP l) := by
 unfold spec_DnText.f DnTextP
 by_cases h4 : (l.length : Int) > 400
 ·rw [if_pos h4, if_neg (fun h => by have := (DnP_mem h).1; omega)]
 ·rw [if_neg h4, spec_DnRight_f _ (by omega) _ (by omega), Option.bind_some]
  by_cases h : DnP l = true
  ·rw [if_pos h, if_pos h, spec_l02Text_f l h _ (by omega)]; rfl
  ·rw [if_neg h, if_neg h]
def readS (t : ByteArray) : List Rd := (cutL (bytesOf t) []).map rdnP
theorem spec_l02Read_l0 (t : ByteArray) (ht : t.size ≤ 1048576) (ps : List (List Int)) (hp : ps.length ≤ 1048577) (hs : ∀ x ∈ ps, x.length ≤ 1048576) (hr : ∀ y ∈ ps, ∀ x ∈ y, 0 ≤ x ∧ x ≤ 255) : ∀ (d k : Nat) (a : List Rd) (i : Int), 0 ≤ i → i + d = ps.length → 3000000 + d < k → a.length ≤ i →
  spec_l02Read.l0 k t a (ps.map strOfNums) i = some (a ++ (ps.drop i.toNat).map rdnP, (DnTextP (a ++ (ps.drop i.toNat).map rdnP)).toList == t.toList)
 | 0, k, a, i, h0, hi, hk, ha => by
  obtain ⟨k, rfl⟩ : ∃ q, k = q + 1 := ⟨k - 1, by omega⟩
  rw [spec_l02Read.l0, if_neg (by rw [List.length_map]; omega), List.drop_of_length_le (by omega), List.map_nil, List.append_nil, spec_DnText_f a (by omega) k (by omega)]
  rfl
 | d + 1, k, a, i, h0, hi, hk, ha => by
  obtain ⟨k, rfl⟩ : ∃ q, k = q + 1 := ⟨k - 1, by omega⟩
  have hil : i.toNat < ps.length := by omega
  have hm : ps[i.toNat] ∈ ps := List.getElem_mem hil
  have hrd : rdOf ByteArray.empty (ps.map strOfNums) i = strOfNums ps[i.toNat] := by
   unfold rdOf
   rw [List.getD_eq_getElem?_getD, List.getElem?_map, List.getElem?_eq_getElem hil]; rfl
  rw [spec_l02Read.l0, if_pos (by rw [List.length_map]; omega), if_pos h0, hrd, spec_l02Rdn_f _ (hs _ hm) (hr _ hm) k (by omega)]
  simp only [Option.bind_some]
  rw [if_pos (by omega), w64 (x := i + 1) (by omega) (by omega), spec_l02Read_l0 t ht ps hp hs hr d k _ (i + 1) (by omega) (by omega) (by omega) (by simp; omega), List.drop_eq_getElem_cons hil, show (i + 1).toNat = i.toNat + 1 by omega]
  simp only [List.map_cons, List.append_assoc, List.cons_append, List.nil_append]
theorem spec_l02Read_f (t : ByteArray) (ht : t.size ≤ 1048576) (k : Nat) (hk : 10000000 ≤ k) : spec_l02Read.f k t = some (if t.toList = [] then ([], true) else (readS t, (DnTextP (readS t)).toList == t.toList)) := by
 unfold spec_l02Read.f
 simp only [Option.bind_some]
 by_cases h : t.toList = []
 ·rw [if_pos h, if_pos h]
 ·have hb := bytesOf_length t
  unfold spec_l02Cut.f
  rw [if_neg h, if_neg h, spec_l02Cut_l0 t ht t.size k [] [] 0 (by omega) (by omega) (by omega) (by simp) (by simp), show (0 : Int).toNat = 0 from rfl, List.drop_zero, List.nil_append]
  simp only [Option.bind_some]
  have h1 := cutL_length (bytesOf t).length (bytesOf t) [] (by omega)
  rw [spec_l02Read_l0 t ht _ (by omega) (fun x hx => by have := cutL_sizes (bytesOf t).length (bytesOf t) [] (by omega) x hx; simp at this; omega)
   (cutL_range (bytesOf t).length (bytesOf t) [] (by omega) (fun x hx => by obtain ⟨b, _, rfl⟩ := List.mem_map.1 hx; have := b.toNat_lt; omega) (fun x hx => by cases hx)) (cutL (bytesOf t) []).length k [] 0 (by omega) (by omega) (by omega) (by simp)]
  rfl
def scanL : List Int → List Rd → Bool → List Int → List Int → List Rd
 | [], acc, _, a, v => acc ++ [⟨strOfNums a, strOfNums v⟩]
 | c :: r, acc, inV, a, v =>
  if inV = true then
   (if c = 44 then scanL r (acc ++ [⟨strOfNums a, strOfNums v⟩]) false [] []
   else if c = 92 then (match r with
    | [] => acc ++ [⟨strOfNums a, strOfNums (v ++ [c])⟩]
    | d :: r' => scanL r' acc true a (v ++ [d]))
   else scanL r acc true a (v ++ [c]))
  else if c = 61 then scanL r acc true a v else scanL r acc false (a ++ [c]) v
theorem scanL_nil (acc : List Rd) (b : Bool) (a v : List Int) : scanL [] acc b a v = acc ++ [⟨strOfNums a, strOfNums v⟩] := by rw [scanL.eq_def]
theorem scanL_cons (c : Int) (r : List Int) (acc : List Rd) (inV : Bool) (a v : List Int) : scanL (c :: r) acc inV a v =
  if inV = true then
   (if c = 44 then scanL r (acc ++ [⟨strOfNums a, strOfNums v⟩]) false [] []
   else if c = 92 then (match r with
    | [] => acc ++ [⟨strOfNums a, strOfNums (v ++ [c])⟩]
    | d :: r' => scanL r' acc true a (v ++ [d]))
   else scanL r acc true a (v ++ [c]))
  else if c = 61 then scanL r acc true a v else scanL r acc false (a ++ [c]) v := by rw [scanL.eq_def]
def readI (t : ByteArray) : List Rd := scanL (bytesOf t) [] false [] []
theorem ext_one (t : ByteArray) (i : Int) (h0 : 0 ≤ i) (h1 : i < t.size) : t.extract i.toNat (i + 1).toNat = strOfNums [bt t i] := by
 rw [ext_son, drop_bt t i h0 h1, show (i + 1).toNat - i.toNat = 1 by omega]
 rfl
theorem impl_readDn_l0 (t : ByteArray) (ht : t.size ≤ 1048576) : ∀ (d k : Nat) (acc : List Rd) (inV : Bool) (i : Int) (a v : List Int), 0 ≤ i → i + d = t.size → 10200 + 2 * d < k → acc.length ≤ i → a.length ≤ i → v.length ≤ i →
  impl_readDn.l0 k t acc inV i (strOfNums a) (strOfNums v) = some (scanL ((bytesOf t).drop i.toNat) acc inV a v, if DnP (scanL ((bytesOf t).drop i.toNat) acc inV a v) = true then (TextP (scanL ((bytesOf t).drop i.toNat) acc inV a v)).toList == t.toList else false)
 | 0, k, acc, inV, i, a, v, h0, hi, hk, h1, h2, h3 => by
  obtain ⟨k, rfl⟩ : ∃ q, k = q + 1 := ⟨k - 1, by omega⟩
  rw [impl_readDn.l0, if_neg (by omega), if_pos (by omega), List.drop_of_length_le (by rw [bytesOf_length]; omega)]
  simp only [Option.bind_some, scanL_nil]
  rw [impl_DnRight_f _ _ (by omega), Option.bind_some]
  by_cases h : DnP (acc ++ [(⟨strOfNums a, strOfNums v⟩ : Rd)]) = true
  ·rw [if_pos h, if_pos h, impl_dnText_f _ h _ (by omega)]; rfl
  ·rw [if_neg h, if_neg h]
 | d + 1, k, acc, inV, i, a, v, h0, hi, hk, h1, h2, h3 => by
  obtain ⟨k, rfl⟩ : ∃ q, k = q + 2 := ⟨k - 2, by omega⟩
  have ha := strOfNums_size a
  have hv := strOfNums_size v
  rw [impl_readDn.l0, if_pos (by omega), if_pos h0, drop_bt t i h0 (by omega)]
  cases inV with
  | false =>
   rw [if_neg (by simp)]
   by_cases h61 : bt t i = 61
   ·rw [h61, show ((61 : Int) == 61) = true from rfl, impl_readDn.j1, if_pos rfl, w64 (x := i + 1) (by omega) (by omega), impl_readDn_l0 t ht d k acc true (i + 1) a v (by omega) (by omega) (by omega) (by omega) (by omega) (by omega)]
    have e : scanL (61 :: (bytesOf t).drop (i + 1).toNat) acc false a v = scanL ((bytesOf t).drop (i + 1).toNat) acc true a v := by rw [scanL_cons, if_neg (by simp), if_pos rfl]
    rw [e]
   ·rw [beq_eq_false_iff_ne.2 h61, impl_readDn.j1, if_neg (by simp), if_neg (by simp)]
    simp only [Option.bind_some]
    rw [if_pos (by rw [strOfNums_size [bt t i]]; simp; omega), w64 (x := i + 1) (by omega) (by omega), ← son_append, impl_readDn_l0 t ht d k acc false (i + 1) (a ++ [bt t i]) v (by omega) (by omega) (by omega) (by omega) (by simp; omega) (by omega)]
    have e : scanL (bt t i :: (bytesOf t).drop (i + 1).toNat) acc false a v = scanL ((bytesOf t).drop (i + 1).toNat) acc false (a ++ [bt t i]) v := by rw [scanL_cons, if_neg (by simp), if_neg h61]
    rw [e]
  | true =>
   rw [if_pos rfl, impl_readDn.j1, if_neg (by simp), if_pos rfl]
   by_cases h44 : bt t i = 44
   ·rw [if_pos h44, if_pos (by omega), w64 (x := i + 1) (by omega) (by omega)]
    have := impl_readDn_l0 t ht d k (acc ++ [⟨strOfNums a, strOfNums v⟩]) false (i + 1) [] [] (by omega) (by omega) (by omega) (by simp; omega) (by simp; omega) (by simp; omega)
    rw [show strOfNums [] = (⟨#[]⟩ : ByteArray) from rfl] at this
    rw [this]
    have e : scanL (bt t i :: (bytesOf t).drop (i + 1).toNat) acc true a v = scanL ((bytesOf t).drop (i + 1).toNat) (acc ++ [⟨strOfNums a, strOfNums v⟩]) false [] [] := by rw [scanL_cons, if_pos rfl, if_pos h44]
    rw [e]
   ·rw [if_neg h44, w64 (x := i + 1) (by omega) (by omega)]
    by_cases h92 : bt t i = 92
    ·rw [if_pos h92]
     by_cases hn : i + 1 < (t.size : Int)
     ·obtain ⟨d, rfl⟩ : ∃ q, d = q + 1 := ⟨d - 1, by omega⟩
      rw [if_pos hn, w64 (x := i + 1 + 1) (by omega) (by omega), if_pos (by omega), if_pos (by omega), if_pos (by omega), ext_one t (i + 1) (by omega) hn, if_pos (by rw [strOfNums_size [bt t (i + 1)]]; simp; omega), ← son_append,
       impl_readDn_l0 t ht d k acc true (i + 1 + 1) a (v ++ [bt t (i + 1)]) (by omega) (by omega) (by omega) (by omega) (by omega) (by simp; omega)]
      have e : scanL (bt t i :: (bytesOf t).drop (i + 1).toNat) acc true a v = scanL ((bytesOf t).drop (i + 1 + 1).toNat) acc true a (v ++ [bt t (i + 1)]) := by
       rw [drop_bt t (i + 1) (by omega) hn, scanL_cons, if_pos rfl, if_neg h44, if_pos h92]
      rw [e]
     ·rw [if_neg hn, if_pos h0, if_pos (by omega), if_pos (by omega), ext_one t i h0 (by omega), if_pos (by rw [strOfNums_size [bt t i]]; simp; omega), ← son_append,
       impl_readDn_l0 t ht d k acc true (i + 1) a (v ++ [bt t i]) (by omega) (by omega) (by omega) (by omega) (by omega) (by simp; omega)]
      have e : scanL (bt t i :: (bytesOf t).drop (i + 1).toNat) acc true a v = scanL ((bytesOf t).drop (i + 1).toNat) acc true a (v ++ [bt t i]) := by
       rw [List.drop_of_length_le (l := bytesOf t) (i := (i + 1).toNat) (by rw [bytesOf_length]; omega), scanL_cons, if_pos rfl, if_neg h44, if_pos h92, scanL_nil]
      rw [e]
    ·rw [if_neg h92, if_pos h0, if_pos (by omega), if_pos (by omega), ext_one t i h0 (by omega), if_pos (by rw [strOfNums_size [bt t i]]; simp; omega), ← son_append,
      impl_readDn_l0 t ht d k acc true (i + 1) a (v ++ [bt t i]) (by omega) (by omega) (by omega) (by omega) (by omega) (by simp; omega)]
     have e : scanL (bt t i :: (bytesOf t).drop (i + 1).toNat) acc true a v = scanL ((bytesOf t).drop (i + 1).toNat) acc true a (v ++ [bt t i]) := by rw [scanL_cons, if_pos rfl, if_neg h44, if_neg h92]
     rw [e]
theorem impl_readDn_f (t : ByteArray) (ht : t.size ≤ 1048576) (k : Nat) (hk : 10000000 ≤ k) : impl_readDn.f k t = some (if t.toList = [] then ([], true) else (readI t, if DnP (readI t) = true then (TextP (readI t)).toList == t.toList else false)) := by
 unfold impl_readDn.f
 simp only [Option.bind_some]
 by_cases h : t.toList = []
 ·rw [if_pos h, if_pos h]
 ·rw [if_neg h, if_neg h]
  have := impl_readDn_l0 t ht t.size k [] false 0 [] [] (by omega) (by omega) (by omega) (by simp) (by simp) (by simp)
  rw [show strOfNums [] = (⟨#[]⟩ : ByteArray) from rfl, show (0 : Int).toNat = 0 from rfl, List.drop_zero] at this
  exact this
theorem nch_plain {c : Int} (h : nch c = true) : c ≠ 44 ∧ c ≠ 61 ∧ c ≠ 92 := by
 unfold nch lowc at h
 simp only [Bool.or_eq_true, Bool.and_eq_true, decide_eq_true_eq] at h
 omega
theorem NameP_bytes {s : ByteArray} (h : NameP s = true) : ∀ c ∈ bytesOf s, nch c = true := by
 unfold NameP at h
 simp only [Bool.and_eq_true, List.all_eq_true] at h
 exact h.2
theorem oddP_not {s : ByteArray} {i : Int} (h : oddP s i = false) : bt s i ≠ 44 ∧ bt s i ≠ 92 := by
 unfold oddP at h
 simp only [Bool.or_eq_false_iff, decide_eq_false_iff_not] at h
 exact ⟨h.1.1.1.1.1.1.1.1, h.1.1.1.1.1.2⟩
theorem cutL_name : ∀ (l cur rest : List Int), (∀ c ∈ l, nch c = true) → cutL (l ++ rest) cur = cutL rest (cur ++ l)
 | [], cur, rest, h => by simp
 | c :: l, cur, rest, h => by
  have hc := nch_plain (h c (by simp))
  rw [List.cons_append, cutL_cons, if_neg hc.2.2, if_neg hc.1, cutL_name l _ rest (fun x hx => h x (List.mem_cons_of_mem _ hx))]
  simp
theorem cutL_esc (s : ByteArray) : ∀ (d : Nat) (i : Int) (cur rest : List Int), cutL (escF s d i ++ rest) cur = cutL rest (cur ++ escF s d i)
 | 0, i, cur, rest => by simp [escF]
 | d + 1, i, cur, rest => by
  simp only [escF]
  cases ho : oddP s i with
  | true =>
   rw [if_pos rfl]
   simp only [List.cons_append, List.nil_append]
   rw [cutL_cons, if_pos rfl]
   show cutL (escF s d (i + 1) ++ rest) (cur ++ [92, bt s i]) = _
   rw [cutL_esc s d (i + 1)]
   simp
  | false =>
   obtain ⟨h44, h92⟩ := oddP_not ho
   rw [if_neg (by simp)]
   simp only [List.cons_append, List.nil_append]
   rw [cutL_cons, if_neg h92, if_neg h44, cutL_esc s d (i + 1)]
   simp
def rdnB (x : Rd) : List Int := bytesOf x.f0 ++ ([61] ++ escB x.f1)
theorem cutL_text : ∀ (l : List Rd) (cur : List Int), (∀ x ∈ l, RdnP x = true) → cutL (textB true l) cur = cur :: l.map rdnB
 | [], cur, h => by simp [textB, cutL_nil]
 | x :: xs, cur, h => by
  have hx := h x (by simp)
  unfold RdnP at hx
  simp only [Bool.and_eq_true] at hx
  simp only [textB]
  rw [if_pos trivial, List.cons_append, List.nil_append, cutL_cons, if_neg (by decide), if_pos rfl, cutL_name _ _ _ (NameP_bytes hx.1), List.nil_append]
  rw [List.cons_append, List.nil_append, cutL_cons, if_neg (by decide), if_neg (by decide)]
  show cur :: cutL (escF x.f1 x.f1.size 0 ++ textB true xs) _ = _
  rw [cutL_esc, cutL_text xs _ (fun y hy => h y (List.mem_cons_of_mem _ hy))]
  simp [rdnB, escB]
theorem cutL_text0 (x : Rd) (xs : List Rd) (h : ∀ y ∈ x :: xs, RdnP y = true) : cutL (textB false (x :: xs)) [] = (x :: xs).map rdnB := by
 have hx := h x (by simp)
 unfold RdnP at hx
 simp only [Bool.and_eq_true] at hx
 simp only [textB]
 rw [if_neg (by simp), List.nil_append, cutL_name _ _ _ (NameP_bytes hx.1), List.nil_append, List.cons_append, List.nil_append, cutL_cons, if_neg (by decide), if_neg (by decide)]
 show cutL (escF x.f1 x.f1.size 0 ++ textB true xs) _ = _
 rw [cutL_esc, cutL_text xs _ (fun y hy => h y (List.mem_cons_of_mem _ hy))]
 simp [rdnB, escB]
theorem unesc_esc (s : ByteArray) : ∀ (d : Nat) (i : Int), 0 ≤ i → i + d = s.size → unesc (escF s d i) = (bytesOf s).drop i.toNat
 | 0, i, h0, hi => by
  rw [List.drop_of_length_le (by rw [bytesOf_length]; omega)]
  simp [escF, unesc_nil]
 | d + 1, i, h0, hi => by
  simp only [escF]
  rw [drop_bt s i h0 (by omega)]
  cases ho : oddP s i with
  | true =>
   rw [if_pos rfl]
   simp only [List.cons_append, List.nil_append]
   rw [unesc_cons, if_pos rfl]
   show bt s i :: unesc (escF s d (i + 1)) = _
   rw [unesc_esc s d (i + 1) (by omega) (by omega)]
  | false =>
   obtain ⟨h44, h92⟩ := oddP_not ho
   rw [if_neg (by simp)]
   simp only [List.cons_append, List.nil_append]
   rw [unesc_cons, if_neg h92, unesc_esc s d (i + 1) (by omega) (by omega)]
theorem splitEq_name : ∀ (l rest : List Int), (∀ c ∈ l, nch c = true) → splitEq (l ++ 61 :: rest) = (l, rest, true)
 | [], rest, h => by simp [splitEq]
 | c :: l, rest, h => by
  have hc := nch_plain (h c (by simp))
  rw [List.cons_append, splitEq, if_neg hc.2.1, splitEq_name l rest (fun x hx => h x (List.mem_cons_of_mem _ hx))]
theorem rdnP_rdnB (x : Rd) (h : RdnP x = true) : rdnP (rdnB x) = x := by
 unfold RdnP at h
 simp only [Bool.and_eq_true] at h
 unfold rdnP rdnL rdnB
 rw [List.cons_append, List.nil_append, splitEq_name _ _ (NameP_bytes h.1)]
 rw [if_pos rfl]
 show (⟨strOfNums (bytesOf x.f0), strOfNums (unesc (escF x.f1 x.f1.size 0))⟩ : Rd) = x
 rw [unesc_esc x.f1 x.f1.size 0 (by omega) (by omega), show (0 : Int).toNat = 0 from rfl, List.drop_zero, son_bytesOf, son_bytesOf]
theorem textB_range : ∀ (l : List Rd) (b : Bool), ∀ x ∈ textB b l, 0 ≤ x ∧ x ≤ 255
 | [], b, x, h => by simp [textB] at h
 | y :: ys, b, x, h => by
  simp only [textB, List.mem_append] at h
  rcases h with h | h | h | h | h
  ·split at h <;> simp at h
   omega
  ·obtain ⟨c, _, rfl⟩ := List.mem_map.1 h
   have := c.toNat_lt; omega
  ·simp at h; omega
  ·exact escF_range _ _ _ x h
  ·exact textB_range ys true x h
theorem bytesOf_TextP (l : List Rd) : bytesOf (TextP l) = textB false l := bytesOf_son _ (textB_range l false)
theorem readS_TextP (l : List Rd) (h : DnP l = true) (hn : l ≠ []) : readS (TextP l) = l := by
 unfold readS
 rw [bytesOf_TextP]
 match l, hn, h with
 | x :: xs, _, h =>
  have hr := (DnP_mem h).2
  rw [cutL_text0 x xs hr, List.map_map]
  have : ∀ l : List Rd, (∀ y ∈ l, RdnP y = true) → l.map (rdnP ∘ rdnB) = l := by
   intro l hl
   induction l with
   | nil => rfl
   | cons y ys ih =>
    rw [List.map_cons, ih (fun z hz => hl z (List.mem_cons_of_mem _ hz))]
    show rdnP (rdnB y) :: ys = _
    rw [rdnP_rdnB y (hl y (by simp))]
  exact this _ hr
theorem scanL_name : ∀ (l rest : List Int) (acc : List Rd) (a v : List Int), (∀ c ∈ l, nch c = true) → scanL (l ++ rest) acc false a v = scanL rest acc false (a ++ l) v
 | [], rest, acc, a, v, h => by simp
 | c :: l, rest, acc, a, v, h => by
  have hc := nch_plain (h c (by simp))
  rw [List.cons_append, scanL_cons, if_neg (by simp), if_neg hc.2.1, scanL_name l rest acc _ v (fun x hx => h x (List.mem_cons_of_mem _ hx))]
  simp
theorem scanL_esc (s : ByteArray) : ∀ (d : Nat) (i : Int) (rest : List Int) (acc : List Rd) (a v : List Int), 0 ≤ i → i + d = s.size → scanL (escF s d i ++ rest) acc true a v = scanL rest acc true a (v ++ (bytesOf s).drop i.toNat)
 | 0, i, rest, acc, a, v, h0, hi => by
  rw [List.drop_of_length_le (by rw [bytesOf_length]; omega)]
  simp [escF]
 | d + 1, i, rest, acc, a, v, h0, hi => by
  simp only [escF]
  rw [drop_bt s i h0 (by omega)]
  cases ho : oddP s i with
  | true =>
   rw [if_pos rfl]
   simp only [List.cons_append, List.nil_append]
   rw [scanL_cons, if_pos rfl, if_neg (by decide), if_pos rfl]
   show scanL (escF s d (i + 1) ++ rest) acc true a (v ++ [bt s i]) = _
   rw [scanL_esc s d (i + 1) rest acc a _ (by omega) (by omega)]
   simp
  | false =>
   obtain ⟨h44, h92⟩ := oddP_not ho
   rw [if_neg (by simp)]
   simp only [List.cons_append, List.nil_append]
   rw [scanL_cons, if_pos rfl, if_neg h44, if_neg h92, scanL_esc s d (i + 1) rest acc a _ (by omega) (by omega)]
   simp
theorem scanL_one (x : Rd) (h : RdnP x = true) (rest : List Int) (acc : List Rd) : scanL (bytesOf x.f0 ++ ([61] ++ (escB x.f1 ++ rest))) acc false [] [] = scanL rest acc true (bytesOf x.f0) (bytesOf x.f1) := by
 unfold RdnP at h
 simp only [Bool.and_eq_true] at h
 rw [scanL_name _ _ _ _ _ (NameP_bytes h.1), List.nil_append, List.cons_append, List.nil_append, scanL_cons, if_neg (by simp), if_pos rfl]
 show scanL (escF x.f1 x.f1.size 0 ++ rest) acc true _ _ = _
 rw [scanL_esc x.f1 x.f1.size 0 rest acc _ _ (by omega) (by omega)]
 simp
theorem scanL_text : ∀ (l : List Rd) (x : Rd) (acc : List Rd), (∀ y ∈ l, RdnP y = true) → scanL (textB true l) acc true (bytesOf x.f0) (bytesOf x.f1) = acc ++ x :: l
 | [], x, acc, h => by
  simp only [textB, scanL_nil]
  rw [son_bytesOf, son_bytesOf]
 | y :: ys, x, acc, h => by
  simp only [textB]
  rw [if_pos trivial, List.cons_append, List.nil_append, scanL_cons, if_pos rfl, if_pos rfl, son_bytesOf, son_bytesOf, scanL_one y (h y (by simp)), scanL_text ys y _ (fun z hz => h z (List.mem_cons_of_mem _ hz))]
  simp
theorem readI_TextP (l : List Rd) (h : DnP l = true) (hn : l ≠ []) : readI (TextP l) = l := by
 unfold readI
 rw [bytesOf_TextP]
 match l, hn, h with
 | x :: xs, _, h =>
  have hr := (DnP_mem h).2
  simp only [textB]
  rw [if_neg (by simp), List.nil_append, scanL_one x (hr x (by simp)), scanL_text xs x [] (fun z hz => hr z (List.mem_cons_of_mem _ hz))]
  rfl
theorem ba_nil_toList : (⟨#[]⟩ : ByteArray).toList = [] := by rw [Go.Lib.toList_data]
theorem TextP_nil : TextP [] = (⟨#[]⟩ : ByteArray) := rfl
theorem readI_nil_ne {t : ByteArray} (h : t.toList ≠ []) {l : List Rd} (e : (TextP l).toList = t.toList) : l ≠ [] := by
 rintro rfl
 apply h
 rw [← e, TextP_nil, ba_nil_toList]
theorem read_both {t : ByteArray} (h : t.toList ≠ []) : (DnP (readI t) = true ∧ (TextP (readI t)).toList = t.toList) ↔ (DnP (readS t) = true ∧ (TextP (readS t)).toList = t.toList) := by
 constructor
 ·rintro ⟨h1, h2⟩
  have e : readS t = readI t := by
   conv => lhs; rw [← ba_inj.1 h2]
   exact readS_TextP _ h1 (readI_nil_ne h h2)
  rw [e]; exact ⟨h1, h2⟩
 ·rintro ⟨h1, h2⟩
  have e : readI t = readS t := by
   conv => lhs; rw [← ba_inj.1 h2]
   exact readI_TextP _ h1 (readI_nil_ne h h2)
  rw [e]; exact ⟨h1, h2⟩
theorem read_same {t : ByteArray} (h : t.toList ≠ []) (h1 : DnP (readS t) = true) (h2 : (TextP (readS t)).toList = t.toList) : readI t = readS t := by
 conv => lhs; rw [← ba_inj.1 h2]
 exact readI_TextP _ h1 (readI_nil_ne h h2)
theorem laws_szEntry_f (d : List S195) (l : List S197) (hd : d.length ≤ 140737488351232) (hl : l.length ≤ 140737488351232) (hM : ∀ x ∈ l, x.f1.length ≤ 140737488351232) (a : Int) (k : Nat) (hk : 1125899906842624 < k) : ∃ r, laws_szEntry.f k d l a = some r := by
 unfold laws_szEntry.f
 obtain ⟨r, e⟩ := laws_szRdnS_f d (by omega) a k (by omega)
 rw [e, Option.bind_some]
 split
 ·exact ⟨_, rfl⟩
 ·obtain ⟨r2, e2⟩ := laws_szAttrS_f l (by omega) r 140737488351232 (fun x hx => by have := hM x hx; omega) k (by omega)
  rw [e2, Option.bind_some]
  split <;> exact ⟨_, rfl⟩
theorem laws_toEntry_f (d : List S195) (l : List S197) (hd : d.length ≤ 8796093022208) (hl : l.length ≤ 7036874417766) (hM : ∀ x ∈ l, x.f1.length ≤ 17592186044416) (k : Nat) (hk : 1125899906842624 < k) : laws_toEntry.f k d l = some (d.map cvRdn, l.map cvAttr) := by
 unfold laws_toEntry.f
 rw [laws_toRdnS_f d hd k (by omega), laws_toAttrS_f l hl 17592186044416 (fun x hx => by have := hM x hx; omega) k (by omega)]
 rfl
theorem laws_eqEntry_f (d : List Rd) (l : List At) (hd : d.length ≤ 140737488351232) (hl : l.length ≤ 140737488351232) (hM : ∀ x ∈ l, x.f1.length ≤ 140737488351232) (k : Nat) (hk : 1125899906842624 < k) : laws_eqEntry.f k d l d l = some true := by
 unfold laws_eqEntry.f
 rw [laws_eqRdnS_f d (by omega) k (by omega), laws_eqAttrS_f l (by omega) 140737488351232 (fun x hx => by have := hM x hx; omega) k (by omega)]
 simp
def sAt (l : List ByteArray) (j : Nat) : ByteArray := l.getD j ByteArray.empty
theorem sAt_size (l : List ByteArray) (hs : ∀ x ∈ l, x.size ≤ 140737488351232) (j : Nat) : (sAt l j).size ≤ 140737488351232 := by
 unfold sAt
 rw [List.getD_eq_getElem?_getD]
 by_cases h : j < l.length
 ·rw [List.getElem?_eq_getElem h]; exact hs _ (List.getElem_mem h)
 ·rw [List.getElem?_eq_none (by omega)]; decide
theorem rdOf_sAt (l : List ByteArray) (i : Int) : rdOf ByteArray.empty l i = sAt l i.toNat := rfl
theorem cmp_iff : ∀ (a b : List UInt8), Lib.compareBytes a b ≥ 0 ↔ Op.bytesLess a b = false
 | [], [] => by simp [Lib.compareBytes, Op.bytesLess]
 | [], _ :: _ => by simp [Lib.compareBytes, Op.bytesLess]
 | _ :: _, [] => by simp [Lib.compareBytes, Op.bytesLess]
 | a :: p, b :: q => by
  rw [Lib.compareBytes, Op.bytesLess]
  by_cases h1 : a < b
  ·simp [h1]
  ·by_cases h2 : b < a
   ·have hne : ¬ (a = b) := fun e => by subst e; exact h1 h2
    simp [h1, h2, hne]
   ·have he : a = b := UInt8.le_antisymm (UInt8.not_lt.1 h2) (UInt8.not_lt.1 h1)
    subst he
    rw [if_neg h1, if_neg h1, cmp_iff p q]
    simp
theorem cmp_less (a b : List UInt8) : decide (Lib.compareBytes a b ≥ 0) = !(Op.bytesLess a b) := by
 cases h : Op.bytesLess a b with
 | false => rw [decide_eq_true ((cmp_iff a b).2 h)]; rfl
 | true => rw [decide_eq_false (fun h2 => by rw [(cmp_iff a b).1 h2] at h; cases h)]; rfl
def valF (l : List ByteArray) (j : Nat) : Bool := ValueP (sAt l j) && (decide (j = 0) || Op.bytesLess (NormP (sAt l (j - 1))).toList (NormP (sAt l j)).toList)
def ValsP (l : List ByteArray) : Bool := (List.range l.length).all (valF l) && (decide (1 ≤ l.length) && decide (l.length ≤ 4))
theorem spec_l03Values_f (l : List ByteArray) (hl : l.length ≤ 140737488351232) (hs : ∀ x ∈ l, x.size ≤ 140737488351232) (k : Nat) (hk : 1125899906842624 + l.length < k) : spec_l03Values.f k l = some (ValsP l) := by
 unfold spec_l03Values.f ValsP
 rw [all_loop (decide (1 ≤ l.length) && decide (l.length ≤ 4)) (valF l) l.length (by omega) 1125899906842624 (fun k i => spec_l03Values.l0 k l i) (fun k i hk h0 hi => ?_) (fun k i hk h0 hi => ?_) l.length k 0 (by omega) (by omega) (by omega)]
 ·rw [List.range_eq_range']; rfl
 ·show spec_l03Values.l0 (k + 1) l i = if valF l i.toNat = true then spec_l03Values.l0 k l (wrap64 (i + 1)) else some false
  have h1 := sAt_size l hs i.toNat
  have h2 := sAt_size l hs (i.toNat - 1)
  rw [spec_l03Values.l0, if_pos hi, if_pos h0, rdOf_sAt, spec_l02Value_f _ k (by omega)]
  simp only [Option.bind_some]
  unfold valF
  cases hv : ValueP (sAt l i.toNat) with
  | false => simp
  | true =>
   rw [if_pos rfl]
   by_cases hz : i > 0
   ·rw [if_pos hz, w64 (x := i - 1) (by omega) (by omega), if_pos (by omega), if_pos (by omega), rdOf_sAt, show (i - 1).toNat = i.toNat - 1 by omega, spec_Norm_f _ k (by omega), spec_Norm_f _ k (by omega), decide_eq_false (p := i.toNat = 0) (by omega)]
    simp only [Option.bind_some, Bool.true_and, Bool.false_or]
   ·rw [if_neg hz, decide_eq_true (p := i.toNat = 0) (by omega)]
    simp
 ·show spec_l03Values.l0 (k + 1) l i = _
  rw [spec_l03Values.l0, if_neg (by omega)]
  by_cases h1 : (l.length : Int) ≥ 1
  ·rw [if_pos h1, decide_eq_true (p := 1 ≤ l.length) (by omega), Bool.true_and]
   congr 1
   by_cases h4 : l.length ≤ 4
   ·rw [decide_eq_true h4, decide_eq_true (by omega)]
   ·rw [decide_eq_false h4, decide_eq_false (by omega)]
  ·rw [if_neg h1, decide_eq_false (p := 1 ≤ l.length) (by omega)]; rfl
def AttrP (n : ByteArray) (l : List ByteArray) : Bool := NameP n && ValsP l
theorem impl_byNorm_f (a b : ByteArray) (k : Nat) (ha : 2 * a.size + 2 < k) (hb : 2 * b.size + 2 < k) : impl_byNorm.f k a b = some (Lib.compareBytes (NormP a).toList (NormP b).toList) := by
 unfold impl_byNorm.f strings_Compare.f
 rw [impl_Norm_f a k ha, impl_Norm_f b k hb, Go.Lib.toList_data, Go.Lib.toList_data]; rfl
theorem impl_isAttr_f (n : ByteArray) (l : List ByteArray) (hl : l.length ≤ 140737488351232) (hs : ∀ x ∈ l, x.size ≤ 140737488351232) (k : Nat) (hk : 1125899906842624 + 1 + l.length < k) : impl_isAttr.f k n l = some (AttrP n l) := by
 obtain ⟨k, rfl⟩ : ∃ q, k = q + 1 := ⟨k - 1, by omega⟩
 unfold impl_isAttr.f AttrP
 rw [impl_NameRight_f, Option.bind_some]
 cases NameP n with
 | false => rw [if_neg (by simp), impl_isAttr.j0, if_pos rfl]; rfl
 | true =>
  have hb : impl_between.f (l.length : Int) 1 4 = some (decide (1 ≤ l.length) && decide (l.length ≤ 4)) := by
   unfold impl_between.f
   by_cases h1 : (l.length : Int) ≥ 1
   ·rw [if_pos h1, decide_eq_true (p := 1 ≤ l.length) (by omega), Bool.true_and]
    congr 1
    by_cases h4 : l.length ≤ 4
    ·rw [decide_eq_true h4, decide_eq_true (by omega)]
    ·rw [decide_eq_false h4, decide_eq_false (by omega)]
   ·rw [if_neg h1, decide_eq_false (p := 1 ≤ l.length) (by omega)]; rfl
  unfold impl_size_string.f
  rw [if_pos rfl]
  simp only [Option.bind_some]
  rw [hb]
  simp only [Option.bind_some, Bool.true_and]
  unfold ValsP
  cases hc : (decide (1 ≤ l.length) && decide (l.length ≤ 4)) with
  | false => rw [impl_isAttr.j0, Bool.not_false, if_pos rfl, Bool.and_false]
  | true =>
   rw [impl_isAttr.j0, if_neg (by simp), all_loop true (valF l) l.length (by omega) 1125899906842624 (fun k i => impl_isAttr.l0 k l (l.length : Int) i n l) (fun k i hk h0 hi => ?_) (fun k i hk h0 hi => ?_) l.length k 0 (by omega) (by omega) (by omega)]
   ·rw [List.range_eq_range']; rfl
   ·show impl_isAttr.l0 (k + 1) l (l.length : Int) i n l = if valF l i.toNat = true then impl_isAttr.l0 k l (l.length : Int) (wrap64 (i + 1)) n l else some false
    have h1 := sAt_size l hs i.toNat
    have h2 := sAt_size l hs (i.toNat - 1)
    rw [impl_isAttr.l0, if_pos hi, if_pos h0, if_pos hi, rdOf_sAt, impl_isProper_f _ k (by omega)]
    simp only [Option.bind_some]
    unfold valF
    cases hv : ValueP (sAt l i.toNat) with
    | false => simp
    | true =>
     rw [if_pos rfl]
     by_cases hz : i > 0
     ·rw [if_pos hz, w64 (x := i - 1) (by omega) (by omega), if_pos (by omega), if_pos (by omega), rdOf_sAt, show (i - 1).toNat = i.toNat - 1 by omega, impl_byNorm_f _ _ k (by omega) (by omega), decide_eq_false (p := i.toNat = 0) (by omega)]
      simp only [Option.bind_some, Bool.true_and, Bool.false_or]
      have hcl := cmp_less (NormP (sAt l (i.toNat - 1))).toList (NormP (sAt l i.toNat)).toList
      cases hbl : Op.bytesLess (NormP (sAt l (i.toNat - 1))).toList (NormP (sAt l i.toNat)).toList with
      | true =>
       rw [hbl, Bool.not_true] at hcl
       rw [if_neg (of_decide_eq_false hcl), if_pos rfl]
      | false =>
       rw [hbl, Bool.not_false] at hcl
       rw [if_pos (of_decide_eq_true hcl), if_neg (by simp)]
     ·rw [if_neg hz, decide_eq_true (p := i.toNat = 0) (by omega)]
      simp
   ·show impl_isAttr.l0 (k + 1) l (l.length : Int) i n l = _
    rw [impl_isAttr.l0, if_neg (by omega)]
def aAt (l : List At) (j : Nat) : At := l.getD j z111
def attrF (l : List At) (j : Nat) : Bool := AttrP (aAt l j).f0 (aAt l j).f1 && (decide (j = 0) || Op.bytesLess (aAt l (j - 1)).f0.toList (aAt l j).f0.toList)
def AttrsP (l : List At) : Bool := (List.range l.length).all (attrF l) && decide (l.length ≤ 8)
def EntryP (dn : List Rd) (l : List At) : Bool := decide (0 < dn.length) && DnP dn && AttrsP l
def AtOK (l : List At) : Prop := l.length ≤ 140737488351232 ∧ ∀ x ∈ l, x.f1.length ≤ 140737488351232 ∧ ∀ s ∈ x.f1, s.size ≤ 140737488351232
theorem aAt_ok {l : List At} (h : AtOK l) (j : Nat) : (aAt l j).f1.length ≤ 140737488351232 ∧ ∀ s ∈ (aAt l j).f1, s.size ≤ 140737488351232 := by
 unfold aAt
 rw [List.getD_eq_getElem?_getD]
 by_cases hj : j < l.length
 ·rw [List.getElem?_eq_getElem hj]; exact h.2 _ (List.getElem_mem hj)
 ·rw [List.getElem?_eq_none (by omega)]
  exact ⟨by decide, fun s hs => by cases hs⟩
theorem rd_aAt (l : List At) (i : Int) : rd_T111 l i = aAt l i.toNat := rfl
theorem spec_l03Attrs_f (l : List At) (h : AtOK l) (k : Nat) (hk : 2251799813685248 + l.length < k) : spec_l03Attrs.f k l = some (AttrsP l) := by
 have hl := h.1
 unfold spec_l03Attrs.f AttrsP
 rw [all_loop (decide (l.length ≤ 8)) (attrF l) l.length (by omega) 2251799813685248 (fun k i => spec_l03Attrs.l0 k l i) (fun k i hk h0 hi => ?_) (fun k i hk h0 hi => ?_) l.length k 0 (by omega) (by omega) (by omega)]
 ·rw [List.range_eq_range']; rfl
 ·show spec_l03Attrs.l0 (k + 1) l i = if attrF l i.toNat = true then spec_l03Attrs.l0 k l (wrap64 (i + 1)) else some false
  obtain ⟨h1, h2⟩ := aAt_ok h i.toNat
  rw [spec_l03Attrs.l0, if_pos hi, if_pos h0, rd_aAt, spec_NameRight_f _ k (by omega), spec_l03Values_f _ h1 h2 k (by omega)]
  simp only [Option.bind_some]
  unfold attrF AttrP
  cases NameP (aAt l i.toNat).f0 with
  | false => simp
  | true =>
   rw [if_pos rfl]
   by_cases hz : i > 0
   ·rw [if_pos hz, w64 (x := i - 1) (by omega) (by omega), if_pos (by omega), if_pos (by omega), rd_aAt, show (i - 1).toNat = i.toNat - 1 by omega, decide_eq_false (p := i.toNat = 0) (by omega)]
    cases Op.bytesLess (aAt l (i.toNat - 1)).f0.toList (aAt l i.toNat).f0.toList <;> cases ValsP (aAt l i.toNat).f1 <;> simp
   ·rw [if_neg hz, decide_eq_true (p := i.toNat = 0) (by omega)]
    cases ValsP (aAt l i.toNat).f1 <;> simp
 ·show spec_l03Attrs.l0 (k + 1) l i = _
  rw [spec_l03Attrs.l0, if_neg (by omega)]
  congr 1
  by_cases h4 : l.length ≤ 8
  ·rw [decide_eq_true h4, decide_eq_true (by omega)]
  ·rw [decide_eq_false h4, decide_eq_false (by omega)]
theorem spec_EntryRight_f (dn : List Rd) (hd : dn.length ≤ 140737488351232) (l : List At) (h : AtOK l) (k : Nat) (hk : 4503599627370496 < k) : spec_EntryRight.f k dn l = some (EntryP dn l) := by
 have hl := h.1
 unfold spec_EntryRight.f EntryP
 by_cases h0 : (dn.length : Int) > 0
 ·rw [if_pos h0, spec_DnRight_f dn (by omega) k (by omega), spec_l03Attrs_f l h k (by omega), decide_eq_true (p := 0 < dn.length) (by omega)]
  cases DnP dn <;> simp
 ·rw [if_neg h0, decide_eq_false (p := 0 < dn.length) (by omega)]; rfl
theorem impl_EntryRight_f (dn : List Rd) (l : List At) (h : AtOK l) (k : Nat) (hk : 4503599627370496 < k) : impl_EntryRight.f k dn l = some (EntryP dn l) := by
 obtain ⟨k, rfl⟩ : ∃ q, k = q + 1 := ⟨k - 1, by omega⟩
 have hl := h.1
 unfold impl_EntryRight.f EntryP
 have hj : ∀ b, impl_EntryRight.j0 (k + 1) b dn l = some (!b && (List.range l.length).all (attrF l)) := by
  intro b
  rw [impl_EntryRight.j0]
  cases b with
  | true => rw [if_pos rfl]; rfl
  | false =>
   rw [if_neg (by simp), all_loop true (attrF l) l.length (by omega) 2251799813685248 (fun k i => impl_EntryRight.l0 k l (l.length : Int) i dn l) (fun k i hk h0 hi => ?_) (fun k i hk h0 hi => ?_) l.length k 0 (by omega) (by omega) (by omega)]
   ·rw [List.range_eq_range']; simp
   ·show impl_EntryRight.l0 (k + 1) l (l.length : Int) i dn l = if attrF l i.toNat = true then impl_EntryRight.l0 k l (l.length : Int) (wrap64 (i + 1)) dn l else some false
    obtain ⟨h1, h2⟩ := aAt_ok h i.toNat
    rw [impl_EntryRight.l0, if_pos hi, if_pos h0, if_pos hi, rd_aAt, impl_isAttr_f _ _ h1 h2 k (by omega)]
    simp only [Option.bind_some]
    unfold attrF
    cases AttrP (aAt l i.toNat).f0 (aAt l i.toNat).f1 with
    | false => simp
    | true =>
     rw [if_pos rfl]
     by_cases hz : i > 0
     ·rw [if_pos hz, w64 (x := i - 1) (by omega) (by omega), if_pos (by omega), if_pos (by omega), rd_aAt, show (i - 1).toNat = i.toNat - 1 by omega, decide_eq_false (p := i.toNat = 0) (by omega)]
      simp
     ·rw [if_neg hz, decide_eq_true (p := i.toNat = 0) (by omega)]
      simp
   ·show impl_EntryRight.l0 (k + 1) l (l.length : Int) i dn l = _
    rw [impl_EntryRight.l0, if_neg (by omega)]
 unfold AttrsP
 by_cases h0 : (dn.length : Int) = 0
 ·rw [if_pos h0, hj, decide_eq_false (p := 0 < dn.length) (by omega)]; rfl
 ·rw [if_neg h0, impl_DnRight_f dn _ (by omega), decide_eq_true (p := 0 < dn.length) (by omega), Option.bind_some, hj, hj]
  cases DnP dn with
  | false => rfl
  | true =>
   rw [if_pos rfl]
   by_cases h8 : l.length ≤ 8
   ·rw [decide_eq_true h8, decide_eq_false (by omega)]; simp
   ·rw [decide_eq_false h8, decide_eq_true (by omega)]; simp
theorem le_loop (n : Nat) (hn : (n : Int) ≤ 4611686018427387904) (P : Nat → Prop) (g : Nat → Int → Int → Option Int)
  (step : ∀ (k : Nat) (a i r : Int), 0 ≤ a → a ≤ 1048576 → 0 ≤ i → i < n → g (k + 1) a i = some r → r = -1 ∨ ∃ a', 0 ≤ a' ∧ a' ≤ a ∧ P i.toNat ∧ g k a' (wrap64 (i + 1)) = some r)
  (fin : ∀ (k : Nat) (a i r : Int), (n : Int) ≤ i → g (k + 1) a i = some r → r = a) (zero : ∀ a i, g 0 a i = none) :
  ∀ (k : Nat) (a i r : Int), 0 ≤ a → a ≤ 1048576 → 0 ≤ i → i ≤ n → g k a i = some r → r = -1 ∨ (0 ≤ r ∧ r ≤ a ∧ ∀ j, i.toNat ≤ j → j < n → P j)
 | 0, a, i, r, h0, h1, hi, hn2, h => by rw [zero] at h; cases h
 | k + 1, a, i, r, h0, h1, hi, hn2, h => by
  by_cases hlt : i < (n : Int)
  ·rcases step k a i r h0 h1 hi hlt h with e | ⟨a', h2, h3, hP, h4⟩
   ·exact .inl e
   ·rw [w64 (x := i + 1) (by omega) (by omega)] at h4
    rcases le_loop n hn P g step fin zero k a' (i + 1) r h2 (by omega) (by omega) (by omega) h4 with e | ⟨h5, h6, h7⟩
    ·exact .inl e
    ·refine .inr ⟨h5, by omega, fun j hj hjn => ?_⟩
     by_cases e : j = i.toNat
     ·rw [e]; exact hP
     ·exact h7 j (by omega) hjn
  ·have e := fin k a i r (by omega) h
   exact .inr ⟨by omega, by omega, fun j hj hjn => by omega⟩
theorem szText_le {a : Int} {s : ByteArray} (h0 : 0 ≤ a) (h1 : a ≤ 1048576) (hs : s.size ≤ 140737488351232) : wrap64 (a - (s.size : Int)) = a - (s.size : Int) := w64 (by omega) (by omega)
theorem laws_szStringS_le (l : List ByteArray) (hl : l.length ≤ 140737488351232) (hs : ∀ x ∈ l, x.size ≤ 140737488351232) (k : Nat) (a r : Int) (h0 : 0 ≤ a) (h1 : a ≤ 1048576) (h : laws_szStringS.f k l a = some r) : r = -1 ∨ (0 ≤ r ∧ r ≤ a) := by
 unfold laws_szStringS.f at h
 rw [w64 (x := a - (l.length : Int)) (by omega) (by omega)] at h
 split at h
 ·exact .inl (Option.some.inj h).symm
 ·have := le_loop l.length (by omega) (fun _ => True) (fun k a i => laws_szStringS.l0 k l a i) (fun k a i r h0 h1 hi hlt h => by
   have h : laws_szStringS.l0 (k + 1) l a i = some r := h
   have hz := sAt_size l hs i.toNat
   rw [laws_szStringS.l0, if_pos hlt, if_pos hi, rdOf_sAt, szText_le h0 h1 hz] at h
   split at h
   ·exact .inl (Option.some.inj h).symm
   ·exact .inr ⟨_, by omega, by omega, trivial, h⟩) (fun k a i r hi h => by
   have h : laws_szStringS.l0 (k + 1) l a i = some r := h
   rw [laws_szStringS.l0, if_neg (by omega)] at h
   exact (Option.some.inj h).symm) (fun _ _ => rfl) k _ 0 r (by omega) (by omega) (by omega) (by omega) h
  rcases this with e | ⟨e1, e2, _⟩
  ·exact .inl e
  ·exact .inr ⟨e1, by omega⟩
theorem laws_szRdn_le (x y : ByteArray) (hx : x.size ≤ 140737488351232) (hy : y.size ≤ 140737488351232) (a r : Int) (h0 : 0 ≤ a) (h1 : a ≤ 1048576) (h : laws_szRdn.f x y a = some r) : r = -1 ∨ (0 ≤ r ∧ r ≤ a) := by
 unfold laws_szRdn.f at h
 rw [szText_le h0 h1 hx] at h
 split at h
 ·exact .inl (Option.some.inj h).symm
 ·rw [szText_le (by omega) (by omega) hy] at h
  split at h
  ·exact .inl (Option.some.inj h).symm
  ·have := (Option.some.inj h).symm
   exact .inr ⟨by omega, by omega⟩
theorem laws_szRdnS_le (l : List S195) (hl : l.length ≤ 140737488351232) (hs : ∀ x ∈ l, x.f0.size ≤ 140737488351232 ∧ x.f1.size ≤ 140737488351232) (k : Nat) (a r : Int) (h0 : 0 ≤ a) (h1 : a ≤ 1048576) (h : laws_szRdnS.f k l a = some r) : r = -1 ∨ (0 ≤ r ∧ r ≤ a) := by
 unfold laws_szRdnS.f at h
 rw [w64 (x := a - (l.length : Int)) (by omega) (by omega)] at h
 split at h
 ·exact .inl (Option.some.inj h).symm
 ·have := le_loop l.length (by omega) (fun _ => True) (fun k a i => laws_szRdnS.l0 k l a i) (fun k a i r h0 h1 hi hlt h => by
   have h : laws_szRdnS.l0 (k + 1) l a i = some r := h
   have hz : (rd_T195 l i).f0.size ≤ 140737488351232 ∧ (rd_T195 l i).f1.size ≤ 140737488351232 := by
    unfold rd_T195
    rw [List.getD_eq_getElem?_getD, List.getElem?_eq_getElem (by omega : i.toNat < l.length)]
    exact hs _ (List.getElem_mem _)
   rw [laws_szRdnS.l0, if_pos hlt, if_pos hi] at h
   obtain ⟨t, ht, h⟩ := Option.bind_eq_some_iff.1 h
   have hle := laws_szRdn_le _ _ hz.1 hz.2 a t h0 h1 ht
   split at h
   ·exact .inl (Option.some.inj h).symm
   ·rcases hle with e | ⟨e1, e2⟩
    ·omega
    ·exact .inr ⟨_, e1, e2, trivial, h⟩) (fun k a i r hi h => by
   have h : laws_szRdnS.l0 (k + 1) l a i = some r := h
   rw [laws_szRdnS.l0, if_neg (by omega)] at h
   exact (Option.some.inj h).symm) (fun _ _ => rfl) k _ 0 r (by omega) (by omega) (by omega) (by omega) h
  rcases this with e | ⟨e1, e2, _⟩
  ·exact .inl e
  ·exact .inr ⟨e1, by omega⟩
theorem laws_szAttr_le (n : ByteArray) (l : List ByteArray) (hn : n.size ≤ 140737488351232) (hl : l.length ≤ 140737488351232) (hs : ∀ x ∈ l, x.size ≤ 140737488351232) (k : Nat) (a r : Int) (h0 : 0 ≤ a) (h1 : a ≤ 1048576) (h : laws_szAttr.f k n l a = some r) : r = -1 ∨ (0 ≤ r ∧ r ≤ a) := by
 unfold laws_szAttr.f at h
 rw [szText_le h0 h1 hn] at h
 split at h
 ·exact .inl (Option.some.inj h).symm
 ·obtain ⟨t, ht, h⟩ := Option.bind_eq_some_iff.1 h
  have hle := laws_szStringS_le l hl hs k _ t (by omega) (by omega) ht
  split at h
  ·exact .inl (Option.some.inj h).symm
  ·have := Option.some.inj h
   subst this
   rcases hle with e | ⟨e1, e2⟩
   ·omega
   ·exact .inr ⟨e1, by omega⟩
theorem laws_szAttrS_le (l : List S197) (hl : l.length ≤ 140737488351232) (hs : ∀ x ∈ l, x.f0.size ≤ 140737488351232 ∧ x.f1.length ≤ 140737488351232 ∧ ∀ s ∈ x.f1, s.size ≤ 140737488351232) (k : Nat) (a r : Int) (h0 : 0 ≤ a) (h1 : a ≤ 1048576) (h : laws_szAttrS.f k l a = some r) : r = -1 ∨ (0 ≤ r ∧ r ≤ a) := by
 unfold laws_szAttrS.f at h
 rw [w64 (x := a - (l.length : Int)) (by omega) (by omega)] at h
 split at h
 ·exact .inl (Option.some.inj h).symm
 ·have := le_loop l.length (by omega) (fun _ => True) (fun k a i => laws_szAttrS.l0 k l a i) (fun k a i r h0 h1 hi hlt h => by
   have h : laws_szAttrS.l0 (k + 1) l a i = some r := h
   have hz : (rd_T197 l i).f0.size ≤ 140737488351232 ∧ (rd_T197 l i).f1.length ≤ 140737488351232 ∧ ∀ s ∈ (rd_T197 l i).f1, s.size ≤ 140737488351232 := by
    unfold rd_T197
    rw [List.getD_eq_getElem?_getD, List.getElem?_eq_getElem (by omega : i.toNat < l.length)]
    exact hs _ (List.getElem_mem _)
   rw [laws_szAttrS.l0, if_pos hlt, if_pos hi] at h
   obtain ⟨t, ht, h⟩ := Option.bind_eq_some_iff.1 h
   have hle := laws_szAttr_le _ _ hz.1 hz.2.1 hz.2.2 k a t h0 h1 ht
   split at h
   ·exact .inl (Option.some.inj h).symm
   ·rcases hle with e | ⟨e1, e2⟩
    ·omega
    ·exact .inr ⟨_, e1, e2, trivial, h⟩) (fun k a i r hi h => by
   have h : laws_szAttrS.l0 (k + 1) l a i = some r := h
   rw [laws_szAttrS.l0, if_neg (by omega)] at h
   exact (Option.some.inj h).symm) (fun _ _ => rfl) k _ 0 r (by omega) (by omega) (by omega) (by omega) h
  rcases this with e | ⟨e1, e2, _⟩
  ·exact .inl e
  ·exact .inr ⟨e1, by omega⟩
def EnOK (d : List S195) (l : List S197) : Prop := (d.length ≤ 140737488351232 ∧ ∀ x ∈ d, x.f0.size ≤ 140737488351232 ∧ x.f1.size ≤ 140737488351232) ∧ l.length ≤ 140737488351232 ∧ ∀ x ∈ l, x.f0.size ≤ 140737488351232 ∧ x.f1.length ≤ 140737488351232 ∧ ∀ s ∈ x.f1, s.size ≤ 140737488351232
theorem laws_szEntry_le (d : List S195) (l : List S197) (hd : EnOK d l) (k : Nat) (a r : Int) (h0 : 0 ≤ a) (h1 : a ≤ 1048576) (h : laws_szEntry.f k d l a = some r) : r = -1 ∨ (0 ≤ r ∧ r ≤ a) := by
 unfold laws_szEntry.f at h
 obtain ⟨t, ht, h⟩ := Option.bind_eq_some_iff.1 h
 have h2 := laws_szRdnS_le d hd.1.1 hd.1.2 k a t h0 h1 ht
 split at h
 ·exact .inl (Option.some.inj h).symm
 ·obtain ⟨t2, ht2, h⟩ := Option.bind_eq_some_iff.1 h
  rcases h2 with e | ⟨e1, e2⟩
  ·omega
  ·have h3 := laws_szAttrS_le l hd.2.1 hd.2.2 k t t2 e1 (by omega) ht2
   split at h
   ·exact .inl (Option.some.inj h).symm
   ·have := Option.some.inj h
    subst this
    rcases h3 with e | ⟨e3, e4⟩
    ·omega
    ·exact .inr ⟨e3, by omega⟩
theorem getD_mem_ {α : Type} (l : List α) (z : α) (j : Nat) (h : j < l.length) : l.getD j z ∈ l := by
 rw [List.getD_eq_getElem?_getD, List.getElem?_eq_getElem h]
 exact List.getElem_mem h
def cvCh (x : S123) : S83 := ⟨x.f0, x.f1, x.f2, ⟨x.f3.f0.map cvRdn, x.f3.f1.map cvAttr⟩⟩
def ChIn (x : S123) : Prop := x.f2.size ≤ 140737488351232 ∧ EnOK x.f3.f0 x.f3.f1 ∧ x.f3.f0.length ≤ 8796093022208 ∧ x.f3.f1.length ≤ 7036874417766 ∧ ∀ y ∈ x.f3.f1, y.f1.length ≤ 17592186044416
def chL (l : List S123) (j : Nat) : S123 := l.getD j z123
theorem rd_chL (l : List S123) (i : Int) : rd_T123 l i = chL l i.toNat := rfl
theorem laws_szChange_f (x : S123) (h : ChIn x) (a : Int) (k : Nat) (hk : 1125899906842624 < k) : ∃ r, laws_szChange.f k x.f0 x.f1 x.f2 x.f3.f0 x.f3.f1 a = some r := by
 unfold laws_szChange.f
 split
 ·exact ⟨_, rfl⟩
 ·obtain ⟨r, e⟩ := laws_szEntry_f x.f3.f0 x.f3.f1 h.2.1.1.1 h.2.1.2.1 (fun y hy => (h.2.1.2.2 y hy).2.1) _ k hk
  rw [e, Option.bind_some]
  split <;> exact ⟨_, rfl⟩
theorem laws_szChanges_f (c : Int) (l : List S123) (hl : l.length ≤ 140737488351232) (h : ∀ x ∈ l, ChIn x) (k : Nat) (hk : 1125899906842625 + l.length < k) : ∃ r, laws_szChanges.f k c l 1048576 = some r ∧ (0 ≤ r → ∀ x ∈ l, x.f2.size ≤ 1048576) := by
 have he : ∃ r, laws_szChangeS.f k l 1048576 = some r := by
  unfold laws_szChangeS.f
  split
  ·exact ⟨_, rfl⟩
  ·refine some_loop l.length (by omega) 1125899906842625 (fun k a i => laws_szChangeS.l0 k l a i) (fun k a i hk h0 hi => ?_) (fun k a i _ h0 hi => ?_) l.length k _ 0 (by omega) (by omega) (by omega)
   ·show (∃ r, laws_szChangeS.l0 (k + 1) l a i = some r) ∨ ∃ a', laws_szChangeS.l0 (k + 1) l a i = laws_szChangeS.l0 k l a' (wrap64 (i + 1))
    rw [laws_szChangeS.l0, if_pos hi, if_pos h0, rd_chL]
    obtain ⟨r, e⟩ := laws_szChange_f (chL l i.toNat) (h _ (getD_mem_ _ _ _ (by omega))) a k (by omega)
    rw [e, Option.bind_some]
    split
    ·exact .inl ⟨_, rfl⟩
    ·exact .inr ⟨_, rfl⟩
   ·show ∃ r, laws_szChangeS.l0 (k + 1) l a i = some r
    rw [laws_szChangeS.l0, if_neg (by omega)]
    exact ⟨_, rfl⟩
 obtain ⟨r, e⟩ := he
 have hle : r = -1 ∨ (∀ x ∈ l, x.f2.size ≤ 1048576) := by
  unfold laws_szChangeS.f at e
  rw [w64 (x := 1048576 - (l.length : Int)) (by omega) (by omega)] at e
  split at e
  ·exact .inl (Option.some.inj e).symm
  ·have := le_loop l.length (by omega) (fun j => (chL l j).f2.size ≤ 1048576) (fun k a i => laws_szChangeS.l0 k l a i) (fun k a i r h0 h1 hi hlt e => by
    have e : laws_szChangeS.l0 (k + 1) l a i = some r := e
    have hz := h (chL l i.toNat) (getD_mem_ _ _ _ (by omega))
    rw [laws_szChangeS.l0, if_pos hlt, if_pos hi, rd_chL] at e
    obtain ⟨t, ht, e⟩ := Option.bind_eq_some_iff.1 e
    unfold laws_szChange.f at ht
    rw [szText_le h0 h1 hz.1] at ht
    split at e
    ·exact .inl (Option.some.inj e).symm
    ·split at ht
     ·have := Option.some.inj ht; omega
     ·obtain ⟨t2, ht2, ht⟩ := Option.bind_eq_some_iff.1 ht
      have h3 := laws_szEntry_le _ _ hz.2.1 k _ t2 (by omega) (by omega) ht2
      split at ht
      ·have := Option.some.inj ht; omega
      ·have := Option.some.inj ht
       subst this
       rcases h3 with e3 | ⟨e1, e2⟩
       ·omega
       ·exact .inr ⟨_, e1, by omega, by omega, e⟩) (fun k a i r hi e => by
    have e : laws_szChangeS.l0 (k + 1) l a i = some r := e
    rw [laws_szChangeS.l0, if_neg (by omega)] at e
    exact (Option.some.inj e).symm) (fun _ _ => rfl) k _ 0 r (by omega) (by omega) (by omega) (by omega) e
   rcases this with e | ⟨_, _, e⟩
   ·exact .inl e
   ·refine .inr fun x hx => ?_
    obtain ⟨j, hj, rfl⟩ := List.getElem_of_mem hx
    have := e j (by omega) hj
    unfold chL at this
    rw [List.getD_eq_getElem?_getD, List.getElem?_eq_getElem hj] at this
    exact this
 unfold laws_szChanges.f
 rw [e, Option.bind_some]
 split
 ·exact ⟨_, rfl, fun h => by omega⟩
 ·rcases hle with e | e
  ·omega
  ·exact ⟨_, rfl, fun _ => e⟩
theorem laws_toChangeS_f (l : List S123) (hl : l.length ≤ 3518437208883) (h : ∀ x ∈ l, ChIn x) (k : Nat) (hk : 1125899906842625 + l.length < k) : laws_toChangeS.f k l = some (l.map cvCh) := by
 unfold laws_toChangeS.f
 rw [if_pos (by omega), if_pos (by omega), show ((l.length : Int)).toNat = l.length from rfl,
  copy_all l.length (by omega) (fun j => cvCh (l.getD j z123)) 1125899906842625 (fun k x i => laws_toChangeS.l0 k l x i) z83 (fun k x i hk h0 hi hx => ?_) (fun k x i hi => ?_) k (by omega), range_map_getD]
 ·show laws_toChangeS.l0 (k + 1) l x i = _
  have hz := h (chL l i.toNat) (getD_mem_ _ _ _ (by omega))
  rw [laws_toChangeS.l0, if_pos hi, if_pos h0, rd_chL]
  unfold laws_toChange.f
  rw [laws_toEntry_f _ _ hz.2.2.1 hz.2.2.2.1 hz.2.2.2.2 k (by omega)]
  simp only [Option.bind_some]
  rw [if_pos (by omega)]
  rfl
 ·show laws_toChangeS.l0 (k + 1) l x i = _
  rw [laws_toChangeS.l0, if_neg (by omega)]
def ChOK (x : S83) : Prop := x.f2.size ≤ 1048576 ∧ x.f3.f0.length ≤ 140737488351232 ∧ AtOK x.f3.f1
def chI (l : List S83) (j : Nat) : S83 := l.getD j z83
theorem rd_chI (l : List S83) (i : Int) : rd_T83 l i = chI l i.toNat := rfl
theorem laws_eqChangeS_f (l : List S83) (hl : l.length ≤ 140737488351232) (h : ∀ x ∈ l, ChOK x) (k : Nat) (hk : 1125899906842625 + l.length < k) : laws_eqChangeS.f k l l = some true := by
 unfold laws_eqChangeS.f
 rw [if_pos rfl]
 refine skip_loop true l.length (by omega) 1125899906842625 (fun k i => laws_eqChangeS.l0 k l l i) (fun k i hk h0 hi => ?_) (fun k i _ h0 hi => ?_) l.length k 0 (by omega) (by omega) (by omega)
 ·show laws_eqChangeS.l0 (k + 1) l l i = laws_eqChangeS.l0 k l l (wrap64 (i + 1))
  have hz := h (chI l i.toNat) (getD_mem_ _ _ _ (by omega))
  rw [laws_eqChangeS.l0, if_pos hi, if_pos h0, if_pos hi, rd_chI]
  unfold laws_eqChange.f
  rw [if_pos rfl, if_pos rfl, if_pos rfl, laws_eqEntry_f _ _ hz.2.1 hz.2.2.1 (fun x hx => (hz.2.2.2 x hx).1) k (by omega)]
  simp
 ·show laws_eqChangeS.l0 (k + 1) l l i = _
  rw [laws_eqChangeS.l0, if_neg (by omega)]
theorem textB_length : ∀ (l : List Rd) (b : Bool), (∀ x ∈ l, RdnP x = true) → (textB b l).length ≤ 102 * l.length
 | [], b, h => by simp [textB]
 | x :: xs, b, h => by
  have h1 := RdnP_size (h x (by simp))
  have h2 := escB_length x.f1
  have h3 := textB_length xs true (fun y hy => h y (List.mem_cons_of_mem _ hy))
  have h4 := bytesOf_length x.f0
  simp only [textB, List.length_append, List.length_cons, List.length_nil]
  split <;> simp <;> omega
theorem TextP_size {l : List Rd} (h : DnP l = true) : (TextP l).size ≤ 8000 := by
 obtain ⟨h1, h2⟩ := DnP_mem h
 have := textB_length l false h2
 unfold TextP
 rw [strOfNums_size]
 omega
def DnTxP (t : ByteArray) : Bool := if t.toList = [] then false else DnP (readS t) && ((TextP (readS t)).toList == t.toList)
theorem DnTxP_iff {t : ByteArray} : DnTxP t = true ↔ t.toList ≠ [] ∧ DnP (readS t) = true ∧ (TextP (readS t)).toList = t.toList := by
 unfold DnTxP
 by_cases h : t.toList = []
 ·rw [if_pos h]; simp [h]
 ·rw [if_neg h]; simp [h]
theorem impl_isDnText_f (t : ByteArray) (ht : t.size ≤ 1048576) (k : Nat) (hk : 10000000 ≤ k) : impl_isDnText.f k t = some (DnTxP t) := by
 unfold impl_isDnText.f
 rw [impl_readDn_f t ht k hk, Option.bind_some]
 by_cases h : t.toList = []
 ·have h0 : t.size = 0 := by rw [Go.Lib.toList_data] at h; rw [← data_length, h]; rfl
  rw [if_pos h, if_pos (by omega), if_pos rfl]
  unfold DnTxP
  rw [if_pos h]; rfl
 ·rw [if_neg h]
  by_cases hr : DnTxP t = true
  ·obtain ⟨_, h1, h2⟩ := DnTxP_iff.1 hr
   have e := read_same h h1 h2
   have h8 := TextP_size h1
   have e2 := ba_inj.1 h2
   rw [e2] at h8
   rw [e, if_pos (by omega)]
   simp only [h1, if_true]
   rw [if_pos (by rw [h2]; simp), hr]
   have hn := readI_nil_ne h h2
   have : 0 < (readS t).length := List.length_pos_iff.2 hn
   rw [decide_eq_true (by omega)]
  ·rw [Bool.eq_false_iff.2 hr]
   by_cases h8 : (t.size : Int) ≤ 8000
   ·rw [if_pos h8, if_neg]
    intro hc
    apply hr
    refine DnTxP_iff.2 ⟨h, (read_both h).1 ?_⟩
    simp only at hc
    split at hc
    ·rename_i h1
     exact ⟨h1, by simpa using hc⟩
    ·cases hc
   ·rw [if_neg h8]
def KindP (x : Int) (e : S81) : Bool := if x = 2 then decide (e.f0.length = 0) && decide (e.f1.length = 0) else decide (1 ≤ x) && decide (x ≤ 4) && EntryP e.f0 e.f1
theorem zero_f (d : List Rd) (l : List At) : (if (d.length : Int) = 0 then (some ((l.length : Int) == 0)) else some false) = some (decide (d.length = 0) && decide (l.length = 0)) := by
 by_cases h : d.length = 0
 ·rw [if_pos (by omega), decide_eq_true h, Bool.true_and]
  congr 1
  by_cases h2 : l.length = 0
  ·rw [decide_eq_true h2]; exact beq_iff_eq.2 (by omega)
  ·rw [decide_eq_false h2]; exact beq_eq_false_iff_ne.2 (by omega)
 ·rw [if_neg (by omega), decide_eq_false h]; rfl
theorem between_f (x a b : Int) : impl_between.f x a b = some (decide (a ≤ x) && decide (x ≤ b)) := by
 unfold impl_between.f
 by_cases h : x ≥ a
 ·rw [if_pos h, decide_eq_true (p := a ≤ x) h, Bool.true_and]
 ·rw [if_neg h, decide_eq_false (p := a ≤ x) h]; rfl
theorem l02Is_f (x a b : Int) : spec_l02Is.f x a b = some (decide (a ≤ x) && decide (x ≤ b)) := by
 unfold spec_l02Is.f
 by_cases h : x ≥ a
 ·rw [if_pos h, decide_eq_true (p := a ≤ x) h, Bool.true_and]
 ·rw [if_neg h, decide_eq_false (p := a ≤ x) h]; rfl
theorem impl_isKind_f (x : Int) (e : S81) (h : AtOK e.f1) (k : Nat) (hk : 4503599627370496 < k) : impl_isKind.f k x e.f0 e.f1 = some (KindP x e) := by
 unfold impl_isKind.f KindP
 by_cases h2 : x = 2
 ·unfold impl_isZeroEntry.f
  rw [if_pos h2, if_pos h2, zero_f]; rfl
 ·rw [if_neg h2, if_neg h2, between_f, Option.bind_some]
  cases decide (1 ≤ x) && decide (x ≤ 4) with
  | false => rw [if_neg (by simp)]; rfl
  | true => rw [if_pos rfl, impl_EntryRight_f _ _ h k hk]; rfl
theorem spec_l08Right_f (x : Int) (dn : List Rd) (hdn : dn.length ≤ 1048577) (e : S81) (hd : e.f0.length ≤ 140737488351232) (h : AtOK e.f1) (k : Nat) (hk : 4503599627370497 < k) : spec_l08Right.f k x dn e.f0 e.f1 = some (decide (0 < dn.length) && DnP dn && KindP x e) := by
 obtain ⟨k, rfl⟩ : ∃ q, k = q + 1 := ⟨k - 1, by omega⟩
 unfold spec_l08Right.f
 have hj : ∀ b, spec_l08Right.j0 (k + 1) x b e.f0 e.f1 = if b = true then some false else if x = 2 then some (decide (e.f0.length = 0) && decide (e.f1.length = 0)) else some (EntryP e.f0 e.f1) := by
  intro b
  rw [spec_l08Right.j0]
  unfold spec_l08None.f
  rw [zero_f, spec_EntryRight_f _ hd _ h k (by omega)]
  rfl
 rw [l02Is_f, Option.bind_some, hj]
 unfold KindP
 by_cases hx : (decide (1 ≤ x) && decide (x ≤ 4)) = true
 ·rw [if_pos hx]
  by_cases h0 : dn.length = 0
  ·rw [if_pos (by omega), if_pos rfl, decide_eq_false (p := 0 < dn.length) (by omega)]; rfl
  ·rw [if_neg (by omega), spec_DnRight_f dn (by omega) (k + 1) (by omega), Option.bind_some, hj, decide_eq_true (p := 0 < dn.length) (by omega), Bool.true_and]
   cases DnP dn with
   | false => rfl
   | true =>
    rw [if_neg (by simp), Bool.true_and]
    by_cases h2 : x = 2
    ·rw [if_pos h2, if_pos h2]
    ·rw [if_neg h2, if_neg h2, hx, Bool.true_and]
 ·rw [if_neg hx, if_pos rfl]
  have hx2 : ¬ (x = 2) := fun e => hx (by subst e; decide)
  rw [if_neg hx2, Bool.eq_false_iff.2 hx]; simp
theorem spec_read_right (t : ByteArray) (ht : t.size ≤ 1048576) (x : Int) (e : S81) (hd : e.f0.length ≤ 140737488351232) (h : AtOK e.f1) (k : Nat) (hk : 4503599627370497 < k) {q : Option Bool} :
  ((spec_l02Read.f k t).bind fun bt => if bt.2 = true then ((spec_l08Right.f k x bt.1 e.f0 e.f1).bind fun t => if t = true then q else some false) else some false) = if (DnTxP t && KindP x e) = true then q else some false := by
 rw [spec_l02Read_f t ht k (by omega), Option.bind_some]
 by_cases h0 : t.toList = []
 ·have : DnTxP t = false := by unfold DnTxP; rw [if_pos h0]
  rw [if_pos h0, this, if_pos rfl, spec_l08Right_f x [] (by simp) e hd h k hk]
  simp
 ·rw [if_neg h0]
  have hl : (readS t).length ≤ 1048577 := by
   unfold readS
   rw [List.length_map]
   have := cutL_length (bytesOf t).length (bytesOf t) [] (by omega)
   have := bytesOf_length t
   omega
  by_cases hr : DnTxP t = true
  ·obtain ⟨_, h1, h2⟩ := DnTxP_iff.1 hr
   have hn := readI_nil_ne h0 h2
   have : 0 < (readS t).length := List.length_pos_iff.2 hn
   have e3 : ((DnTextP (readS t)).toList == t.toList) = true := by unfold DnTextP; rw [if_pos h1, h2]; simp
   rw [if_pos e3, spec_l08Right_f x _ hl e hd h k hk, decide_eq_true this, h1, hr]
   simp
  ·have e3 : ((DnTextP (readS t)).toList == t.toList) = false := by
    apply Bool.eq_false_iff.2
    intro hc
    apply hr
    have hc : (DnTextP (readS t)).toList = t.toList := by simpa using hc
    unfold DnTextP at hc
    split at hc
    ·rename_i h1
     exact DnTxP_iff.2 ⟨h0, h1, hc⟩
    ·exact absurd (hc.symm.trans ba_nil_toList) h0
   rw [if_neg (by rw [e3]; simp), Bool.eq_false_iff.2 hr]
   simp
def chF (c : Int) (l : List S83) (j : Nat) : Bool := (DnTxP (chI l j).f2 && KindP (chI l j).f1 (chI l j).f3) && (decide (1 ≤ (chI l j).f0) && decide ((chI l j).f0 = c - (l.length : Int) + j))
def ChangesP (c : Int) (l : List S83) : Bool := (decide (1 ≤ c) && decide (c ≤ 1000000)) && (decide (l.length ≤ 40) && (List.range l.length).all (chF c l))
theorem spec_ChangesRight_f (c : Int) (l : List S83) (h : ∀ x ∈ l, ChOK x) (k : Nat) (hk : 4503599627371000 < k) : spec_ChangesRight.f k c l = some (ChangesP c l) := by
 obtain ⟨k, rfl⟩ : ∃ q, k = q + 1 := ⟨k - 1, by omega⟩
 unfold spec_ChangesRight.f ChangesP
 rw [l02Is_f, Option.bind_some]
 by_cases hc : (decide (1 ≤ c) && decide (c ≤ 1000000)) = true
 ·rw [if_pos hc, hc, Bool.true_and, spec_ChangesRight.j0]
  simp only [Bool.and_eq_true, decide_eq_true_eq] at hc
  by_cases h4 : l.length ≤ 40
  ·rw [decide_eq_true h4, decide_eq_false (p := (l.length : Int) > 40) (by omega), if_neg (by simp), Bool.true_and,
    all_loop true (chF c l) l.length (by omega) 4503599627370500 (fun k i => spec_ChangesRight.l0 k i c l) (fun k i hk h0 hi => ?_) (fun k i hk h0 hi => ?_) l.length k 0 (by omega) (by omega) (by omega)]
   ·rw [List.range_eq_range']; simp
   ·show spec_ChangesRight.l0 (k + 1) i c l = if chF c l i.toNat = true then spec_ChangesRight.l0 k (wrap64 (i + 1)) c l else some false
    have hz := h (chI l i.toNat) (getD_mem_ _ _ _ (by omega))
    rw [spec_ChangesRight.l0, if_pos hi, if_pos h0, rd_chI, spec_read_right _ hz.1 _ _ hz.2.1 hz.2.2 k (by omega), w64 (x := (l.length : Int) - i) (by omega) (by omega), w64 (x := c - ((l.length : Int) - i)) (by omega) (by omega)]
    unfold chF
    cases DnTxP (chI l i.toNat).f2 && KindP (chI l i.toNat).f1 (chI l i.toNat).f3 with
    | false => rfl
    | true =>
     rw [if_pos rfl, Bool.true_and]
     by_cases h1 : (chI l i.toNat).f0 < 1
     ·rw [if_pos h1, decide_eq_false (p := 1 ≤ (chI l i.toNat).f0) (by omega)]; rfl
     ·rw [if_neg h1, decide_eq_true (p := 1 ≤ (chI l i.toNat).f0) (by omega), Bool.true_and]
      by_cases h2 : (chI l i.toNat).f0 = c - ((l.length : Int) - i)
      ·rw [if_pos h2, decide_eq_true (by omega), if_pos rfl]
      ·rw [if_neg h2, decide_eq_false (by omega), if_neg (by simp)]
   ·show spec_ChangesRight.l0 (k + 1) i c l = _
    rw [spec_ChangesRight.l0, if_neg (by omega)]
  ·rw [decide_eq_false h4, decide_eq_true (p := (l.length : Int) > 40) (by omega), if_pos rfl]; rfl
 ·rw [if_neg hc, Bool.eq_false_iff.2 hc, spec_ChangesRight.j0, if_pos rfl]; rfl
theorem impl_ChangesRight_f (c : Int) (l : List S83) (h : ∀ x ∈ l, ChOK x) (k : Nat) (hk : 4503599627371000 < k) : impl_ChangesRight.f k c l = some (ChangesP c l) := by
 obtain ⟨k, rfl⟩ : ∃ q, k = q + 1 := ⟨k - 1, by omega⟩
 unfold impl_ChangesRight.f impl_Change.f ChangesP
 rw [Option.bind_some, between_f, Option.bind_some]
 by_cases hc : (decide (1 ≤ c) && decide (c ≤ 1000000)) = true
 ·rw [if_pos hc, hc, Bool.true_and]
  simp only [Bool.and_eq_true, decide_eq_true_eq] at hc
  by_cases h4 : l.length ≤ 40
  ·rw [if_neg (by omega), decide_eq_true h4, Bool.true_and, impl_ChangesRight.j0]
   by_cases hn : (l.length : Int) ≥ c
   ·rw [decide_eq_true hn, if_pos rfl]
    symm
    congr 1
    apply Bool.eq_false_iff.2
    intro hall
    have := List.all_eq_true.1 hall 0 (List.mem_range.2 (by omega))
    unfold chF at this
    simp only [Bool.and_eq_true, decide_eq_true_eq] at this
    omega
   ·rw [decide_eq_false hn, if_neg (by simp), all_loop true (chF c l) l.length (by omega) 4503599627370500 (fun k i => impl_ChangesRight.l0 k (l.length : Int) l (l.length : Int) i c l) (fun k i hk h0 hi => ?_) (fun k i hk h0 hi => ?_) l.length k 0 (by omega) (by omega) (by omega)]
    ·rw [List.range_eq_range']; simp
    ·show impl_ChangesRight.l0 (k + 1) (l.length : Int) l (l.length : Int) i c l = if chF c l i.toNat = true then impl_ChangesRight.l0 k (l.length : Int) l (l.length : Int) (wrap64 (i + 1)) c l else some false
     have hz := h (chI l i.toNat) (getD_mem_ _ _ _ (by omega))
     rw [impl_ChangesRight.l0, if_pos hi, if_pos h0, if_pos hi, rd_chI, w64 (x := c - (l.length : Int)) (by omega) (by omega), w64 (x := c - (l.length : Int) + i) (by omega) (by omega)]
     unfold impl_isChange.f chF
     rw [impl_isDnText_f _ hz.1 k (by omega), Option.bind_some]
     by_cases h2 : (chI l i.toNat).f0 = c - (l.length : Int) + i
     ·rw [if_pos h2, decide_eq_true (p := (chI l i.toNat).f0 = c - (l.length : Int) + (i.toNat : Int)) (by omega), decide_eq_true (p := 1 ≤ (chI l i.toNat).f0) (by omega)]
      cases DnTxP (chI l i.toNat).f2 with
      | false => rfl
      | true =>
       rw [if_pos rfl, impl_isKind_f _ _ hz.2.2 k (by omega)]
       cases KindP (chI l i.toNat).f1 (chI l i.toNat).f3 <;> rfl
     ·rw [if_neg h2, decide_eq_false (p := (chI l i.toNat).f0 = c - (l.length : Int) + (i.toNat : Int)) (by omega)]
      simp
    ·show impl_ChangesRight.l0 (k + 1) (l.length : Int) l (l.length : Int) i c l = _
     rw [impl_ChangesRight.l0, if_neg (by omega)]
  ·rw [if_pos (by omega), decide_eq_false h4, impl_ChangesRight.j0, if_pos rfl]; rfl
 ·rw [if_neg hc, Bool.eq_false_iff.2 hc, impl_ChangesRight.j0, if_pos rfl]; rfl
theorem FnExactChangesRight : laws_FnExactChangesRight.Pure := by
 intro c l _ ⟨hl, hx⟩
 have hin : ∀ x ∈ l, ChIn x := fun x hx2 => by
  obtain ⟨_, _, h2, h3⟩ := hx x hx2
  obtain ⟨⟨h4, h5⟩, h6, h7⟩ := h3
  exact ⟨h2, ⟨⟨by omega, fun y hy => h5 y hy⟩, by omega, fun y hy => ⟨(h7 y hy).1, by have := (h7 y hy).2.1; omega, (h7 y hy).2.2⟩⟩, by omega, by omega, fun y hy => by have := (h7 y hy).2.1; omega⟩
 obtain ⟨K, hK⟩ : ∃ K : Nat, K = 1152921504606846976 := ⟨_, rfl⟩
 refine ⟨K, ?_⟩
 unfold laws_FnExactChangesRight.f laws_toChanges.f laws_eqChanges.f
 obtain ⟨r, e, hr⟩ := laws_szChanges_f c l (by omega) hin K (by omega)
 rw [e, laws_toChangeS_f l (by omega) hin K (by omega), Option.bind_some]
 split
 ·rfl
 ·have hr := hr (by omega)
  have hok : ∀ x ∈ l.map cvCh, ChOK x := fun x hx2 => by
   obtain ⟨y, hy, rfl⟩ := List.mem_map.1 hx2
   have hy2 := hin y hy
   refine ⟨hr y hy, by show (y.f3.f0.map cvRdn).length ≤ _; rw [List.length_map]; exact hy2.2.1.1.1, by show (y.f3.f1.map cvAttr).length ≤ _; rw [List.length_map]; exact hy2.2.1.2.1, fun z hz => ?_⟩
   obtain ⟨u, hu, rfl⟩ := List.mem_map.1 hz
   exact (hy2.2.1.2.2 u hu).2
  simp only [Option.bind_some]
  rw [spec_ChangesRight_f _ _ hok K (by omega), impl_ChangesRight_f _ _ hok K (by omega), laws_eqChangeS_f _ (by rw [List.length_map]; omega) hok K (by rw [List.length_map]; omega)]
  simp
end Go.Proofs.YtgkjlfimjnhbbaaDoor.Pure
