/- The law FnAcl answers true at every two lists of bytes: what it says of drawn rules holds. No condition. -/
import Derived.Test.YtmkeigielncpjaaGreatDoorQFnAclx10
import Derived.Laws.Bits64
import Derived.Lib.Strings
namespace Go.Proofs.YtmkeigielncpjaaGreatDoor.Pure
open Go.RowKit Go.Proofs.YtmkeigielncpjaaGreatDoor.PFnAcl Go.Proofs.YtmkeigielncpjaaGreatDoorW.PrintWords Go.Proofs.YtmkeigielncpjaaGreatDoorW.PrintLast
set_option linter.unusedVariables false
set_option linter.unusedSimpArgs false
theorem w64 {x : Int} (h0 : -9223372036854775808 ≤ x) (h1 : x ≤ 9223372036854775807) : wrap64 x = x := by unfold wrap64; omega
theorem ba_append_size (a b : ByteArray) : (a ++ b).size = a.size + b.size := by simp
theorem ba_append_assoc (a b c : ByteArray) : (a ++ b) ++ c = a ++ (b ++ c) := by
 apply ByteArray.ext
 simp
theorem ba_ext {a b : ByteArray} (h : a.data.toList = b.data.toList) : a = b := ByteArray.ext (Array.toList_inj.1 h)
theorem ba_inj {a b : ByteArray} : a.toList = b.toList ↔ a = b :=
 ⟨fun h => ba_ext (by rwa [Go.Lib.toList_data, Go.Lib.toList_data] at h), fun h => by rw [h]⟩
theorem ba_data_append (a b : ByteArray) : (a ++ b).data.toList = a.data.toList ++ b.data.toList := by simp
theorem bytesOf_son (l : List Int) (h : ∀ x ∈ l, 0 ≤ x ∧ x ≤ 255) : bytesOf (strOfNums l) = l := by
 unfold bytesOf
 rw [strOfNums_data, List.map_map]
 conv => rhs; rw [← List.map_id l]
 apply List.map_congr_left
 intro x hx
 have := h x hx
 simp only [Function.comp, id]
 rw [UInt8.toNat_ofNat']
 omega
theorem drop_bt (s : ByteArray) (i : Int) (h0 : 0 ≤ i) (h1 : i < s.size) : (bytesOf s).drop i.toNat = bt s i :: (bytesOf s).drop (i + 1).toNat := by
 have hl : i.toNat < (bytesOf s).length := by rw [bytesOf_length]; omega
 rw [List.drop_eq_getElem_cons hl, ← rd_bytesOf, show (i + 1).toNat = i.toNat + 1 by omega]
 congr 1
 unfold rd
 rw [List.getD_eq_getElem?_getD, List.getElem?_eq_getElem hl]; rfl
theorem range_map_getD {α β : Type} (l : List α) (z : α) (f : α → β) : (List.range l.length).map (fun j => f (l.getD j z)) = l.map f := by
 apply List.ext_getElem
 ·simp
 ·intro i h1 h2
  simp only [List.getElem_map, List.getElem_range]
  rw [List.getD_eq_getElem?_getD, List.getElem?_eq_getElem (by simpa using h1)]
  rfl
theorem all_loop (fin : Bool) (f : Nat → Bool) (n : Nat) (hn : (n : Int) ≤ 4611686018427387904) (K : Nat) (g : Nat → Int → Option Bool)
  (step : ∀ (k : Nat) (i : Int), K ≤ k → 0 ≤ i → i < n → g (k + 1) i = if f i.toNat = true then g k (wrap64 (i + 1)) else some false)
  (hfin : ∀ (k : Nat) (i : Int), K ≤ k → 0 ≤ i → (n : Int) ≤ i → g (k + 1) i = some fin) :
  ∀ (d k : Nat) (i : Int), 0 ≤ i → i + d = n → K + d < k → g k i = some ((List.range' i.toNat d).all f && fin)
 | 0, k, i, h0, hi, hk => by
  obtain ⟨k, rfl⟩ : ∃ q, k = q + 1 := ⟨k - 1, by omega⟩
  rw [hfin k i (by omega) h0 (by omega)]; simp
 | d + 1, k, i, h0, hi, hk => by
  obtain ⟨k, rfl⟩ : ∃ q, k = q + 1 := ⟨k - 1, by omega⟩
  rw [step k i (by omega) h0 (by omega), w64 (x := i + 1) (by omega) (by omega), List.range'_succ, List.all_cons]
  cases hf : f i.toNat with
  | false => simp
  | true =>
   rw [if_pos rfl, all_loop fin f n hn K g step hfin d k (i + 1) (by omega) (by omega) (by omega), show (i + 1).toNat = i.toNat + 1 by omega]
   simp
def sAt (l : List ByteArray) (j : Nat) : ByteArray := l.getD j ByteArray.empty
theorem sAt_size (l : List ByteArray) (hs : ∀ x ∈ l, x.size ≤ 140737488351232) (j : Nat) : (sAt l j).size ≤ 140737488351232 := by
 unfold sAt
 rw [List.getD_eq_getElem?_getD]
 by_cases h : j < l.length
 ·rw [List.getElem?_eq_getElem h]; exact hs _ (List.getElem_mem h)
 ·rw [List.getElem?_eq_none (by omega)]; decide
theorem rdOf_sAt (l : List ByteArray) (i : Int) : rdOf ByteArray.empty l i = sAt l i.toNat := rfl
theorem sAt_drop (l : List ByteArray) (i : Int) (h0 : 0 ≤ i) (h1 : i < l.length) : l.drop i.toNat = sAt l i.toNat :: l.drop (i + 1).toNat := by
 have hi : i.toNat < l.length := by omega
 rw [List.drop_eq_getElem_cons hi, show (i + 1).toNat = i.toNat + 1 by omega]
 unfold sAt
 rw [List.getD_eq_getElem?_getD, List.getElem?_eq_getElem hi]; rfl
def up (c : Int) : Int := if 65 ≤ c ∧ c ≤ 90 then c + 32 else c
def nput (l : List Int) (c : Int) : List Int := if c = 32 ∧ (l = [] ∨ rd l ((l.length : Int) - 1) = 32) then l else l ++ [c]
def nfold (l cs : List Int) : List Int := cs.foldl (fun l c => nput l (up c)) l
def ntrim (l : List Int) : List Int := if l ≠ [] ∧ rd l ((l.length : Int) - 1) = 32 then l.take (l.length - 1) else l
def prt (c : Int) : Bool := decide (32 ≤ c) && decide (c ≤ 126)
theorem prt_lo {c : Int} (h : c < 32) : prt c = false := by unfold prt; rw [decide_eq_false (by omega)]; rfl
theorem prt_hi {c : Int} (h : c > 126) : prt c = false := by unfold prt; rw [decide_eq_false (p := c ≤ 126) (by omega)]; simp
def plainP (s : ByteArray) : Bool := (bytesOf s).all prt
def NormL (s : ByteArray) : List Int := if s.size ≤ 100 ∧ plainP s = true then ntrim (nfold [] (bytesOf s)) else []
def NormP (s : ByteArray) : ByteArray := strOfNums (NormL s)
theorem spec_l02Plain_l0 (s : ByteArray) (hs : s.size ≤ 4611686018427387904) : ∀ (d k : Nat) (i : Int), 0 ≤ i → i + d = s.size → d < k →
  Qz.l0 k s i = some (((bytesOf s).drop i.toNat).all prt)
 | 0, k, i, h0, hd, hk => by
  obtain ⟨k, rfl⟩ : ∃ m, k = m + 1 := ⟨k - 1, by omega⟩
  simp only [Qz.l0]
  rw [if_neg (by omega), List.drop_of_length_le (by rw [bytesOf_length]; omega)]; rfl
 | d + 1, k, i, h0, hd, hk => by
  obtain ⟨k, rfl⟩ : ∃ m, k = m + 1 := ⟨k - 1, by omega⟩
  simp only [Qz.l0]
  rw [if_pos (by omega), if_pos h0, drop_bt s i h0 (by omega), List.all_cons]
  by_cases h1 : bt s i < 32
  ·rw [if_pos h1, show prt (bt s i) = false from prt_lo h1]; rfl
  ·rw [if_neg h1]
   by_cases h2 : bt s i > 126
   ·rw [if_pos h2, show prt (bt s i) = false from prt_hi h2]; rfl
   ·rw [if_neg h2, w64 (by omega) (by omega), spec_l02Plain_l0 s hs d k (i + 1) (by omega) (by omega) (by omega)]
    simp [prt, show 32 ≤ bt s i by omega, show bt s i ≤ 126 by omega]
theorem spec_l02Plain_f (s : ByteArray) (hs : s.size ≤ 4611686018427387904) (k : Nat) (hk : s.size < k) : Qz.f k s = some (plainP s) := by
 unfold Qz.f
 rw [spec_l02Plain_l0 s hs s.size k 0 (by omega) (by omega) hk]; rfl
theorem impl_isPrintable_l0 (s : ByteArray) (hs : s.size ≤ 4611686018427387904) : ∀ (d k : Nat) (i : Int), 0 ≤ i → i + d = s.size → d < k →
  Gx.l0 k s (s.size : Int) i = some (((bytesOf s).drop i.toNat).all prt)
 | 0, k, i, h0, hd, hk => by
  obtain ⟨k, rfl⟩ : ∃ m, k = m + 1 := ⟨k - 1, by omega⟩
  simp only [Gx.l0]
  rw [if_neg (by omega), List.drop_of_length_le (by rw [bytesOf_length]; omega)]; rfl
 | d + 1, k, i, h0, hd, hk => by
  obtain ⟨k, rfl⟩ : ∃ m, k = m + 1 := ⟨k - 1, by omega⟩
  simp only [Gx.l0]
  rw [if_pos (by omega), if_pos h0, if_pos (by omega), drop_bt s i h0 (by omega), List.all_cons]
  by_cases h1 : bt s i < 32
  ·rw [if_pos h1, show prt (bt s i) = false from prt_lo h1]; rfl
  ·rw [if_neg h1]
   by_cases h2 : bt s i > 126
   ·rw [if_pos h2, show prt (bt s i) = false from prt_hi h2]; rfl
   ·rw [if_neg h2, w64 (by omega) (by omega), impl_isPrintable_l0 s hs d k (i + 1) (by omega) (by omega) (by omega)]
    simp [prt, show 32 ≤ bt s i by omega, show bt s i ≤ 126 by omega]
theorem impl_isPrintable_f (s : ByteArray) (hs : s.size ≤ 4611686018427387904) (k : Nat) (hk : s.size < k) : Gx.f k s = some (plainP s) := by
 unfold Gx.f
 rw [impl_isPrintable_l0 s hs s.size k 0 (by omega) (by omega) hk]; rfl
theorem nput_length (l : List Int) (c : Int) : (nput l c).length ≤ l.length + 1 := by
 unfold nput; split <;> simp
theorem up_of {c : Int} (h0 : 0 ≤ c) (h1 : c ≤ 255) (b : Bool) (hb : b = (decide (c ≥ 65) && decide (c ≤ 90))) : (if b = true then (c + 32) % 256 else c) = up c := by
 unfold up
 subst hb
 by_cases h : 65 ≤ c ∧ c ≤ 90
 ·rw [if_pos h, if_pos (by simp [h.1, h.2])]; omega
 ·rw [if_neg h, if_neg (by simpa using h)]
theorem spec_Norm_j2 (k : Nat) (s : ByteArray) (l : List Int) (i c : Int) (b : Bool) (hl : l.length < 1000) (h0 : 0 ≤ i) (h1 : i < 1000) :
  Qr.j2 (k + 1) s l i c b = Qr.l0 k s (nput l (if b = true then (c + 32) % 256 else c)) (i + 1) := by
 simp only [Qr.j2]
 rw [w64 (x := i + 1) (by omega) (by omega), w64 (x := (l.length : Int) - 1) (by omega) (by omega), if_pos (show l.length < 140737488355328 by omega), if_pos (show l.length < 140737488355328 by omega)]
 have key : ∀ c : Int, (if c = 32 then (if (l.length : Int) = 0 then Qr.l0 k s l (i + 1) else (if 0 ≤ (l.length : Int) - 1 then (if (l.length : Int) - 1 < (l.length : Int) then (if rd l ((l.length : Int) - 1) = 32 then Qr.l0 k s l (i + 1) else Qr.l0 k s (l ++ [c]) (i + 1)) else none) else none)) else Qr.l0 k s (l ++ [c]) (i + 1)) = Qr.l0 k s (nput l c) (i + 1) := by
  intro c
  unfold nput
  by_cases hc : c = 32
  ·rw [if_pos hc]
   by_cases hn : l = []
   ·rw [if_pos (by simp [hn]), if_pos ⟨hc, .inl hn⟩]
   ·have : 0 < l.length := List.length_pos_iff.2 hn
    rw [if_neg (by omega), if_pos (by omega), if_pos (by omega)]
    by_cases hr : rd l ((l.length : Int) - 1) = 32
    ·rw [if_pos hr, if_pos ⟨hc, .inr hr⟩]
    ·rw [if_neg hr, if_neg (fun x => x.2.elim hn hr)]
  ·rw [if_neg hc, if_neg (fun x => hc x.1)]
 cases b
 ·exact key c
 ·exact key _
theorem impl_Norm_j2 (k : Nat) (s : ByteArray) (l : List Int) (n i c : Int) (b : Bool) (hl : l.length < 1000) (h0 : 0 ≤ i) (h1 : i < 1000) :
  Gk.j2 (k + 1) s l c n i b = Gk.l0 k s (nput l (if b = true then (c + 32) % 256 else c)) n (i + 1) := by
 simp only [Gk.j2]
 rw [w64 (x := i + 1) (by omega) (by omega), w64 (x := (l.length : Int) - 1) (by omega) (by omega), if_pos (show l.length < 140737488355328 by omega), if_pos (show l.length < 140737488355328 by omega)]
 have key : ∀ c : Int, (if c = 32 then (if (l.length : Int) > 0 then (if 0 ≤ (l.length : Int) - 1 then (if (l.length : Int) - 1 < (l.length : Int) then (if rd l ((l.length : Int) - 1) = 32 then Gk.l0 k s l n (i + 1) else Gk.l0 k s (l ++ [c]) n (i + 1)) else none) else none) else Gk.l0 k s l n (i + 1)) else Gk.l0 k s (l ++ [c]) n (i + 1)) = Gk.l0 k s (nput l c) n (i + 1) := by
  intro c
  unfold nput
  by_cases hc : c = 32
  ·rw [if_pos hc]
   by_cases hn : l = []
   ·rw [if_neg (by simp [hn]), if_pos ⟨hc, .inl hn⟩]
   ·have : 0 < l.length := List.length_pos_iff.2 hn
    rw [if_pos (by omega), if_pos (by omega), if_pos (by omega)]
    by_cases hr : rd l ((l.length : Int) - 1) = 32
    ·rw [if_pos hr, if_pos ⟨hc, .inr hr⟩]
    ·rw [if_neg hr, if_neg (fun x => x.2.elim hn hr)]
  ·rw [if_neg hc, if_neg (fun x => hc x.1)]
 cases b
 ·exact key c
 ·exact key _
theorem spec_Norm_l0 (s : ByteArray) (hs : s.size ≤ 100) : ∀ (d k : Nat) (i : Int) (l : List Int), 0 ≤ i → i + d = s.size → 2 * d < k → l.length ≤ i →
  Qr.l0 k s l i = some (strOfNums (ntrim (nfold l ((bytesOf s).drop i.toNat))))
 | 0, k, i, l, h0, hd, hk, hl => by
  obtain ⟨k, rfl⟩ : ∃ m, k = m + 1 := ⟨k - 1, by omega⟩
  simp only [Qr.l0]
  rw [if_neg (by omega), List.drop_of_length_le (by rw [bytesOf_length]; omega)]
  rw [show nfold l [] = l from rfl]
  unfold ntrim
  by_cases hn : l = []
  ·subst hn; simp
  ·have : 0 < l.length := List.length_pos_iff.2 hn
   rw [w64 (x := (l.length : Int) - 1) (by omega) (by omega), if_pos (by omega), if_pos (by omega), if_pos (by omega)]
   by_cases hr : rd l ((l.length : Int) - 1) = 32
   ·rw [if_pos hr, if_pos (show (l.length : Int) - 1 ≤ (l.length : Int) by omega), if_pos ⟨hn, hr⟩, show ((l.length : Int) - 1).toNat = l.length - 1 by omega]
   ·rw [if_neg hr, if_neg (fun x => hr x.2)]
 | d + 1, k, i, l, h0, hd, hk, hl => by
  obtain ⟨k, rfl⟩ : ∃ m, k = m + 2 := ⟨k - 2, by omega⟩
  have hb := bt_range s i
  have hj : ∀ b : Bool, b = (decide (bt s i ≥ 65) && decide (bt s i ≤ 90)) → Qr.j2 (k + 1) s l i (bt s i) b = some (strOfNums (ntrim (nfold l ((bytesOf s).drop i.toNat)))) := by
   intro b hbb
   rw [spec_Norm_j2 k s l i _ b (by omega) h0 (by omega), up_of hb.1 hb.2 b hbb]
   have := nput_length l (up (bt s i))
   rw [spec_Norm_l0 s hs d k (i + 1) _ (by omega) (by omega) (by omega) (by omega), drop_bt s i h0 (by omega)]; rfl
  simp only [Qr.l0]
  rw [if_pos (by omega), if_pos h0]
  by_cases h : bt s i ≥ 65
  ·rw [if_pos h]; exact hj _ (by simp [h])
  ·rw [if_neg h]; exact hj _ (by simp [h])
theorem son_take (l : List Int) (n : Nat) : (strOfNums l).extract 0 n = strOfNums (l.take n) := by
 apply ba_ext
 rw [ByteArray.data_extract, Array.toList_extract, strOfNums_data, strOfNums_data]
 simp [List.extract]
theorem son_drop (l : List Int) (n : Nat) : (strOfNums l).extract n (strOfNums l).size = strOfNums (l.drop n) := by
 apply ba_ext
 rw [ByteArray.data_extract, Array.toList_extract, strOfNums_data, strOfNums_data, strOfNums_size]
 simp only [List.extract, List.map_drop]
 exact List.take_of_length_le (by simp)
theorem drop_last (l : List Int) (h : 0 < l.length) : l.drop (l.length - 1) = [rd l ((l.length : Int) - 1)] := by
 rw [List.drop_eq_getElem_cons (by omega), List.drop_of_length_le (by omega)]
 congr 1
 unfold rd
 rw [show ((l.length : Int) - 1).toNat = l.length - 1 by omega, List.getD_eq_getElem?_getD, List.getElem?_eq_getElem (by omega)]; rfl
theorem trim_blank (l : List Int) (hl : l.length < 1000) (hr : ∀ x ∈ l, 0 ≤ x ∧ x ≤ 255) : Vr.f (strOfNums l) (⟨#[32]⟩ : ByteArray) = some (strOfNums (ntrim l)) := by
 have hz : (⟨#[32]⟩ : ByteArray).size = 1 := rfl
 unfold Vr.f Vt.f Vs.f ntrim
 rw [hz]
 by_cases hn : l = []
 ·subst hn
  rw [if_neg (show ¬ (((strOfNums []).size : Int) ≥ ((1 : Nat) : Int)) by decide)]; rfl
 ·have hp : 0 < l.length := List.length_pos_iff.2 hn
  have hin : rd l ((l.length : Int) - 1) ∈ l := by have h := drop_last l hp; exact List.mem_of_mem_drop (i := l.length - 1) (by rw [h]; simp)
  have hb := hr _ hin
  simp only [strOfNums_size, Int.natCast_one]
  rw [w64 (x := (l.length : Int) - 1) (by omega) (by omega), if_pos (by omega), if_pos (by omega), if_pos (by omega)]
  simp only [Option.bind_some]
  have e1 : (strOfNums l).extract ((l.length : Int) - 1).toNat l.length = strOfNums [rd l ((l.length : Int) - 1)] := by
   rw [← drop_last l hp, ← son_drop, strOfNums_size, show ((l.length : Int) - 1).toNat = l.length - 1 by omega]
  rw [e1]
  have e2 : ((strOfNums [rd l ((l.length : Int) - 1)]).toList == (⟨#[32]⟩ : ByteArray).toList) = decide (rd l ((l.length : Int) - 1) = 32) := by
   rw [Go.Lib.toList_data, Go.Lib.toList_data, strOfNums_data]
   generalize rd l ((l.length : Int) - 1) = x at hb
   have key : ∀ z : Fin 256, (([(z.val : Int)].map fun n => UInt8.ofNat n.toNat) == (⟨#[32]⟩ : ByteArray).data.toList) = decide ((z.val : Int) = 32) := by decide +kernel
   have := key ⟨x.toNat, by omega⟩
   simpa [Int.toNat_of_nonneg hb.1] using this
  rw [e2]
  by_cases h : rd l ((l.length : Int) - 1) = 32
  ·rw [decide_eq_true h]
   simp only [if_true, Option.bind_some]
   rw [if_pos (show l ≠ [] ∧ rd l ((l.length : Int) - 1) = 32 from ⟨hn, h⟩), son_take, show ((l.length : Int) - 1).toNat = l.length - 1 by omega, if_pos (show 0 ≤ (l.length : Int) - 1 by omega), if_pos (show (l.length : Int) - 1 ≤ (l.length : Int) by omega)]; rfl
  ·rw [decide_eq_false h, if_neg (show ¬ (l ≠ [] ∧ rd l ((l.length : Int) - 1) = 32) from fun x => h x.2)]; rfl
theorem nput_range {l : List Int} {c : Int} (hl : ∀ x ∈ l, 0 ≤ x ∧ x ≤ 255) (hc : 0 ≤ c ∧ c ≤ 255) : ∀ x ∈ nput l c, 0 ≤ x ∧ x ≤ 255 := by
 intro x hx
 unfold nput at hx
 split at hx
 ·exact hl x hx
 ·rcases List.mem_append.1 hx with h | h
  ·exact hl x h
  ·rw [List.mem_singleton.1 h]; exact hc
theorem up_range {c : Int} (hc : 0 ≤ c ∧ c ≤ 255) : 0 ≤ up c ∧ up c ≤ 255 := by unfold up; split <;> omega
theorem impl_Norm_l0 (s : ByteArray) (hs : s.size ≤ 100) : ∀ (d k : Nat) (i : Int) (l : List Int), 0 ≤ i → i + d = s.size → 2 * d < k → l.length ≤ i → (∀ x ∈ l, 0 ≤ x ∧ x ≤ 255) →
  Gk.l0 k s l (s.size : Int) i = some (strOfNums (ntrim (nfold l ((bytesOf s).drop i.toNat))))
 | 0, k, i, l, h0, hd, hk, hl, hr => by
  obtain ⟨k, rfl⟩ : ∃ m, k = m + 1 := ⟨k - 1, by omega⟩
  simp only [Gk.l0]
  rw [if_neg (by omega), List.drop_of_length_le (by rw [bytesOf_length]; omega), trim_blank l (by omega) hr]
  rfl
 | d + 1, k, i, l, h0, hd, hk, hl, hr => by
  obtain ⟨k, rfl⟩ : ∃ m, k = m + 2 := ⟨k - 2, by omega⟩
  have hb := bt_range s i
  have hj : ∀ b : Bool, b = (decide (bt s i ≥ 65) && decide (bt s i ≤ 90)) → Gk.j2 (k + 1) s l (bt s i) (s.size : Int) i b = some (strOfNums (ntrim (nfold l ((bytesOf s).drop i.toNat)))) := by
   intro b hbb
   rw [impl_Norm_j2 k s l _ i _ b (by omega) h0 (by omega), up_of hb.1 hb.2 b hbb]
   have := nput_length l (up (bt s i))
   rw [impl_Norm_l0 s hs d k (i + 1) _ (by omega) (by omega) (by omega) (by omega) (nput_range hr (up_range hb)), drop_bt s i h0 (by omega)]; rfl
  simp only [Gk.l0]
  rw [if_pos (by omega), if_pos h0, if_pos (by omega)]
  by_cases h : bt s i ≥ 65
  ·rw [if_pos h]; exact hj _ (by simp [h])
  ·rw [if_neg h]; exact hj _ (by simp [h])
theorem spec_Norm_f (s : ByteArray) (k : Nat) (hk : 2 * s.size + 2 < k) : Qr.f k s = some (NormP s) := by
 obtain ⟨k, rfl⟩ : ∃ m, k = m + 1 := ⟨k - 1, by omega⟩
 unfold Qr.f NormP NormL
 by_cases h : s.size ≤ 100
 ·rw [if_neg (by omega), spec_l02Plain_f s (by omega) _ (by omega)]
  simp only [Option.bind_some, Qr.j0]
  by_cases hp : plainP s = true
  ·rw [if_neg (by simp [hp]), if_pos ⟨h, hp⟩, spec_Norm_l0 s h s.size k 0 [] (by omega) (by omega) (by omega) (by simp)]; rfl
  ·rw [if_pos (by simp [hp]), if_neg (fun x => hp x.2)]; rfl
 ·rw [if_pos (by omega), if_neg (fun x => h x.1)]
  simp only [Qr.j0, if_true]; rfl
theorem impl_Norm_f (s : ByteArray) (k : Nat) (hk : 2 * s.size + 2 < k) : Gk.f k s = some (NormP s) := by
 obtain ⟨k, rfl⟩ : ∃ m, k = m + 1 := ⟨k - 1, by omega⟩
 unfold Gk.f NormP NormL
 by_cases h : s.size ≤ 100
 ·rw [if_neg (by omega), impl_isPrintable_f s (by omega) _ (by omega)]
  simp only [Option.bind_some, Gk.j0]
  by_cases hp : plainP s = true
  ·rw [if_neg (by simp [hp]), if_pos ⟨h, hp⟩, impl_Norm_l0 s h s.size k 0 [] (by omega) (by omega) (by omega) (by simp) (by simp)]; rfl
  ·rw [if_pos (by simp [hp]), if_neg (fun x => hp x.2)]; rfl
 ·rw [if_pos (by omega), if_neg (fun x => h x.1)]
  simp only [Gk.j0, if_true]; rfl
def Good (l : List Int) : Prop := ∀ p c s, l = p ++ c :: s → (prt c = true ∧ ¬ (65 ≤ c ∧ c ≤ 90)) ∧ (c = 32 → p ≠ [] ∧ rd p ((p.length : Int) - 1) ≠ 32)
theorem Good.nil : Good [] := by
 intro p c s h
 simp at h
theorem Good.take {l : List Int} (h : Good l) (n : Nat) : Good (l.take n) := by
 intro p c s e
 have e2 : l = p ++ c :: (s ++ l.drop n) := by
  conv => lhs; rw [← List.take_append_drop n l]
  rw [e]; simp
 exact h p c _ e2
theorem Good.snoc {l : List Int} {c : Int} (h : Good l) (hc : prt c = true ∧ ¬ (65 ≤ c ∧ c ≤ 90)) (h2 : c = 32 → l ≠ [] ∧ rd l ((l.length : Int) - 1) ≠ 32) : Good (l ++ [c]) := by
 intro p d s e
 rcases List.eq_nil_or_concat s with rfl | ⟨s', x, rfl⟩
 ·have := List.append_inj' e rfl
  obtain ⟨e1, e2⟩ := this
  subst e1
  simp only [List.cons.injEq, and_true] at e2
  subst e2
  exact ⟨hc, h2⟩
 ·have e' : l ++ [c] = (p ++ d :: s') ++ [x] := by rw [e]; simp
  have := List.append_inj' e' rfl
  exact h p d s' this.1
theorem Good.put {l : List Int} {c : Int} (h : Good l) (hc : prt c = true ∧ ¬ (65 ≤ c ∧ c ≤ 90)) : Good (nput l c) := by
 unfold nput
 split
 ·exact h
 ·rename_i hn
  refine h.snoc hc (fun hc2 => ⟨fun e => hn ⟨hc2, .inl e⟩, fun e => hn ⟨hc2, .inr e⟩⟩)
theorem prt_iff {c : Int} : prt c = true ↔ 32 ≤ c ∧ c ≤ 126 := by unfold prt; simp
theorem up_good {c : Int} (h : prt c = true) : prt (up c) = true ∧ ¬ (65 ≤ up c ∧ up c ≤ 90) := by
 rw [prt_iff] at h ⊢
 unfold up
 split <;> omega
theorem Good.fold : ∀ (cs l : List Int), Good l → (∀ c ∈ cs, prt c = true) → Good (nfold l cs)
 | [], l, h, _ => h
 | c :: cs, l, h, hc => Good.fold cs _ (h.put (up_good (hc c (by simp)))) (fun x hx => hc x (by simp [hx]))
def Normal (l : List Int) : Prop := Good l ∧ (l ≠ [] → rd l ((l.length : Int) - 1) ≠ 32) ∧ l.length ≤ 100
theorem Normal.nil : Normal [] := ⟨Good.nil, fun h => absurd rfl h, by simp⟩
theorem nfold_length : ∀ (cs l : List Int), (nfold l cs).length ≤ l.length + cs.length
 | [], l => by simp [nfold]
 | c :: cs, l => by
  have h1 := nfold_length cs (nput l (up c))
  have h2 := nput_length l (up c)
  have h3 : nfold l (c :: cs) = nfold (nput l (up c)) cs := rfl
  rw [h3, List.length_cons]; omega
theorem NormL_normal (s : ByteArray) : Normal (NormL s) := by
 unfold NormL
 split
 ·rename_i h
  have hg : Good (nfold [] (bytesOf s)) := Good.fold _ _ Good.nil (by
   have := h.2
   unfold plainP at this
   exact List.all_eq_true.1 this)
  have hl := nfold_length (bytesOf s) []
  rw [bytesOf_length] at hl
  simp only [List.length_nil, Nat.zero_add] at hl
  generalize nfold [] (bytesOf s) = l at hg hl
  unfold ntrim
  split
  ·rename_i h2
   have hp : 0 < l.length := List.length_pos_iff.2 h2.1
   refine ⟨hg.take _, fun hne => ?_, by rw [List.length_take]; omega⟩
   have e : l = l.take (l.length - 1) ++ [32] := by
    have := drop_last l hp
    rw [h2.2] at this
    conv => lhs; rw [← List.take_append_drop (l.length - 1) l]
    rw [this]
   exact ((hg _ _ _ e).2 rfl).2
  ·rename_i h2
   exact ⟨hg, fun hne h3 => h2 ⟨hne, h3⟩, by omega⟩
 ·exact Normal.nil
theorem Good.range {l : List Int} (h : Good l) : ∀ x ∈ l, 0 ≤ x ∧ x ≤ 255 := by
 intro x hx
 obtain ⟨p, s, e⟩ := List.append_of_mem hx
 have := (h p x s e).1.1
 rw [prt_iff] at this
 omega
def lowc (c : Int) : Bool := decide (97 ≤ c) && decide (c ≤ 122)
def nch (c : Int) : Bool := lowc c || (decide (48 ≤ c) && decide (c ≤ 57)) || decide (c = 95)
def NameP (s : ByteArray) : Bool := decide (1 ≤ s.size) && decide (s.size ≤ 20) && lowc (bt s 0) && (bytesOf s).all nch
theorem spec_NameRight_l0 (s : ByteArray) (hs : s.size ≤ 20) : ∀ (d k : Nat) (i : Int), 0 ≤ i → i + d = s.size → d < k →
  Qq.l0 k s i = some ((decide (i ≠ 0) || decide (s.size = 0) || lowc (bt s 0)) && ((bytesOf s).drop i.toNat).all nch)
 | 0, k, i, h0, hi, hk => by
  obtain ⟨k, rfl⟩ : ∃ q, k = q + 1 := ⟨k - 1, by omega⟩
  rw [Qq.l0, if_neg (by omega), List.drop_of_length_le (by rw [bytesOf_length]; omega), List.all_nil, Bool.and_true]
  by_cases hz : i = 0
  ·rw [decide_eq_true (p := s.size = 0) (by omega)]; simp
  ·rw [decide_eq_true (p := i ≠ 0) hz]; rfl
 | d + 1, k, i, h0, hi, hk => by
  obtain ⟨k, rfl⟩ : ∃ q, k = q + 1 := ⟨k - 1, by omega⟩
  have ih := spec_NameRight_l0 s hs d k (i + 1) (by omega) (by omega) (by omega)
  rw [decide_eq_true (p := i + 1 ≠ 0) (by omega), Bool.true_or, Bool.true_or, Bool.true_and] at ih
  rw [Qq.l0, if_pos (by omega), if_pos h0, drop_bt s i h0 (by omega), List.all_cons, w64 (x := i + 1) (by omega) (by omega), ih, decide_eq_false (p := s.size = 0) (by omega), Bool.or_false]
  have hc := bt_range s i
  generalize hcg : bt s i = c at hc ⊢
  have h00 : i = 0 → lowc (bt s 0) = lowc c := fun e => by rw [← hcg, e]
  unfold nch lowc at *
  by_cases c1 : c ≥ 97
  ·rw [if_pos c1, decide_eq_true (p := 97 ≤ c) c1]
   by_cases c2 : c ≤ 122
   ·rw [if_pos c2, decide_eq_true c2]
    by_cases hz : i = 0
    ·rw [h00 hz, decide_eq_true (p := 97 ≤ c) c1, decide_eq_true c2]; simp
    ·rw [decide_eq_true (p := i ≠ 0) hz]; simp
   ·rw [if_neg c2, decide_eq_false c2, decide_eq_false (p := c ≤ 57) (by omega), decide_eq_false (p := c = 95) (by omega)]
    by_cases hz : i = 0
    ·rw [if_pos hz, h00 hz, decide_eq_false c2, decide_eq_false (p := i ≠ 0) (by omega)]; simp
    ·rw [if_neg hz, if_pos (by omega), if_neg (by omega), if_neg (by omega)]; simp
  ·rw [if_neg c1, decide_eq_false (p := 97 ≤ c) c1]
   by_cases hz : i = 0
   ·rw [if_pos hz, h00 hz, decide_eq_false (p := 97 ≤ c) c1, decide_eq_false (p := i ≠ 0) (by omega)]; simp
   ·rw [if_neg hz, decide_eq_true (p := i ≠ 0) hz]
    by_cases c3 : c ≥ 48
    ·rw [if_pos c3, decide_eq_true (p := 48 ≤ c) c3]
     by_cases c4 : c ≤ 57
     ·rw [if_pos c4, decide_eq_true c4]; simp
     ·rw [if_neg c4, decide_eq_false c4]
      by_cases c5 : c = 95
      ·rw [if_pos c5, decide_eq_true c5]; simp
      ·rw [if_neg c5, decide_eq_false c5]; simp
    ·rw [if_neg c3, decide_eq_false (p := 48 ≤ c) c3, if_neg (by omega), decide_eq_false (p := c = 95) (by omega)]; simp
theorem spec_NameRight_f (s : ByteArray) (k : Nat) (hk : 30 ≤ k) : Qq.f k s = some (NameP s) := by
 obtain ⟨k, rfl⟩ : ∃ q, k = q + 1 := ⟨k - 1, by omega⟩
 unfold Qq.f NameP
 by_cases h1 : (s.size : Int) < 1
 ·rw [if_pos h1, Qq.j0, if_pos rfl, decide_eq_false (p := 1 ≤ s.size) (by omega)]; rfl
 ·rw [if_neg h1, decide_eq_true (p := 1 ≤ s.size) (by omega)]
  by_cases h2 : (s.size : Int) > 20
  ·rw [decide_eq_true h2, Qq.j0, if_pos rfl, decide_eq_false (p := s.size ≤ 20) (by omega)]; rfl
  ·rw [decide_eq_false h2, Qq.j0, if_neg (by simp), decide_eq_true (p := s.size ≤ 20) (by omega), spec_NameRight_l0 s (by omega) s.size k 0 (by omega) (by omega) (by omega), decide_eq_false (p := s.size = 0) (by omega)]
   simp
theorem dw_nil {α : Type} (p : α → Bool) : ∀ l : List α, (∀ x ∈ l, p x = true) → l.dropWhile p = []
 | [], _ => rfl
 | a :: l, h => by
  rw [List.dropWhile_cons, if_pos (h a (by simp))]
  exact dw_nil p l (fun x hx => h x (List.mem_cons_of_mem _ hx))
theorem dw_all {α : Type} (p : α → Bool) : ∀ l : List α, (∀ x ∈ l.dropWhile p, p x = true) → ∀ x ∈ l, p x = true
 | [], _, x, hx => by cases hx
 | a :: l, h, x, hx => by
  rw [List.dropWhile_cons] at h
  by_cases ha : p a = true
  ·rw [if_pos ha] at h
   rcases List.mem_cons.1 hx with e | e
   ·rw [e]; exact ha
   ·exact dw_all p l h x e
  ·rw [if_neg ha] at h
   exact absurd (h a (by simp)) ha
theorem trim_nil (l cs : List UInt8) : (Lib.trimS l cs == ([] : List UInt8)) = l.all (cs.contains ·) := by
 have key : Lib.trimS l cs = [] ↔ ∀ x ∈ l, cs.contains x = true := by
  unfold Lib.trimS Lib.trimLeftS Lib.trimRightS
  constructor
  ·intro h x hx
   refine dw_all (cs.contains ·) l.reverse (fun y hy => ?_) x (List.mem_reverse.2 hx)
   refine dw_all (cs.contains ·) (l.reverse.dropWhile (cs.contains ·)).reverse (fun z hz => ?_) y (List.mem_reverse.2 hy)
   rw [h] at hz; cases hz
  ·intro h
   rw [dw_nil (cs.contains ·) l.reverse (fun x hx => h x (List.mem_reverse.1 hx))]; rfl
 by_cases h : Lib.trimS l cs = []
 ·rw [h, List.all_eq_true.2 (key.1 h)]; rfl
 ·rw [beq_eq_false_iff_ne.2 h]
  symm
  rw [Bool.eq_false_iff]
  exact fun h2 => h (key.2 (List.all_eq_true.1 h2))
theorem nch_contains (b : UInt8) : ([97, 98, 99, 100, 101, 102, 103, 104, 105, 106, 107, 108, 109, 110, 111, 112, 113, 114, 115, 116, 117, 118, 119, 120, 121, 122, 48, 49, 50, 51, 52, 53, 54, 55, 56, 57, 95] : List UInt8).contains b = nch b.toNat := by
 have key : ∀ z : Fin 256, ([97, 98, 99, 100, 101, 102, 103, 104, 105, 106, 107, 108, 109, 110, 111, 112, 113, 114, 115, 116, 117, 118, 119, 120, 121, 122, 48, 49, 50, 51, 52, 53, 54, 55, 56, 57, 95] : List UInt8).contains (UInt8.ofNat z.val) = nch (z.val : Nat) := by decide +kernel
 have := key ⟨b.toNat, b.toNat_lt⟩
 simpa using this
theorem impl_NameRight_f (s : ByteArray) : Gj.f s = some (NameP s) := by
 unfold Gj.f NameP
 by_cases h1 : (s.size : Int) ≥ 1
 ·rw [if_pos h1, decide_eq_true (p := 1 ≤ s.size) (by omega)]
  by_cases h2 : (s.size : Int) ≤ 20
  ·rw [if_pos h2, decide_eq_true (p := s.size ≤ 20) (by omega), if_pos (by omega)]
   unfold lowc
   by_cases h3 : bt s 0 ≥ 97
   ·rw [if_pos h3, decide_eq_true (p := 97 ≤ bt s 0) h3]
    by_cases h4 : bt s 0 ≤ 122
    ·rw [if_pos h4, decide_eq_true h4]
     unfold Vq.f
     rw [if_pos ⟨by omega, by decide, by decide⟩]
     simp only [Option.bind_some, Bool.true_and]
     congr 1
     rw [Go.Lib.toList_data]
     show (Lib.trimS s.data.toList _ == []) = _
     rw [trim_nil]
     unfold bytesOf
     rw [List.all_map]
     congr 1
     funext b
     exact nch_contains b
    ·rw [if_neg h4, decide_eq_false h4]; rfl
   ·rw [if_neg h3, decide_eq_false (p := 97 ≤ bt s 0) h3]; rfl
  ·rw [if_neg h2, decide_eq_false (p := s.size ≤ 20) (by omega)]; rfl
 ·rw [if_neg h1, decide_eq_false (p := 1 ≤ s.size) (by omega)]; rfl
def ValueP (s : ByteArray) : Bool := decide (1 ≤ s.size) && decide (s.size ≤ 40) && ((NormP s).toList != ([] : List UInt8))
theorem spec_l02Value_f (s : ByteArray) (k : Nat) (hk : 100 ≤ k) : Va.f k s = some (ValueP s) := by
 unfold Va.f ValueP
 by_cases h1 : (s.size : Int) ≥ 1
 ·by_cases h2 : (s.size : Int) ≤ 40
  ·rw [if_pos h1, if_pos h2, spec_Norm_f s k (by omega), decide_eq_true (p := 1 ≤ s.size) (by omega), decide_eq_true (p := s.size ≤ 40) (by omega)]
   simp
  ·rw [if_pos h1, if_neg h2, decide_eq_false (p := s.size ≤ 40) (by omega)]; simp
 ·rw [if_neg h1, decide_eq_false (p := 1 ≤ s.size) (by omega)]; simp
theorem impl_isProper_f (s : ByteArray) (k : Nat) (hk : 100 ≤ k) : Gy.f k s = some (ValueP s) := by
 unfold Gy.f ValueP
 by_cases h1 : (s.size : Int) ≥ 1
 ·by_cases h2 : (s.size : Int) ≤ 40
  ·rw [if_pos h1, if_pos h2, impl_Norm_f s k (by omega), decide_eq_true (p := 1 ≤ s.size) (by omega), decide_eq_true (p := s.size ≤ 40) (by omega)]
   simp
  ·rw [if_pos h1, if_neg h2, decide_eq_false (p := s.size ≤ 40) (by omega)]; simp
 ·rw [if_neg h1, decide_eq_false (p := 1 ≤ s.size) (by omega)]; simp
abbrev Rd := S96
def RdnP (x : Rd) : Bool := NameP x.f0 && ValueP x.f1
def DnP (l : List Rd) : Bool := decide (l.length ≤ 6) && l.all RdnP
theorem rd_drop (l : List Rd) (i : Int) (h0 : 0 ≤ i) (h1 : i < l.length) : l.drop i.toNat = rd_T96 l i :: l.drop (i + 1).toNat := by
 have hi : i.toNat < l.length := by omega
 rw [List.drop_eq_getElem_cons hi, show (i + 1).toNat = i.toNat + 1 by omega]
 congr 1
 unfold rd_T96
 rw [List.getD_eq_getElem?_getD, List.getElem?_eq_getElem hi]; rfl
theorem spec_DnRight_l0 (l : List Rd) (hl : (l.length : Int) ≤ 4611686018427387904) : ∀ (d k : Nat) (i : Int), 0 ≤ i → i + d = l.length → 100 + d < k →
  Qk.l0 k l i = some ((l.drop i.toNat).all RdnP && decide (l.length ≤ 6))
 | 0, k, i, h0, hi, hk => by
  obtain ⟨k, rfl⟩ : ∃ q, k = q + 1 := ⟨k - 1, by omega⟩
  rw [Qk.l0, if_neg (by omega), List.drop_of_length_le (by omega), List.all_nil, Bool.true_and]
  congr 1
  by_cases h6 : l.length ≤ 6
  ·rw [decide_eq_true h6, decide_eq_true (by omega)]
  ·rw [decide_eq_false h6, decide_eq_false (by omega)]
 | d + 1, k, i, h0, hi, hk => by
  obtain ⟨k, rfl⟩ : ∃ q, k = q + 1 := ⟨k - 1, by omega⟩
  rw [Qk.l0, if_pos (by omega), if_pos h0, rd_drop l i h0 (by omega), List.all_cons, spec_NameRight_f _ k (by omega), spec_l02Value_f _ k (by omega),
   w64 (x := i + 1) (by omega) (by omega), spec_DnRight_l0 l hl d k (i + 1) (by omega) (by omega) (by omega)]
  unfold RdnP
  cases NameP (rd_T96 l i).f0 <;> cases ValueP (rd_T96 l i).f1 <;> simp
theorem spec_DnRight_f (l : List Rd) (hl : (l.length : Int) ≤ 4611686018427387904) (k : Nat) (hk : 101 + l.length ≤ k) : Qk.f k l = some (DnP l) := by
 unfold Qk.f DnP
 rw [spec_DnRight_l0 l hl l.length k 0 (by omega) (by omega) (by omega)]
 simp [Bool.and_comm]
theorem impl_DnRight_1_f (a b : ByteArray) (k : Nat) (hk : 100 ≤ k) : Ge.f k a b = some (!(NameP a && ValueP b)) := by
 unfold Ge.f Gz.f
 rw [impl_NameRight_f, impl_isProper_f _ k hk]
 cases NameP a <;> cases ValueP b <;> rfl
theorem impl_DnRight_ix (k : Nat) (hk : 100 ≤ k) : ∀ (l : List Rd) (i : Int), 0 ≤ i → ∃ r, Gd.ix k l i = some r ∧ (!(decide (r ≥ 0))) = l.all RdnP
 | [], i, h0 => ⟨-1, rfl, rfl⟩
 | x :: xs, i, h0 => by
  simp only [Gd.ix]
  rw [impl_DnRight_1_f _ _ k hk, List.all_cons, Option.bind_some]
  unfold RdnP
  cases NameP x.f0 && ValueP x.f1 with
  | true => exact impl_DnRight_ix k hk xs (i + 1) (by omega)
  | false => exact ⟨i, rfl, by rw [decide_eq_true (p := i ≥ 0) h0]; rfl⟩
theorem impl_DnRight_f (l : List Rd) (k : Nat) (hk : 100 ≤ k) : Gd.f k l = some (DnP l) := by
 unfold Gd.f DnP
 by_cases h : (l.length : Int) ≤ 6
 ·obtain ⟨r, e, h2⟩ := impl_DnRight_ix k hk l 0 (by omega)
  rw [if_pos h, e, Option.bind_some, h2, decide_eq_true (p := l.length ≤ 6) (by omega)]; rfl
 ·rw [if_neg h, decide_eq_false (p := l.length ≤ 6) (by omega)]; rfl
theorem DnP_mem {l : List Rd} (h : DnP l = true) : l.length ≤ 6 ∧ ∀ x ∈ l, RdnP x = true := by
 unfold DnP at h
 simp only [Bool.and_eq_true, decide_eq_true_eq, List.all_eq_true] at h
 exact h
theorem ValueP_size {s : ByteArray} (h : ValueP s = true) : 1 ≤ s.size ∧ s.size ≤ 40 := by
 unfold ValueP at h
 simp only [Bool.and_eq_true, decide_eq_true_eq] at h
 omega
theorem NameP_size {s : ByteArray} (h : NameP s = true) : 1 ≤ s.size ∧ s.size ≤ 20 := by
 unfold NameP at h
 simp only [Bool.and_eq_true, decide_eq_true_eq] at h
 omega
theorem RdnP_size {x : Rd} (h : RdnP x = true) : x.f0.size ≤ 20 ∧ x.f1.size ≤ 40 := by
 unfold RdnP at h
 simp only [Bool.and_eq_true] at h
 exact ⟨(NameP_size h.1).2, (ValueP_size h.2).2⟩
theorem rd_mem (l : List Rd) (i : Int) (h0 : 0 ≤ i) (h1 : i < l.length) : rd_T96 l i ∈ l := by
 have hi : i.toNat < l.length := by omega
 unfold rd_T96
 rw [List.getD_eq_getElem?_getD, List.getElem?_eq_getElem hi]
 exact List.getElem_mem hi
def KeyP (l : List Rd) : ByteArray := l.reverse.foldl (fun x y => Gr.keyStep x y.f0 (NormP y.f1)) (⟨#[]⟩ : ByteArray)
theorem NormP_size (s : ByteArray) : (NormP s).size ≤ 100 := by
 unfold NormP
 rw [strOfNums_size]
 exact (NormL_normal s).2.2
theorem impl_dnKey_go (k : Nat) (hk : 100 ≤ k) : ∀ (l : List Rd) (x : ByteArray), (∀ y ∈ l, RdnP y = true) → Gr.go k l x = some (l.foldl (fun x y => Gr.keyStep x y.f0 (NormP y.f1)) x)
 | [], x, h => rfl
 | y :: ys, x, h => by
  have h1 := RdnP_size (h y (by simp))
  have h2 := NormP_size y.f1
  rw [Gr.go, impl_Norm_f _ _ (by omega), Option.bind_some, if_pos (by omega), impl_dnKey_go k hk ys _ (fun z hz => h z (List.mem_cons_of_mem _ hz))]
  rfl
theorem impl_dnKey_f (l : List Rd) (h : DnP l = true) (k : Nat) (hk : 100 ≤ k) : Gr.f k l = some (KeyP l) := by
 obtain ⟨hl, hr⟩ := DnP_mem h
 unfold Gr.f KeyP
 rw [if_pos (by omega), impl_dnKey_go k hk _ _ (fun y hy => hr y (List.mem_reverse.1 hy))]
def ones (s : ByteArray) : Nat := (bytesOf s).count 1
theorem bytesOf_append (a b : ByteArray) : bytesOf (a ++ b) = bytesOf a ++ bytesOf b := by
 unfold bytesOf
 rw [ba_data_append, List.map_append]
theorem ones_append (a b : ByteArray) : ones (a ++ b) = ones a + ones b := by
 unfold ones
 rw [bytesOf_append, List.count_append]
theorem ones_name {s : ByteArray} (h : NameP s = true) : ones s = 0 := by
 unfold ones
 rw [List.count_eq_zero]
 intro hm
 unfold NameP at h
 simp only [Bool.and_eq_true, List.all_eq_true] at h
 have := h.2 1 hm
 exact absurd this (by decide)
theorem ones_norm (s : ByteArray) : ones (NormP s) = 0 := by
 have hg := (NormL_normal s).1
 unfold ones NormP
 rw [bytesOf_son _ hg.range, List.count_eq_zero]
 intro hm
 obtain ⟨p, q, e⟩ := List.append_of_mem hm
 have := (hg p 1 q e).1.1
 exact absurd this (by decide)
theorem ones_step (x : ByteArray) (y : Rd) (h : RdnP y = true) : ones (Gr.keyStep x y.f0 (NormP y.f1)) = ones x + 1 := by
 unfold RdnP at h
 simp only [Bool.and_eq_true] at h
 unfold Gr.keyStep
 simp only [ones_append, ones_name h.1, ones_norm]
 rfl
theorem ones_fold : ∀ (l : List Rd) (x : ByteArray), (∀ y ∈ l, RdnP y = true) → ones (l.foldl (fun x y => Gr.keyStep x y.f0 (NormP y.f1)) x) = ones x + l.length
 | [], x, h => rfl
 | y :: ys, x, h => by
  rw [List.foldl_cons, ones_fold ys _ (fun z hz => h z (List.mem_cons_of_mem _ hz)), ones_step x y (h y (by simp)), List.length_cons]
  omega
theorem KeyP_ones {l : List Rd} (h : DnP l = true) : ones (KeyP l) = l.length := by
 unfold KeyP
 rw [ones_fold _ _ (fun y hy => (DnP_mem h).2 y (List.mem_reverse.1 hy)), List.length_reverse]
 show 0 + l.length = _
 omega
theorem KeyP_len {a b : List Rd} (ha : DnP a = true) (hb : DnP b = true) (h : (KeyP a).toList = (KeyP b).toList) : a.length = b.length := by
 rw [← KeyP_ones ha, ← KeyP_ones hb, ba_inj.1 h]
def sameP (a b : List Rd) : Bool := (KeyP a).toList == (KeyP b).toList
def underP (a b : List Rd) : Bool := decide (b.length ≤ a.length) && sameP (a.drop (a.length - b.length)) b
def UnderP (a b : List Rd) : Bool := DnP a && DnP b && underP a b
theorem DnP_drop {l : List Rd} (h : DnP l = true) (n : Nat) : DnP (l.drop n) = true := by
 obtain ⟨h1, h2⟩ := DnP_mem h
 unfold DnP
 rw [Bool.and_eq_true, decide_eq_true_eq, List.all_eq_true, List.length_drop]
 exact ⟨by omega, fun x hx => h2 x (List.mem_of_mem_drop hx)⟩
theorem impl_dnSame_f (a b : List Rd) (ha : DnP a = true) (hb : DnP b = true) (k : Nat) (hk : 100 ≤ k) : Gs.f k a b = some (sameP a b) := by
 unfold Gs.f sameP
 by_cases h : (a.length : Int) = (b.length : Int)
 ·rw [if_pos h, impl_dnKey_f a ha k hk, Option.bind_some, impl_dnKey_f b hb k hk]; rfl
 ·rw [if_neg h, beq_eq_false_iff_ne.2 (fun e => h (by rw [KeyP_len ha hb e]))]
theorem impl_dnUnder_f (a b : List Rd) (ha : DnP a = true) (hb : DnP b = true) (k : Nat) (hk : 100 ≤ k) : Gt.f k a b = some (underP a b) := by
 have h1 := (DnP_mem ha).1
 have h2 := (DnP_mem hb).1
 unfold Gt.f underP
 by_cases h : b.length ≤ a.length
 ·rw [if_pos (by omega), w64 (by omega) (by omega), if_pos (by omega), if_pos (by omega), show ((a.length : Int) - (b.length : Int)).toNat = a.length - b.length by omega, impl_dnSame_f _ b (DnP_drop ha _) hb k hk, decide_eq_true h]; rfl
 ·rw [if_neg (by omega), decide_eq_false h]; rfl
theorem spec_l02Key_l0 (l : List Rd) (hl : l.length ≤ 6) (hr : ∀ x ∈ l, RdnP x = true) : ∀ (d k : Nat) (x : ByteArray) (i : Int), i + 1 = d → d ≤ l.length → 100 + d < k → x.size + 1000 * d ≤ 100000 →
  Qy.l0 k l x i = some ((l.take d).reverse.foldl (fun x y => Gr.keyStep x y.f0 (NormP y.f1)) x)
 | 0, k, x, i, hi, hd, hk, hx => by
  obtain ⟨k, rfl⟩ : ∃ q, k = q + 1 := ⟨k - 1, by omega⟩
  rw [Qy.l0, if_neg (by omega)]; rfl
 | d + 1, k, x, i, hi, hd, hk, hx => by
  obtain ⟨k, rfl⟩ : ∃ q, k = q + 1 := ⟨k - 1, by omega⟩
  have hm := rd_mem l i (by omega) (by omega)
  obtain ⟨s0, s1⟩ := RdnP_size (hr _ hm)
  have s2 := NormP_size (rd_T96 l i).f1
  have z1 : (⟨#[1]⟩ : ByteArray).size = 1 := rfl
  have z2 : (⟨#[61]⟩ : ByteArray).size = 1 := rfl
  have e : l.take (d + 1) = l.take d ++ [rd_T96 l i] := by
   rw [List.take_add_one]
   congr 1
   unfold rd_T96
   rw [show i.toNat = d by omega, List.getD_eq_getElem?_getD, List.getElem?_eq_getElem (by omega)]; rfl
  have hz := Gr.keyStep_size x (rd_T96 l i).f0 (NormP (rd_T96 l i).f1)
  rw [Qy.l0, if_pos (by omega), if_pos (by omega), if_pos (by omega), if_pos (by omega), if_pos (by simp only [ba_append_size, z1]; omega), if_pos (by simp only [ba_append_size, z1]; omega), spec_Norm_f _ _ (by omega), Option.bind_some,
   if_pos (by simp only [ba_append_size, z1, z2]; omega), w64 (x := i - 1) (by omega) (by omega)]
  have e2 : (((x ++ (⟨#[1]⟩ : ByteArray)) ++ (rd_T96 l i).f0) ++ (⟨#[61]⟩ : ByteArray)) ++ NormP (rd_T96 l i).f1 = Gr.keyStep x (rd_T96 l i).f0 (NormP (rd_T96 l i).f1) := by
   unfold Gr.keyStep
   simp only [ba_append_assoc]
  rw [e2, spec_l02Key_l0 l hl hr d k _ (i - 1) (by omega) (by omega) (by omega) (by omega), e, List.reverse_append]
  rfl
theorem spec_l02Key_f (l : List Rd) (h : DnP l = true) (k : Nat) (hk : 110 ≤ k) : Qy.f k l = some (KeyP l) := by
 obtain ⟨hl, hr⟩ := DnP_mem h
 unfold Qy.f KeyP
 rw [w64 (by omega) (by omega), spec_l02Key_l0 l hl hr l.length k _ ((l.length : Int) - 1) (by omega) (by omega) (by omega) (by rw [show (⟨#[]⟩ : ByteArray).size = 0 from rfl]; omega), List.take_length]
theorem spec_DnUnder_f (a b : List Rd) (hA : a.length ≤ 4611686018427387904) (hB : b.length ≤ 4611686018427387904) (k : Nat) (hk : 600 + a.length + b.length ≤ k) : Qm.f k a b = some (UnderP a b) := by
 obtain ⟨k, rfl⟩ : ∃ q, k = q + 1 := ⟨k - 1, by omega⟩
 have hl : ∀ l : List Rd, (l.length : Int) > 400 → DnP l = false := fun l h => Bool.eq_false_iff.2 (fun e => by have := (DnP_mem e).1; omega)
 unfold Qm.f UnderP
 by_cases h1 : (a.length : Int) > 400
 ·rw [if_pos h1, hl a h1, Qm.j0, if_pos rfl]; simp
 ·rw [if_neg h1]
  by_cases h2 : (b.length : Int) > 400
  ·rw [if_pos h2, hl b h2, Qm.j0, if_pos rfl]; simp
  ·rw [if_neg h2, spec_DnRight_f _ (by omega) _ (by omega), Option.bind_some]
   by_cases ha : DnP a = true
   ·rw [if_pos ha, spec_DnRight_f _ (by omega) _ (by omega), Option.bind_some]
    by_cases hb : DnP b = true
    ·rw [if_pos hb, hb, ha, Qm.j0]
     unfold underP
     by_cases h3 : b.length ≤ a.length
     ·rw [decide_eq_false (by omega), if_neg (by simp), w64 (by omega) (by omega), if_pos (by omega), if_pos (by omega), show ((a.length : Int) - (b.length : Int)).toNat = a.length - b.length by omega,
       spec_l02Key_f _ (DnP_drop ha _) k (by omega), Option.bind_some, spec_l02Key_f b hb k (by omega), decide_eq_true h3]; rfl
     ·rw [decide_eq_true (by omega), if_pos rfl, decide_eq_false h3]; rfl
    ·rw [if_neg hb, Bool.eq_false_iff.2 hb, Qm.j0, if_pos rfl]; simp
   ·rw [if_neg ha, Bool.eq_false_iff.2 ha, Qm.j0, if_pos rfl]; simp
def nameF (l : List ByteArray) (j : Nat) : Bool := NameP (sAt l j) && (decide (j = 0) || Op.bytesLess (sAt l (j - 1)).toList (sAt l j).toList)
def NamesP (l : List ByteArray) : Bool := (List.range l.length).all (nameF l)
theorem spec_l04Names_f (l : List ByteArray) (hl : l.length ≤ 140737488351232) (k : Nat) (hk : 30 + l.length < k) : Vk.f k l = some (NamesP l) := by
 unfold Vk.f NamesP
 have := all_loop true (nameF l) l.length (by omega) 30 (fun k i => Vk.l0 k l i) (fun k i hk h0 hi => ?_) (fun k i hk h0 hi => ?_) l.length k 0 (by omega) (by omega) (by omega)
 ·rw [show (0 : Int).toNat = 0 from rfl, ← List.range_eq_range', Bool.and_true] at this
  exact this
 ·show Vk.l0 (k + 1) l i = if nameF l i.toNat = true then Vk.l0 k l (wrap64 (i + 1)) else some false
  rw [Vk.l0, if_pos hi, if_pos h0, rdOf_sAt, spec_NameRight_f _ _ hk, Option.bind_some]
  unfold nameF
  cases hn : NameP (sAt l i.toNat) with
  | false => simp
  | true =>
   rw [if_pos rfl, Bool.true_and]
   by_cases hz : i > 0
   ·rw [if_pos hz, w64 (x := i - 1) (by omega) (by omega), if_pos (by omega), if_pos (by omega), rdOf_sAt, show (i - 1).toNat = i.toNat - 1 by omega, decide_eq_false (by omega), Bool.false_or]
   ·rw [if_neg hz, decide_eq_true (by omega), Bool.true_or, if_pos rfl]
 ·show Vk.l0 (k + 1) l i = some true
  rw [Vk.l0, if_neg (by omega)]
theorem impl_areNames_f (l : List ByteArray) (hl : l.length ≤ 140737488351232) (k : Nat) (hk : l.length < k) : Gn.f k l = some (NamesP l) := by
 unfold Gn.f NamesP
 have := all_loop true (nameF l) l.length (by omega) 0 (fun k i => Gn.l0 k l l (l.length : Int) i) (fun k i hk h0 hi => ?_) (fun k i hk h0 hi => ?_) l.length k 0 (by omega) (by omega) (by omega)
 ·rw [show (0 : Int).toNat = 0 from rfl, ← List.range_eq_range', Bool.and_true] at this
  exact this
 ·show Gn.l0 (k + 1) l l (l.length : Int) i = if nameF l i.toNat = true then Gn.l0 k l l (l.length : Int) (wrap64 (i + 1)) else some false
  rw [Gn.l0, if_pos hi, if_pos h0, if_pos hi, rdOf_sAt, impl_NameRight_f, Option.bind_some]
  unfold nameF
  cases hn : NameP (sAt l i.toNat) with
  | false => simp
  | true =>
   rw [if_pos rfl, Bool.true_and]
   by_cases hz : i > 0
   ·rw [if_pos hz, w64 (x := i - 1) (by omega) (by omega), if_pos (by omega), if_pos (by omega), rdOf_sAt, show (i - 1).toNat = i.toNat - 1 by omega, decide_eq_false (by omega), Bool.false_or]
   ·rw [if_neg hz, decide_eq_true (by omega), Bool.true_or, if_pos rfl]
 ·show Gn.l0 (k + 1) l l (l.length : Int) i = some true
  rw [Gn.l0, if_neg (by omega)]
abbrev Ru := S57
def RuOK (l : List Ru) : Prop := l.length ≤ 1759218604390 ∧ ∀ x ∈ l, x.f1.length ≤ 4398046511104 ∧ x.f2.length ≤ 8796093022208
theorem ru_mem (l : List Ru) (i : Int) (h0 : 0 ≤ i) (hi : i < l.length) : rd_T57 l i ∈ l := by
 have hi2 : i.toNat < l.length := by omega
 unfold rd_T57
 rw [List.getD_eq_getElem?_getD, List.getElem?_eq_getElem hi2]
 exact List.getElem_mem hi2
def RuleP (r : Ru) : Bool := (decide (r.f0.toList = ([42] : List UInt8)) || NameP r.f0) && (DnP r.f1 && (decide (r.f2.length ≤ 8) && (NamesP r.f2 && (decide (r.f3 ≥ 1) && decide (r.f3 ≤ 4)))))
def AclP (l : List Ru) : Bool := l.all RuleP && decide (l.length ≤ 10)
theorem spec_l06Rule_f (r : Ru) (h1 : r.f1.length ≤ 4398046511104) (k : Nat) (hk : 4398046511300 ≤ k) : Vn.f k r.f0 r.f1 r.f2 r.f3 r.f4 = some (RuleP r) := by
 unfold Vn.f RuleP Qx.f
 have tail : ((Qk.f k r.f1).bind fun t142 => (if t142 = true then (if (r.f2.length : Int) ≤ 8 then ((Vk.f k r.f2).bind fun t143 => (if t143 = true then ((if r.f3 ≥ 1 then (some (decide (r.f3 ≤ 4))) else (some false)).bind fun t144 => (some t144)) else (some false))) else (some false)) else (some false))) = some (DnP r.f1 && (decide (r.f2.length ≤ 8) && (NamesP r.f2 && (decide (r.f3 ≥ 1) && decide (r.f3 ≤ 4))))) := by
  rw [spec_DnRight_f _ (by omega) _ (by omega), Option.bind_some]
  cases DnP r.f1 with
  | false => rw [if_neg (by simp)]; rfl
  | true =>
   rw [if_pos rfl, Bool.true_and]
   by_cases h2 : (r.f2.length : Int) ≤ 8
   ·rw [if_pos h2, decide_eq_true (p := r.f2.length ≤ 8) (by omega), spec_l04Names_f _ (by omega) _ (by omega), Option.bind_some, Bool.true_and]
    cases NamesP r.f2 with
    | false => rw [if_neg (by simp)]; rfl
    | true =>
     rw [if_pos rfl, Bool.true_and]
     by_cases h3 : r.f3 ≥ 1
     ·rw [if_pos h3, decide_eq_true h3]; rfl
     ·rw [if_neg h3, decide_eq_false h3]; rfl
   ·rw [if_neg h2, decide_eq_false (p := r.f2.length ≤ 8) (by omega), Bool.false_and]
 by_cases h : r.f0.toList = ([42] : List UInt8)
 ·rw [if_pos h, decide_eq_true h, Bool.true_or, Bool.true_and]
  exact tail
 ·rw [if_neg h, decide_eq_false h, Bool.false_or, spec_NameRight_f _ _ (by omega), Option.bind_some]
  cases NameP r.f0 with
  | false => rw [if_neg (by simp)]; rfl
  | true => rw [if_pos rfl, Bool.true_and]; exact tail
theorem impl_isRule_f (r : Ru) (k : Nat) (hk : 100 ≤ k) : Qb.f k r.f0 r.f1 r.f2 r.f3 r.f4 = some (RuleP r) := by
 unfold Qb.f RuleP Qa.f Gp.f
 have tail : ((Gd.f k r.f1).bind fun t222 => (if t222 = true then (if (r.f2.length : Int) ≤ 8 then ((Gn.f k r.f2).bind fun t223 => (if t223 = true then (((if r.f3 ≥ 1 then (some (decide (r.f3 ≤ 4))) else (some false)).bind fun t217 => (some t217)).bind fun t224 => (some t224)) else (some false))) else (some false)) else (some false))) = some (DnP r.f1 && (decide (r.f2.length ≤ 8) && (NamesP r.f2 && (decide (r.f3 ≥ 1) && decide (r.f3 ≤ 4))))) := by
  rw [impl_DnRight_f _ _ hk, Option.bind_some]
  cases DnP r.f1 with
  | false => rw [if_neg (by simp)]; rfl
  | true =>
   rw [if_pos rfl, Bool.true_and]
   by_cases h2 : (r.f2.length : Int) ≤ 8
   ·rw [if_pos h2, decide_eq_true (p := r.f2.length ≤ 8) (by omega), impl_areNames_f _ (by omega) _ (by omega), Option.bind_some, Bool.true_and]
    cases NamesP r.f2 with
    | false => rw [if_neg (by simp)]; rfl
    | true =>
     rw [if_pos rfl, Bool.true_and]
     by_cases h3 : r.f3 ≥ 1
     ·rw [if_pos h3, decide_eq_true h3]; rfl
     ·rw [if_neg h3, decide_eq_false h3]; rfl
   ·rw [if_neg h2, decide_eq_false (p := r.f2.length ≤ 8) (by omega), Bool.false_and]
 by_cases h : r.f0.toList = ([42] : List UInt8)
 ·rw [if_pos h, decide_eq_true h, Bool.true_or, Bool.true_and]
  exact tail
 ·rw [if_neg h, decide_eq_false h, Bool.false_or, impl_NameRight_f, Option.bind_some]
  cases NameP r.f0 with
  | false => rw [if_neg (by simp)]; rfl
  | true => rw [if_pos rfl, Bool.true_and]; exact tail
theorem rules_all (l : List Ru) : (List.range l.length).all (fun j => RuleP (l.getD j z57)) = l.all RuleP := by
 have := range_map_getD l z57 RuleP
 rw [show (List.range l.length).all (fun j => RuleP (l.getD j z57)) = ((List.range l.length).map (fun j => RuleP (l.getD j z57))).all id by rw [List.all_map]; rfl, this, List.all_map]
 rfl
theorem spec_AclRight_f (l : List Ru) (h : RuOK l) (k : Nat) (hk : 17592186044416 + l.length < k) : Qh.f k l = some (AclP l) := by
 have hl := h.1
 unfold Qh.f AclP
 have := all_loop (decide (l.length ≤ 10)) (fun j => RuleP (l.getD j z57)) l.length (by omega) 17592186044416 (fun k i => Qh.l0 k l i) (fun k i hk h0 hi => ?_) (fun k i hk h0 hi => ?_) l.length k 0 (by omega) (by omega) (by omega)
 ·rw [show (0 : Int).toNat = 0 from rfl, ← List.range_eq_range', rules_all] at this
  exact this
 ·show Qh.l0 (k + 1) l i = if RuleP (l.getD i.toNat z57) = true then Qh.l0 k l (wrap64 (i + 1)) else some false
  rw [Qh.l0, if_pos hi, if_pos h0, spec_l06Rule_f _ (h.2 _ (ru_mem l i h0 hi)).1 k (by omega), Option.bind_some]
  rfl
 ·show Qh.l0 (k + 1) l i = some (decide (l.length ≤ 10))
  rw [Qh.l0, if_neg (by omega)]
  congr 1
  rw [Bool.eq_iff_iff, decide_eq_true_eq, decide_eq_true_eq]
  omega
theorem impl_AclRight_ix (k : Nat) (hk : 100 ≤ k) : ∀ (l : List Ru) (i : Int), 0 ≤ i → ∃ r, Ga.ix k l i = some r ∧ (!(decide (r ≥ 0))) = l.all RuleP
 | [], i, h0 => ⟨-1, rfl, rfl⟩
 | x :: xs, i, h0 => by
  rw [Ga.ix]
  unfold Gb.f
  rw [impl_isRule_f x k hk, Option.bind_some, Option.bind_some, List.all_cons]
  cases hx : RuleP x with
  | true =>
   rw [Bool.not_true, if_neg (by simp), Bool.true_and]
   exact impl_AclRight_ix k hk xs (i + 1) (by omega)
  | false =>
   rw [Bool.not_false, if_pos rfl]
   exact ⟨i, rfl, by rw [decide_eq_true h0]; rfl⟩
theorem impl_AclRight_f (l : List Ru) (k : Nat) (hk : 100 ≤ k) : Ga.f k l = some (AclP l) := by
 unfold Ga.f AclP
 by_cases h : (l.length : Int) ≤ 10
 ·obtain ⟨r, e, h2⟩ := impl_AclRight_ix k hk l 0 (by omega)
  rw [if_pos h, e, Option.bind_some, h2, decide_eq_true (p := l.length ≤ 10) (by omega), Bool.and_true]
 ·rw [if_neg h, decide_eq_false (p := l.length ≤ 10) (by omega), Bool.and_false]
theorem impl_isLong_l0 (l : List ByteArray) (hl : l.length ≤ 4611686018427387904) : ∀ (d k : Nat) (i : Int), 0 ≤ i → i + d = l.length → d < k →
  Gv.l0 k l (l.length : Int) i = some ((l.drop i.toNat).any fun t => decide (t.size > 8000))
 | 0, k, i, h0, hd, hk => by
  obtain ⟨k, rfl⟩ : ∃ m, k = m + 1 := ⟨k - 1, by omega⟩
  simp only [Gv.l0]
  rw [if_neg (by omega), List.drop_of_length_le (by omega)]; rfl
 | d + 1, k, i, h0, hd, hk => by
  obtain ⟨k, rfl⟩ : ∃ m, k = m + 1 := ⟨k - 1, by omega⟩
  have hlt : i.toNat < l.length := by omega
  simp only [Gv.l0]
  rw [if_pos (by omega), if_pos h0, if_pos (by omega), List.drop_eq_getElem_cons hlt, List.any_cons]
  have e : rdOf ByteArray.empty l i = l[i.toNat] := by unfold rdOf; rw [List.getD_eq_getElem?_getD, List.getElem?_eq_getElem hlt]; rfl
  rw [e]
  by_cases h : (l[i.toNat].size : Int) > 8000
  ·rw [if_pos h, decide_eq_true (by omega)]; rfl
  ·rw [if_neg h, decide_eq_false (by omega), w64 (by omega) (by omega), impl_isLong_l0 l hl d k (i + 1) (by omega) (by omega) (by omega), show (i + 1).toNat = i.toNat + 1 by omega]; rfl
theorem impl_isLong_f (l : List ByteArray) (hl : l.length ≤ 4611686018427387904) (k : Nat) (hk : l.length < k) : Gv.f k l = some (l.any fun t => decide (t.size > 8000)) := by
 unfold Gv.f
 rw [impl_isLong_l0 l hl l.length k 0 (by omega) (by omega) hk]; rfl
def hasP (l : List ByteArray) (t : ByteArray) : Bool := l.any fun y => decide (y.toList = t.toList)
theorem spec_l04Has_l0 (l : List ByteArray) (t : ByteArray) (hl : l.length ≤ 4611686018427387904) : ∀ (d k : Nat) (i : Int), 0 ≤ i → i + d = l.length → d < k → Vj.l0 k l t i = some (hasP (l.drop i.toNat) t)
 | 0, k, i, h0, hi, hk => by
  obtain ⟨k, rfl⟩ : ∃ q, k = q + 1 := ⟨k - 1, by omega⟩
  rw [Vj.l0, if_neg (by omega), List.drop_of_length_le (by omega)]; rfl
 | d + 1, k, i, h0, hi, hk => by
  obtain ⟨k, rfl⟩ : ∃ q, k = q + 1 := ⟨k - 1, by omega⟩
  rw [Vj.l0, if_pos (by omega), if_pos h0, rdOf_sAt, sAt_drop l i h0 (by omega)]
  unfold hasP
  rw [List.any_cons]
  by_cases h : (sAt l i.toNat).toList = t.toList
  ·rw [if_pos h, decide_eq_true h, Bool.true_or]
  ·rw [if_neg h, decide_eq_false h, Bool.false_or, w64 (x := i + 1) (by omega) (by omega), spec_l04Has_l0 l t hl d k (i + 1) (by omega) (by omega) (by omega)]
   rfl
theorem spec_l04Has_f (l : List ByteArray) (t : ByteArray) (hl : l.length ≤ 4611686018427387904) (k : Nat) (hk : l.length < k) : Vj.f k l t = some (hasP l t) := by
 unfold Vj.f
 rw [spec_l04Has_l0 l t hl l.length k 0 (by omega) (by omega) hk]
 rfl
theorem slices_Index_l0 (l : List ByteArray) (t : ByteArray) (hl : l.length ≤ 4611686018427387904) : ∀ (d k : Nat) (i : Int), 0 ≤ i → i + d = l.length → d < k → ∃ r, Qg.l0 k l t (l.length : Int) i = some r ∧ decide (r ≥ 0) = hasP (l.drop i.toNat) t
 | 0, k, i, h0, hi, hk => by
  obtain ⟨k, rfl⟩ : ∃ q, k = q + 1 := ⟨k - 1, by omega⟩
  rw [Qg.l0, if_neg (by omega), List.drop_of_length_le (by omega)]
  exact ⟨-1, rfl, rfl⟩
 | d + 1, k, i, h0, hi, hk => by
  obtain ⟨k, rfl⟩ : ∃ q, k = q + 1 := ⟨k - 1, by omega⟩
  rw [Qg.l0, if_pos (by omega), if_pos h0, if_pos (by omega), rdOf_sAt, sAt_drop l i h0 (by omega)]
  unfold hasP
  rw [List.any_cons]
  by_cases h : t.toList = (sAt l i.toNat).toList
  ·rw [if_pos h, decide_eq_true h.symm, Bool.true_or]
   exact ⟨i, rfl, decide_eq_true h0⟩
  ·rw [if_neg h, decide_eq_false (fun e => h e.symm), Bool.false_or, w64 (x := i + 1) (by omega) (by omega)]
   exact slices_Index_l0 l t hl d k (i + 1) (by omega) (by omega) (by omega)
theorem slices_Contains_f (l : List ByteArray) (t : ByteArray) (hl : l.length ≤ 4611686018427387904) (k : Nat) (hk : l.length < k) : Qf.f k l t = some (hasP l t) := by
 unfold Qf.f Qg.f
 obtain ⟨r, e, h⟩ := slices_Index_l0 l t hl l.length k 0 (by omega) (by omega) hk
 rw [e, Option.bind_some, h]
 rfl
def applies (who : ByteArray) (dn : List Rd) (attr : ByteArray) (right : Int) (r : Ru) : Bool :=
 (decide (r.f0.toList = ([42] : List UInt8)) || decide (r.f0.toList = who.toList)) && (decide (r.f3 = right) && (underP dn r.f1 && (decide (r.f2.length = 0) || hasP r.f2 attr)))
def allowedP (l : List Ru) (who : ByteArray) (dn : List Rd) (attr : ByteArray) (right : Int) : Bool := match l.find? (applies who dn attr right) with | some r => r.f4 | none => false
theorem RuleP_parts {r : Ru} (h : RuleP r = true) : DnP r.f1 = true ∧ r.f2.length ≤ 8 := by
 unfold RuleP at h
 simp only [Bool.and_eq_true, decide_eq_true_eq] at h
 exact ⟨h.2.1, h.2.2.1⟩
theorem AclP_mem {l : List Ru} (h : AclP l = true) : l.length ≤ 10 ∧ ∀ r ∈ l, RuleP r = true := by
 unfold AclP at h
 simp only [Bool.and_eq_true, decide_eq_true_eq, List.all_eq_true] at h
 exact ⟨h.2, h.1⟩
theorem ru_drop (l : List Ru) (i : Int) (h0 : 0 ≤ i) (h1 : i < l.length) : l.drop i.toNat = rd_T57 l i :: l.drop (i + 1).toNat := by
 have hi : i.toNat < l.length := by omega
 rw [List.drop_eq_getElem_cons hi, show (i + 1).toNat = i.toNat + 1 by omega]
 unfold rd_T57
 rw [List.getD_eq_getElem?_getD, List.getElem?_eq_getElem hi]; rfl
theorem spec_l06Allowed_l0 (l : List Ru) (who : ByteArray) (dn : List Rd) (attr : ByteArray) (right : Int) (hl : l.length ≤ 10) (hr : ∀ r ∈ l, RuleP r = true) (hd : DnP dn = true) : ∀ (d k : Nat) (i : Int), 0 ≤ i → i + d = l.length → 1000 + d < k →
  Vm.l0 k l who dn attr right i = some (allowedP (l.drop i.toNat) who dn attr right)
 | 0, k, i, h0, hi, hk => by
  obtain ⟨k, rfl⟩ : ∃ q, k = q + 1 := ⟨k - 1, by omega⟩
  rw [Vm.l0, if_neg (by omega), List.drop_of_length_le (by omega)]; rfl
 | d + 1, k, i, h0, hi, hk => by
  obtain ⟨k, rfl⟩ : ∃ q, k = q + 1 := ⟨k - 1, by omega⟩
  have ih := spec_l06Allowed_l0 l who dn attr right hl hr hd d k (i + 1) (by omega) (by omega) (by omega)
  obtain ⟨hb, h8⟩ := RuleP_parts (hr _ (ru_mem l i h0 (by omega)))
  have hdl := (DnP_mem hd).1
  have hbl := (DnP_mem hb).1
  rw [Vm.l0, if_pos (by omega), if_pos h0, w64 (x := i + 1) (by omega) (by omega), ih, ru_drop l i h0 (by omega)]
  generalize rd_T57 l i = r at hb h8 hbl ⊢
  have hu : UnderP dn r.f1 = underP dn r.f1 := by unfold UnderP; rw [hd, hb]; rfl
  have tail : (if r.f3 = right then ((Qm.f k dn r.f1).bind fun t217 => (if t217 = true then (if (r.f2.length : Int) = 0 then (some r.f4) else ((Vj.f k r.f2 attr).bind fun t218 => (if t218 = true then (some r.f4) else some (allowedP (l.drop (i + 1).toNat) who dn attr right)))) else some (allowedP (l.drop (i + 1).toNat) who dn attr right))) else some (allowedP (l.drop (i + 1).toNat) who dn attr right)) =
    some (if (decide (r.f3 = right) && (underP dn r.f1 && (decide (r.f2.length = 0) || hasP r.f2 attr))) = true then r.f4 else allowedP (l.drop (i + 1).toNat) who dn attr right) := by
   by_cases h3 : r.f3 = right
   ·rw [if_pos h3, decide_eq_true h3, Bool.true_and, spec_DnUnder_f _ _ (by omega) (by omega) _ (by omega), hu, Option.bind_some]
    cases underP dn r.f1 with
    | false => rw [if_neg (by simp), Bool.false_and, if_neg (by simp)]
    | true =>
     rw [if_pos rfl, Bool.true_and]
     by_cases h2 : r.f2.length = 0
     ·rw [if_pos (by omega), decide_eq_true h2, Bool.true_or, if_pos rfl]
     ·rw [if_neg (by omega), decide_eq_false h2, Bool.false_or, spec_l04Has_f _ _ (by omega) _ (by omega), Option.bind_some]
      cases hasP r.f2 attr <;> rfl
   ·rw [if_neg h3, decide_eq_false h3, Bool.false_and, if_neg (by simp)]
  rw [tail]
  unfold allowedP
  rw [List.find?_cons]
  unfold applies
  by_cases h1 : r.f0.toList = ([42] : List UInt8)
  ·rw [if_pos h1, decide_eq_true h1, Bool.true_or, Bool.true_and]
   cases (decide (r.f3 = right) && (underP dn r.f1 && (decide (r.f2.length = 0) || hasP r.f2 attr))) <;> rfl
  ·rw [if_neg h1, decide_eq_false h1, Bool.false_or]
   by_cases h2 : r.f0.toList = who.toList
   ·rw [if_pos h2, decide_eq_true h2, Bool.true_and]
    cases (decide (r.f3 = right) && (underP dn r.f1 && (decide (r.f2.length = 0) || hasP r.f2 attr))) <;> rfl
   ·rw [if_neg h2, decide_eq_false h2, Bool.false_and]
theorem spec_l06Allowed_f (l : List Ru) (who : ByteArray) (dn : List Rd) (attr : ByteArray) (right : Int) (h : AclP l = true) (hd : DnP dn = true) (k : Nat) (hk : 1100 ≤ k) : Vm.f k l who dn attr right = some (allowedP l who dn attr right) := by
 obtain ⟨h1, h2⟩ := AclP_mem h
 unfold Vm.f
 rw [spec_l06Allowed_l0 l who dn attr right h1 h2 hd l.length k 0 (by omega) (by omega) (by omega)]
 rfl
theorem impl_allowed_clo (who : ByteArray) (dn : List Rd) (attr : ByteArray) (right : Int) (hd : DnP dn = true) (r : Ru) (hr : RuleP r = true) (k : Nat) (hk : 100 ≤ k) : Gm.clo k who attr right dn r.f0 r.f1 r.f2 r.f3 = some (applies who dn attr right r) := by
 obtain ⟨hb, h8⟩ := RuleP_parts hr
 have tail : Gm.clo2 k attr right dn r.f1 r.f2 r.f3 = some (decide (r.f3 = right) && (underP dn r.f1 && (decide (r.f2.length = 0) || hasP r.f2 attr))) := by
  unfold Gm.clo2
  rw [impl_dnUnder_f _ _ hd hb _ hk, Option.bind_some]
  cases underP dn r.f1 with
  | false => rw [if_neg (by simp), Bool.false_and, Bool.and_false]
  | true =>
   rw [if_pos rfl, Bool.true_and]
   by_cases h3 : r.f3 = right
   ·rw [if_pos h3, decide_eq_true h3, Bool.true_and]
    by_cases h2 : r.f2.length = 0
    ·rw [if_pos (by omega), decide_eq_true h2, Bool.true_or]
    ·rw [if_neg (by omega), decide_eq_false h2, Bool.false_or, slices_Contains_f _ _ (by omega) _ (by omega)]
   ·rw [if_neg h3, decide_eq_false h3, Bool.false_and]
 unfold Gm.clo applies
 rw [tail]
 by_cases h1 : r.f0.toList = ([42] : List UInt8)
 ·rw [if_pos h1, decide_eq_true h1, Bool.true_or, Bool.true_and]
 ·rw [if_neg h1, decide_eq_false h1, Bool.false_or]
  by_cases h2 : r.f0.toList = who.toList
  ·rw [if_pos h2, decide_eq_true h2, Bool.true_and]
  ·rw [if_neg h2, decide_eq_false h2, Bool.false_and]
theorem impl_allowed_ix (who : ByteArray) (dn : List Rd) (attr : ByteArray) (right : Int) (hd : DnP dn = true) (k : Nat) (hk : 100 ≤ k) : ∀ (l : List Ru) (i : Int), (∀ r ∈ l, RuleP r = true) → 0 ≤ i →
  ∃ r, Gm.ix k who attr right dn l i = some r ∧ ((l.find? (applies who dn attr right) = none ∧ r = -1) ∨ ∃ j : Nat, j < l.length ∧ r = i + (j : Int) ∧ l.find? (applies who dn attr right) = l[j]?)
 | [], i, hr, h0 => ⟨-1, rfl, .inl ⟨rfl, rfl⟩⟩
 | x :: xs, i, hr, h0 => by
  rw [Gm.ix, impl_allowed_clo who dn attr right hd x (hr x (by simp)) k hk, Option.bind_some, List.find?_cons]
  cases applies who dn attr right x with
  | true =>
   rw [if_pos rfl]
   exact ⟨i, rfl, .inr ⟨0, by simp, by omega, rfl⟩⟩
  | false =>
   rw [if_neg (by simp)]
   obtain ⟨r, e, h⟩ := impl_allowed_ix who dn attr right hd k hk xs (i + 1) (fun y hy => hr y (List.mem_cons_of_mem _ hy)) (by omega)
   refine ⟨r, e, ?_⟩
   rcases h with h | ⟨j, h1, h2, h3⟩
   ·exact .inl h
   ·exact .inr ⟨j + 1, by simp; omega, by omega, by simpa using h3⟩
theorem impl_allowed_f (l : List Ru) (who : ByteArray) (dn : List Rd) (attr : ByteArray) (right : Int) (h : AclP l = true) (hd : DnP dn = true) (k : Nat) (hk : 100 ≤ k) : Gm.f k l who dn attr right = some (allowedP l who dn attr right) := by
 unfold Gm.f allowedP
 obtain ⟨r, e, h1⟩ := impl_allowed_ix who dn attr right hd k hk l 0 (AclP_mem h).2 (by omega)
 rw [e, Option.bind_some]
 rcases h1 with ⟨h2, h3⟩ | ⟨j, h2, h3, h4⟩
 ·rw [h2, if_neg (by omega)]
 ·rw [h4, if_pos (by omega), List.getElem?_eq_getElem h2]
  unfold rd_T57
  rw [h3, show (0 + (j : Int)).toNat = j by omega, List.getD_eq_getElem?_getD, List.getElem?_eq_getElem h2]
  rfl
def AllowedP (l : List Ru) (who : ByteArray) (dn : List Rd) (attr : ByteArray) (right : Int) : Bool :=
 (decide (who.size ≤ 8000) && decide (attr.size ≤ 8000)) && (AclP l && (NameP who && (decide (0 < dn.length) && (DnP dn && ((decide (attr.toList = ([] : List UInt8)) || NameP attr) && ((decide (right ≥ 1) && decide (right ≤ 4)) && allowedP l who dn attr right))))))
theorem spec_Allowed_f (l : List Ru) (who : ByteArray) (dn : List Rd) (attr : ByteArray) (right : Int) (h : RuOK l) (hd : dn.length ≤ 4611686018427387904) (k : Nat) (hk : 17592186045000 + l.length + dn.length < k) : Qj.f k l who dn attr right = some (AllowedP l who dn attr right) := by
 obtain ⟨k, rfl⟩ : ∃ q, k = q + 1 := ⟨k - 1, by omega⟩
 have hl := h.1
 have no : ∀ b, AllowedP l who dn attr right = false → Qj.j0 (k + 1) l who dn attr right true = b → b = some (AllowedP l who dn attr right) := by
  intro b e1 e2
  rw [e1, ← e2, Qj.j0, if_pos rfl]
 unfold Qj.f
 by_cases c1 : (l.length : Int) > 400
 ·rw [if_pos c1]
  refine no _ ?_ rfl
  unfold AllowedP AclP
  rw [decide_eq_false (p := l.length ≤ 10) (by omega), Bool.and_false, Bool.false_and, Bool.and_false]
 ·rw [if_neg c1]
  by_cases c2 : (dn.length : Int) > 400
  ·rw [if_pos c2]
   refine no _ ?_ rfl
   unfold AllowedP DnP
   rw [decide_eq_false (p := dn.length ≤ 6) (by omega), Bool.false_and, Bool.false_and, Bool.and_false, Bool.and_false, Bool.and_false, Bool.and_false]
  ·rw [if_neg c2]
   by_cases c3 : (who.size : Int) > 8000
   ·rw [if_pos c3]
    refine no _ ?_ rfl
    unfold AllowedP
    rw [decide_eq_false (p := who.size ≤ 8000) (by omega), Bool.false_and, Bool.false_and]
   ·rw [if_neg c3]
    by_cases c4 : (attr.size : Int) > 8000
    ·rw [decide_eq_true c4]
     refine no _ ?_ rfl
     unfold AllowedP
     rw [decide_eq_false (p := attr.size ≤ 8000) (by omega), Bool.and_false, Bool.false_and]
    ·unfold AllowedP
     rw [decide_eq_false c4, Qj.j0, if_neg (by simp), decide_eq_true (p := who.size ≤ 8000) (by omega), decide_eq_true (p := attr.size ≤ 8000) (by omega), Bool.true_and, Bool.true_and, spec_AclRight_f l h k (by omega), Option.bind_some]
     cases hA : AclP l with
     | false => rw [if_neg (by simp), Bool.false_and]
     | true =>
      rw [if_pos rfl, Bool.true_and, spec_NameRight_f _ _ (by omega), Option.bind_some]
      cases NameP who with
      | false => rw [if_neg (by simp), Bool.false_and]
      | true =>
       rw [if_pos rfl, Bool.true_and]
       by_cases c5 : (dn.length : Int) = 0
       ·rw [if_pos c5, decide_eq_false (by omega), Bool.false_and]
       ·rw [if_neg c5, decide_eq_true (by omega), Bool.true_and, spec_DnRight_f _ (by omega) _ (by omega), Option.bind_some]
        cases hD : DnP dn with
        | false => rw [if_neg (by simp), Bool.false_and]
        | true =>
         rw [if_pos rfl, Bool.true_and]
         have tail : ((Qx.f right 1 4).bind fun t224 => (if t224 = true then ((Vm.f k l who dn attr right).bind fun t225 => (some t225)) else (some false))) = some ((decide (right ≥ 1) && decide (right ≤ 4)) && allowedP l who dn attr right) := by
          unfold Qx.f
          by_cases c6 : right ≥ 1
          ·rw [if_pos c6, decide_eq_true c6, Option.bind_some, Bool.true_and]
           cases decide (right ≤ 4) with
           | false => rw [if_neg (by simp), Bool.false_and]
           | true => rw [if_pos rfl, spec_l06Allowed_f _ _ _ _ _ hA hD _ (by omega)]; rfl
          ·rw [if_neg c6, decide_eq_false c6]; rfl
         by_cases c7 : attr.toList = ([] : List UInt8)
         ·rw [if_pos c7, decide_eq_true c7, Bool.true_or, Bool.true_and]; exact tail
         ·rw [if_neg c7, decide_eq_false c7, Bool.false_or, spec_NameRight_f _ _ (by omega), Option.bind_some]
          cases NameP attr with
          | false => rw [if_neg (by simp), Bool.false_and]
          | true => rw [if_pos rfl, Bool.true_and]; exact tail
theorem impl_Allowed_f (l : List Ru) (who : ByteArray) (dn : List Rd) (attr : ByteArray) (right : Int) (k : Nat) (hk : 1000 < k) : Gc.f k l who dn attr right = some (AllowedP l who dn attr right) := by
 unfold Gc.f AllowedP
 rw [impl_isLong_f _ (by simp) k (by simp; omega), Option.bind_some]
 by_cases c3 : who.size ≤ 8000
 ·by_cases c4 : attr.size ≤ 8000
  ·rw [if_neg (by simp; omega), decide_eq_true c3, decide_eq_true c4, Bool.true_and, Bool.true_and, impl_AclRight_f l k (by omega), Option.bind_some]
   cases hA : AclP l with
   | false => rw [if_neg (by simp), Bool.false_and]
   | true =>
    rw [if_pos rfl, Bool.true_and, impl_NameRight_f, Option.bind_some]
    cases NameP who with
    | false => rw [if_neg (by simp), Bool.false_and]
    | true =>
     rw [if_pos rfl, Bool.true_and]
     by_cases c5 : (dn.length : Int) = 0
     ·rw [if_pos c5, decide_eq_false (by omega), Bool.false_and]
     ·rw [if_neg c5, decide_eq_true (by omega), Bool.true_and, impl_DnRight_f _ _ (by omega), Option.bind_some]
      cases hD : DnP dn with
      | false => rw [if_neg (by simp), Bool.false_and]
      | true =>
       rw [if_pos rfl, Bool.true_and]
       have tail : ((Qa.f right).bind fun t224 => (if t224 = true then ((Gm.f k l who dn attr right).bind fun t225 => (some t225)) else (some false))) = some ((decide (right ≥ 1) && decide (right ≤ 4)) && allowedP l who dn attr right) := by
        unfold Qa.f Gp.f
        by_cases c6 : right ≥ 1
        ·rw [if_pos c6, decide_eq_true c6, Option.bind_some, Option.bind_some, Bool.true_and]
         cases decide (right ≤ 4) with
         | false => rw [if_neg (by simp), Bool.false_and]
         | true => rw [if_pos rfl, impl_allowed_f _ _ _ _ _ hA hD _ (by omega)]; rfl
        ·rw [if_neg c6, decide_eq_false c6]; rfl
       by_cases c7 : attr.toList = ([] : List UInt8)
       ·rw [if_pos c7, decide_eq_true c7, Bool.true_or, Bool.true_and]; exact tail
       ·rw [if_neg c7, decide_eq_false c7, Bool.false_or, impl_NameRight_f, Option.bind_some]
        cases NameP attr with
        | false => rw [if_neg (by simp), Bool.false_and]
        | true => rw [if_pos rfl, Bool.true_and]; exact tail
  ·rw [if_pos (by simp; omega), decide_eq_false c4, Bool.and_false, Bool.false_and]
 ·rw [if_pos (by simp; omega), decide_eq_false c3, Bool.false_and, Bool.false_and]
abbrev At := S117
theorem cmp_iff : ∀ (a b : List UInt8), Lib.compareBytes a b ≥ 0 ↔ Op.bytesLess a b = false
 | [], [] => by simp [Lib.compareBytes, Op.bytesLess]
 | [], _ :: _ => by simp [Lib.compareBytes, Op.bytesLess]
 | _ :: _, [] => by simp [Lib.compareBytes, Op.bytesLess]
 | a :: p, b :: q => by
  rw [Lib.compareBytes, Op.bytesLess]
  by_cases h1 : a < b
  ·simp [h1]
  ·by_cases h2 : b < a
   ·have hne : ¬ (a = b) := fun e => by subst e; exact h1 h2
    simp [h1, h2, hne]
   ·have he : a = b := UInt8.le_antisymm (UInt8.not_lt.1 h2) (UInt8.not_lt.1 h1)
    subst he
    rw [if_neg h1, if_neg h1, cmp_iff p q]
    simp
theorem cmp_less (a b : List UInt8) : decide (Lib.compareBytes a b ≥ 0) = !(Op.bytesLess a b) := by
 cases h : Op.bytesLess a b with
 | false => rw [decide_eq_true ((cmp_iff a b).2 h)]; rfl
 | true => rw [decide_eq_false (fun h2 => by rw [(cmp_iff a b).1 h2] at h; cases h)]; rfl
def valF (l : List ByteArray) (j : Nat) : Bool := ValueP (sAt l j) && (decide (j = 0) || Op.bytesLess (NormP (sAt l (j - 1))).toList (NormP (sAt l j)).toList)
def ValsP (l : List ByteArray) : Bool := (List.range l.length).all (valF l) && (decide (1 ≤ l.length) && decide (l.length ≤ 4))
theorem spec_l03Values_f (l : List ByteArray) (hl : l.length ≤ 140737488351232) (hs : ∀ x ∈ l, x.size ≤ 140737488351232) (k : Nat) (hk : 1125899906842624 + l.length < k) : Vh.f k l = some (ValsP l) := by
 unfold Vh.f ValsP
 rw [all_loop (decide (1 ≤ l.length) && decide (l.length ≤ 4)) (valF l) l.length (by omega) 1125899906842624 (fun k i => Vh.l0 k l i) (fun k i hk h0 hi => ?_) (fun k i hk h0 hi => ?_) l.length k 0 (by omega) (by omega) (by omega)]
 ·rw [List.range_eq_range']; rfl
 ·show Vh.l0 (k + 1) l i = if valF l i.toNat = true then Vh.l0 k l (wrap64 (i + 1)) else some false
  have h1 := sAt_size l hs i.toNat
  have h2 := sAt_size l hs (i.toNat - 1)
  rw [Vh.l0, if_pos hi, if_pos h0, rdOf_sAt, spec_l02Value_f _ k (by omega)]
  simp only [Option.bind_some]
  unfold valF
  cases hv : ValueP (sAt l i.toNat) with
  | false => simp
  | true =>
   rw [if_pos rfl]
   by_cases hz : i > 0
   ·rw [if_pos hz, w64 (x := i - 1) (by omega) (by omega), if_pos (by omega), if_pos (by omega), rdOf_sAt, show (i - 1).toNat = i.toNat - 1 by omega, spec_Norm_f _ k (by omega), spec_Norm_f _ k (by omega), decide_eq_false (p := i.toNat = 0) (by omega)]
    simp only [Option.bind_some, Bool.true_and, Bool.false_or]
   ·rw [if_neg hz, decide_eq_true (p := i.toNat = 0) (by omega)]
    simp
 ·show Vh.l0 (k + 1) l i = _
  rw [Vh.l0, if_neg (by omega)]
  by_cases h1 : (l.length : Int) ≥ 1
  ·rw [if_pos h1, decide_eq_true (p := 1 ≤ l.length) (by omega), Bool.true_and]
   congr 1
   by_cases h4 : l.length ≤ 4
   ·rw [decide_eq_true h4, decide_eq_true (by omega)]
   ·rw [decide_eq_false h4, decide_eq_false (by omega)]
  ·rw [if_neg h1, decide_eq_false (p := 1 ≤ l.length) (by omega)]; rfl
def AttrP (n : ByteArray) (l : List ByteArray) : Bool := NameP n && ValsP l
theorem impl_byNorm_f (a b : ByteArray) (k : Nat) (ha : 2 * a.size + 2 < k) (hb : 2 * b.size + 2 < k) : Gq.f k a b = some (Lib.compareBytes (NormP a).toList (NormP b).toList) := by
 unfold Gq.f Vp.f
 rw [impl_Norm_f a k ha, impl_Norm_f b k hb, Go.Lib.toList_data, Go.Lib.toList_data]; rfl
theorem impl_isAttr_f (n : ByteArray) (l : List ByteArray) (hl : l.length ≤ 140737488351232) (hs : ∀ x ∈ l, x.size ≤ 140737488351232) (k : Nat) (hk : 1125899906842624 + 1 + l.length < k) : Gu.f k n l = some (AttrP n l) := by
 obtain ⟨k, rfl⟩ : ∃ q, k = q + 1 := ⟨k - 1, by omega⟩
 unfold Gu.f AttrP
 rw [impl_NameRight_f, Option.bind_some]
 cases NameP n with
 | false => rw [if_neg (by simp), Gu.j0, if_pos rfl]; rfl
 | true =>
  have hb : Gp.f (l.length : Int) 1 4 = some (decide (1 ≤ l.length) && decide (l.length ≤ 4)) := by
   unfold Gp.f
   by_cases h1 : (l.length : Int) ≥ 1
   ·rw [if_pos h1, decide_eq_true (p := 1 ≤ l.length) (by omega), Bool.true_and]
    congr 1
    by_cases h4 : l.length ≤ 4
    ·rw [decide_eq_true h4, decide_eq_true (by omega)]
    ·rw [decide_eq_false h4, decide_eq_false (by omega)]
   ·rw [if_neg h1, decide_eq_false (p := 1 ≤ l.length) (by omega)]; rfl
  unfold Qc.f
  rw [if_pos rfl]
  simp only [Option.bind_some]
  rw [hb]
  simp only [Option.bind_some, Bool.true_and]
  unfold ValsP
  cases hc : (decide (1 ≤ l.length) && decide (l.length ≤ 4)) with
  | false => rw [Gu.j0, Bool.not_false, if_pos rfl, Bool.and_false]
  | true =>
   rw [Gu.j0, if_neg (by simp), all_loop true (valF l) l.length (by omega) 1125899906842624 (fun k i => Gu.l0 k l (l.length : Int) i n l) (fun k i hk h0 hi => ?_) (fun k i hk h0 hi => ?_) l.length k 0 (by omega) (by omega) (by omega)]
   ·rw [List.range_eq_range']; rfl
   ·show Gu.l0 (k + 1) l (l.length : Int) i n l = if valF l i.toNat = true then Gu.l0 k l (l.length : Int) (wrap64 (i + 1)) n l else some false
    have h1 := sAt_size l hs i.toNat
    have h2 := sAt_size l hs (i.toNat - 1)
    rw [Gu.l0, if_pos hi, if_pos h0, if_pos hi, rdOf_sAt, impl_isProper_f _ k (by omega)]
    simp only [Option.bind_some]
    unfold valF
    cases hv : ValueP (sAt l i.toNat) with
    | false => simp
    | true =>
     rw [if_pos rfl]
     by_cases hz : i > 0
     ·rw [if_pos hz, w64 (x := i - 1) (by omega) (by omega), if_pos (by omega), if_pos (by omega), rdOf_sAt, show (i - 1).toNat = i.toNat - 1 by omega, impl_byNorm_f _ _ k (by omega) (by omega), decide_eq_false (p := i.toNat = 0) (by omega)]
      simp only [Option.bind_some, Bool.true_and, Bool.false_or]
      have hcl := cmp_less (NormP (sAt l (i.toNat - 1))).toList (NormP (sAt l i.toNat)).toList
      cases hbl : Op.bytesLess (NormP (sAt l (i.toNat - 1))).toList (NormP (sAt l i.toNat)).toList with
      | true =>
       rw [hbl, Bool.not_true] at hcl
       rw [if_neg (of_decide_eq_false hcl), if_pos rfl]
      | false =>
       rw [hbl, Bool.not_false] at hcl
       rw [if_pos (of_decide_eq_true hcl), if_neg (by simp)]
     ·rw [if_neg hz, decide_eq_true (p := i.toNat = 0) (by omega)]
      simp
   ·show Gu.l0 (k + 1) l (l.length : Int) i n l = _
    rw [Gu.l0, if_neg (by omega)]
def aAt (l : List At) (j : Nat) : At := l.getD j z117
def attrF (l : List At) (j : Nat) : Bool := AttrP (aAt l j).f0 (aAt l j).f1 && (decide (j = 0) || Op.bytesLess (aAt l (j - 1)).f0.toList (aAt l j).f0.toList)
def AttrsP (l : List At) : Bool := (List.range l.length).all (attrF l) && decide (l.length ≤ 8)
def EntryP (dn : List Rd) (l : List At) : Bool := decide (0 < dn.length) && DnP dn && AttrsP l
def AtOK (l : List At) : Prop := l.length ≤ 140737488351232 ∧ ∀ x ∈ l, x.f1.length ≤ 140737488351232 ∧ ∀ s ∈ x.f1, s.size ≤ 140737488351232
theorem aAt_ok {l : List At} (h : AtOK l) (j : Nat) : (aAt l j).f1.length ≤ 140737488351232 ∧ ∀ s ∈ (aAt l j).f1, s.size ≤ 140737488351232 := by
 unfold aAt
 rw [List.getD_eq_getElem?_getD]
 by_cases hj : j < l.length
 ·rw [List.getElem?_eq_getElem hj]; exact h.2 _ (List.getElem_mem hj)
 ·rw [List.getElem?_eq_none (by omega)]
  exact ⟨by decide, fun s hs => by cases hs⟩
theorem rd_aAt (l : List At) (i : Int) : rd_T117 l i = aAt l i.toNat := rfl
theorem spec_l03Attrs_f (l : List At) (h : AtOK l) (k : Nat) (hk : 2251799813685248 + l.length < k) : Vc.f k l = some (AttrsP l) := by
 have hl := h.1
 unfold Vc.f AttrsP
 rw [all_loop (decide (l.length ≤ 8)) (attrF l) l.length (by omega) 2251799813685248 (fun k i => Vc.l0 k l i) (fun k i hk h0 hi => ?_) (fun k i hk h0 hi => ?_) l.length k 0 (by omega) (by omega) (by omega)]
 ·rw [List.range_eq_range']; rfl
 ·show Vc.l0 (k + 1) l i = if attrF l i.toNat = true then Vc.l0 k l (wrap64 (i + 1)) else some false
  obtain ⟨h1, h2⟩ := aAt_ok h i.toNat
  rw [Vc.l0, if_pos hi, if_pos h0, rd_aAt, spec_NameRight_f _ k (by omega), spec_l03Values_f _ h1 h2 k (by omega)]
  simp only [Option.bind_some]
  unfold attrF AttrP
  cases NameP (aAt l i.toNat).f0 with
  | false => simp
  | true =>
   rw [if_pos rfl]
   by_cases hz : i > 0
   ·rw [if_pos hz, w64 (x := i - 1) (by omega) (by omega), if_pos (by omega), if_pos (by omega), rd_aAt, show (i - 1).toNat = i.toNat - 1 by omega, decide_eq_false (p := i.toNat = 0) (by omega)]
    cases Op.bytesLess (aAt l (i.toNat - 1)).f0.toList (aAt l i.toNat).f0.toList <;> cases ValsP (aAt l i.toNat).f1 <;> simp
   ·rw [if_neg hz, decide_eq_true (p := i.toNat = 0) (by omega)]
    cases ValsP (aAt l i.toNat).f1 <;> simp
 ·show Vc.l0 (k + 1) l i = _
  rw [Vc.l0, if_neg (by omega)]
  congr 1
  by_cases h4 : l.length ≤ 8
  ·rw [decide_eq_true h4, decide_eq_true (by omega)]
  ·rw [decide_eq_false h4, decide_eq_false (by omega)]
theorem spec_EntryRight_f (dn : List Rd) (hd : dn.length ≤ 140737488351232) (l : List At) (h : AtOK l) (k : Nat) (hk : 4503599627370496 < k) : Qn.f k dn l = some (EntryP dn l) := by
 have hl := h.1
 unfold Qn.f EntryP
 by_cases h0 : (dn.length : Int) > 0
 ·rw [if_pos h0, spec_DnRight_f dn (by omega) k (by omega), spec_l03Attrs_f l h k (by omega), decide_eq_true (p := 0 < dn.length) (by omega)]
  cases DnP dn <;> simp
 ·rw [if_neg h0, decide_eq_false (p := 0 < dn.length) (by omega)]; rfl
theorem impl_EntryRight_f (dn : List Rd) (l : List At) (h : AtOK l) (k : Nat) (hk : 4503599627370496 < k) : Gf.f k dn l = some (EntryP dn l) := by
 obtain ⟨k, rfl⟩ : ∃ q, k = q + 1 := ⟨k - 1, by omega⟩
 have hl := h.1
 unfold Gf.f EntryP
 have hj : ∀ b, Gf.j0 (k + 1) b dn l = some (!b && (List.range l.length).all (attrF l)) := by
  intro b
  rw [Gf.j0]
  cases b with
  | true => rw [if_pos rfl]; rfl
  | false =>
   rw [if_neg (by simp), all_loop true (attrF l) l.length (by omega) 2251799813685248 (fun k i => Gf.l0 k l (l.length : Int) i dn l) (fun k i hk h0 hi => ?_) (fun k i hk h0 hi => ?_) l.length k 0 (by omega) (by omega) (by omega)]
   ·rw [List.range_eq_range']; simp
   ·show Gf.l0 (k + 1) l (l.length : Int) i dn l = if attrF l i.toNat = true then Gf.l0 k l (l.length : Int) (wrap64 (i + 1)) dn l else some false
    obtain ⟨h1, h2⟩ := aAt_ok h i.toNat
    rw [Gf.l0, if_pos hi, if_pos h0, if_pos hi, rd_aAt, impl_isAttr_f _ _ h1 h2 k (by omega)]
    simp only [Option.bind_some]
    unfold attrF
    cases AttrP (aAt l i.toNat).f0 (aAt l i.toNat).f1 with
    | false => simp
    | true =>
     rw [if_pos rfl]
     by_cases hz : i > 0
     ·rw [if_pos hz, w64 (x := i - 1) (by omega) (by omega), if_pos (by omega), if_pos (by omega), rd_aAt, show (i - 1).toNat = i.toNat - 1 by omega, decide_eq_false (p := i.toNat = 0) (by omega)]
      simp
     ·rw [if_neg hz, decide_eq_true (p := i.toNat = 0) (by omega)]
      simp
   ·show Gf.l0 (k + 1) l (l.length : Int) i dn l = _
    rw [Gf.l0, if_neg (by omega)]
 unfold AttrsP
 by_cases h0 : (dn.length : Int) = 0
 ·rw [if_pos h0, hj, decide_eq_false (p := 0 < dn.length) (by omega)]; rfl
 ·rw [if_neg h0, impl_DnRight_f dn _ (by omega), decide_eq_true (p := 0 < dn.length) (by omega), Option.bind_some, hj, hj]
  cases DnP dn with
  | false => rfl
  | true =>
   rw [if_pos rfl]
   by_cases h8 : l.length ≤ 8
   ·rw [decide_eq_true h8, decide_eq_false (by omega)]; simp
   ·rw [decide_eq_false h8, decide_eq_true (by omega)]; simp
def MayChangeP (l : List Ru) (who : ByteArray) (d : List Rd) (m : List At) (xs : List ByteArray) : Bool :=
 decide (xs.length ≤ 400) && (AclP l && (EntryP d m && (NameP who && (xs.all NameP && xs.all (fun t => allowedP l who d t 2)))))
theorem EntryP_dn2 {d : List Rd} {l : List At} (h : EntryP d l = true) : DnP d = true := by
 unfold EntryP at h
 rw [Bool.and_eq_true, Bool.and_eq_true] at h
 exact h.1.2
theorem impl_may_ix1 : ∀ (xs : List ByteArray) (i : Int), 0 ≤ i → ∃ r, Gg.ix1 xs i = some r ∧ decide (0 ≤ r) = !(xs.all NameP)
 | [], i, h => ⟨-1, rfl, by simp⟩
 | x :: xs, i, h => by
  rw [Gg.ix1, Gh.f, impl_NameRight_f, Option.bind_some, Option.bind_some, List.all_cons]
  cases NameP x with
  | false => exact ⟨i, rfl, by simp [h]⟩
  | true =>
   obtain ⟨r, e, hr⟩ := impl_may_ix1 xs (i + 1) (by omega)
   exact ⟨r, by rw [Bool.not_true, if_neg (by simp), e], by rw [hr, Bool.true_and]⟩
theorem impl_may_ix2 (l : List Ru) (who : ByteArray) (d : List Rd) (hA : AclP l = true) (hd : DnP d = true) (k : Nat) (hk : 100 ≤ k) : ∀ (xs : List ByteArray) (i : Int), 0 ≤ i → ∃ r, Gg.ix2 k l who d xs i = some r ∧ decide (0 ≤ r) = !(xs.all (fun t => allowedP l who d t 2))
 | [], i, h => ⟨-1, rfl, by simp⟩
 | x :: xs, i, h => by
  rw [Gg.ix2, Gg.clo2, impl_allowed_f l who d x 2 hA hd k hk, Option.bind_some, Option.bind_some, List.all_cons]
  cases allowedP l who d x 2 with
  | false => exact ⟨i, rfl, by simp [h]⟩
  | true =>
   obtain ⟨r, e, hr⟩ := impl_may_ix2 l who d hA hd k hk xs (i + 1) (by omega)
   exact ⟨r, by rw [Bool.not_true, if_neg (by simp), e], by rw [hr, Bool.true_and]⟩
theorem impl_MayChange_f (l : List Ru) (who : ByteArray) (d : List Rd) (m : List At) (xs : List ByteArray) (hm : AtOK m) (k : Nat) (hk : 4503599627370496 < k) : Gg.f k l who d m xs = some (MayChangeP l who d m xs) := by
 unfold Gg.f Gw.f MayChangeP
 rw [Option.bind_some]
 by_cases c : (xs.length : Int) > 400
 ·rw [decide_eq_true c, if_pos rfl, decide_eq_false (p := xs.length ≤ 400) (by omega), Bool.false_and]
 ·rw [decide_eq_false c, if_neg (by simp), decide_eq_true (p := xs.length ≤ 400) (by omega), Bool.true_and, impl_AclRight_f l k (by omega), Option.bind_some]
  cases hA : AclP l with
  | false => rw [if_neg (by simp), Bool.false_and]
  | true =>
   rw [if_pos rfl, Bool.true_and, impl_EntryRight_f d m hm k hk, Option.bind_some]
   cases hE : EntryP d m with
   | false => rw [if_neg (by simp), Bool.false_and]
   | true =>
    rw [if_pos rfl, Bool.true_and, impl_NameRight_f, Option.bind_some]
    cases NameP who with
    | false => rw [if_neg (by simp), Bool.false_and]
    | true =>
     obtain ⟨r, e, hr⟩ := impl_may_ix1 xs 0 (by omega)
     rw [if_pos rfl, Bool.true_and, e, Option.bind_some]
     cases hn : xs.all NameP with
     | false =>
      rw [hn, Bool.not_false] at hr
      rw [if_pos (of_decide_eq_true hr), Bool.false_and]
     | true =>
      rw [hn, Bool.not_true] at hr
      obtain ⟨q, e2, hq⟩ := impl_may_ix2 l who d hA (EntryP_dn2 hE) k (by omega) xs 0 (by omega)
      rw [if_neg (of_decide_eq_false hr), e2, Option.bind_some, hq, Bool.not_not, Bool.true_and]
theorem spec_may_l0 (l : List Ru) (who : ByteArray) (d : List Rd) (m : List At) (xs : List ByteArray) (hA : AclP l = true) (hd : DnP d = true) (hx : xs.length ≤ 400) :
  ∀ (n k : Nat) (ok : Bool) (i : Int), 0 ≤ i → i + n = xs.length → 2000 + n < k → Qp.l0 k l who xs ok i d m = some ((xs.drop i.toNat).all NameP && (ok && (xs.drop i.toNat).all (fun t => allowedP l who d t 2)))
 | 0, k, ok, i, h0, hi, hk => by
  obtain ⟨k, rfl⟩ : ∃ q, k = q + 1 := ⟨k - 1, by omega⟩
  rw [Qp.l0, if_neg (by omega), List.drop_of_length_le (by omega)]
  simp
 | n + 1, k, ok, i, h0, hi, hk => by
  obtain ⟨k, rfl⟩ : ∃ q, k = q + 1 := ⟨k - 1, by omega⟩
  have ih := fun b => spec_may_l0 l who d m xs hA hd hx n k b (i + 1) (by omega) (by omega) (by omega)
  rw [Qp.l0, if_pos (by omega), if_pos h0, rdOf_sAt, spec_NameRight_f _ k (by omega), Option.bind_some, sAt_drop xs i h0 (by omega), List.all_cons, List.all_cons, w64 (x := i + 1) (by omega) (by omega)]
  cases NameP (sAt xs i.toNat) with
  | false => rw [if_neg (by simp), Bool.false_and, Bool.false_and]
  | true =>
   rw [if_pos rfl]
   cases ok with
   | false => rw [if_neg (by simp), ih]; simp
   | true => rw [if_pos rfl, spec_l06Allowed_f l who d _ 2 hA hd k (by omega), Option.bind_some, ih]; simp
theorem spec_MayChange_f (l : List Ru) (who : ByteArray) (d : List Rd) (m : List At) (xs : List ByteArray) (hl : RuOK l) (hd : d.length ≤ 140737488351232) (hm : AtOK m) (k : Nat) (hk : 18014398509481984 < k) : Qp.f k l who d m xs = some (MayChangeP l who d m xs) := by
 obtain ⟨k, rfl⟩ : ∃ q, k = q + 1 := ⟨k - 1, by omega⟩
 have hll := hl.1
 have no : ∀ b, MayChangeP l who d m xs = false → Qp.j0 (k + 1) l who xs true d m = b → b = some (MayChangeP l who d m xs) := by
  intro b e1 e2
  rw [e1, ← e2, Qp.j0, if_pos rfl]
 unfold Qp.f
 by_cases c1 : (l.length : Int) > 400
 ·rw [if_pos c1]
  refine no _ ?_ rfl
  have : AclP l = false := Bool.eq_false_iff.2 (fun h => by have := (AclP_mem h).1; omega)
  unfold MayChangeP
  rw [this]; simp
 ·rw [if_neg c1]
  by_cases c2 : (who.size : Int) > 8000
  ·rw [if_pos c2]
   refine no _ ?_ rfl
   have : NameP who = false := Bool.eq_false_iff.2 (fun h => by have := (NameP_size h).2; omega)
   unfold MayChangeP
   rw [this]; simp
  ·rw [if_neg c2]
   by_cases c3 : (xs.length : Int) > 400
   ·rw [if_pos c3]
    refine no _ ?_ rfl
    unfold MayChangeP
    rw [decide_eq_false (p := xs.length ≤ 400) (by omega), Bool.false_and]
   ·rw [if_neg c3, spec_AclRight_f l hl _ (by omega), Option.bind_some]
    cases hA : AclP l with
    | false =>
     rw [if_neg (by simp)]
     refine no _ ?_ rfl
     unfold MayChangeP
     rw [hA]; simp
    | true =>
     rw [if_pos rfl, spec_NameRight_f _ _ (by omega), Option.bind_some]
     cases hW : NameP who with
     | false =>
      rw [if_neg (by simp)]
      refine no _ ?_ rfl
      unfold MayChangeP
      rw [hW]; simp
     | true =>
      rw [if_pos rfl, spec_EntryRight_f d hd m hm _ (by omega), Option.bind_some]
      cases hE : EntryP d m with
      | false =>
       rw [Bool.not_false]
       refine no _ ?_ rfl
       unfold MayChangeP
       rw [hE]; simp
      | true =>
       rw [Bool.not_true, Qp.j0, if_neg (by simp), spec_may_l0 l who d m xs hA (EntryP_dn2 hE) (by omega) xs.length k true 0 (by omega) (by omega) (by omega)]
       unfold MayChangeP
       rw [decide_eq_true (p := xs.length ≤ 400) (by omega), hA, hE, hW]
       simp
theorem copy_l0 (dn : List Rd) (l : List At) (hl : l.length ≤ 1000) (hv : ∀ a ∈ l, a.f1.length ≤ 1000) (y0 : List Rd) : ∀ (d k i : Nat), i + d = l.length → d < k → Vd.l0 k (i : Int) dn l y0 (l.take i) = some (y0, l)
 | 0, k, i, hi, hk => by
  obtain ⟨k, rfl⟩ : ∃ q, k = q + 1 := ⟨k - 1, by omega⟩
  rw [Vd.l0, if_neg (by omega), List.take_of_length_le (by omega)]
 | d + 1, k, i, hi, hk => by
  obtain ⟨k, rfl⟩ : ∃ q, k = q + 1 := ⟨k - 1, by omega⟩
  have hlt : i < l.length := by omega
  have hm : rd_T117 l (i : Int) = l[i] := by
   unfold rd_T117
   rw [Int.toNat_natCast, List.getD_eq_getElem?_getD, List.getElem?_eq_getElem hlt]; rfl
  have h1 := hv _ (List.getElem_mem hlt)
  have ih := copy_l0 dn l hl hv y0 d k (i + 1) (by omega) (by omega)
  rw [List.take_succ_eq_append_getElem hlt] at ih
  rw [Vd.l0, if_pos (by omega), if_pos (by omega), Option.bind_some, hm, if_pos (by simp; omega), if_pos (by rw [List.length_take]; omega), show wrap64 ((i : Int) + 1) = ((i + 1 : Nat) : Int) from by unfold wrap64; omega]
  exact ih
theorem at_l0 (dn : List Rd) (a : ByteArray) (l : List At) (hl : l.length ≤ 1000) : ∀ (d k : Nat) (i : Int), 0 ≤ i → i + d = l.length → d < k → ∃ r, Vb.l0 k a i dn l = some r ∧ r < l.length
 | 0, k, i, h0, hi, hk => by
  obtain ⟨k, rfl⟩ : ∃ q, k = q + 1 := ⟨k - 1, by omega⟩
  exact ⟨-1, by rw [Vb.l0, if_neg (by omega)], by omega⟩
 | d + 1, k, i, h0, hi, hk => by
  obtain ⟨k, rfl⟩ : ∃ q, k = q + 1 := ⟨k - 1, by omega⟩
  rw [Vb.l0, if_pos (by omega), if_pos h0]
  by_cases h : (rd_T117 l i).f0.toList = a.toList
  ·rw [if_pos h]; exact ⟨i, rfl, by omega⟩
  ·rw [if_neg h, w64 (x := i + 1) (by omega) (by omega)]
   exact at_l0 dn a l hl d k (i + 1) (by omega) (by omega) (by omega)
theorem in_l0 (l : List ByteArray) (a : ByteArray) (hl : l.length ≤ 1000) (hs : ∀ s ∈ l, s.size ≤ 8000) : ∀ (d k : Nat) (i : Int), 0 ≤ i → i + d = l.length → 17000 + d < k → ∃ r, Vf.l0 k l a i = some r
 | 0, k, i, h0, hi, hk => by
  obtain ⟨k, rfl⟩ : ∃ q, k = q + 1 := ⟨k - 1, by omega⟩
  exact ⟨-1, by rw [Vf.l0, if_neg (by omega)]⟩
 | d + 1, k, i, h0, hi, hk => by
  obtain ⟨k, rfl⟩ : ∃ q, k = q + 1 := ⟨k - 1, by omega⟩
  have hz : (rdOf ByteArray.empty l i).size ≤ 8000 := by
   unfold rdOf
   rw [List.getD_eq_getElem?_getD, List.getElem?_eq_getElem (by omega)]
   exact hs _ (List.getElem_mem _)
  rw [Vf.l0, if_pos (by omega), if_pos h0, spec_Norm_f _ k (by omega), Option.bind_some]
  by_cases h : (NormP (rdOf ByteArray.empty l i)).toList = a.toList
  ·rw [if_pos h]; exact ⟨i, rfl⟩
  ·rw [if_neg h, w64 (x := i + 1) (by omega) (by omega)]
   exact in_l0 l a hl hs d k (i + 1) (by omega) (by omega) (by omega)
theorem dec_small : ∀ i : Int, 0 ≤ i → i ≤ 20 → ∃ k r, Qs.f k i = some r ∧ r.size ≤ 1000 := by
 have step : ∀ (k : Nat) (x : Int) (s : ByteArray), 0 < x → x ≤ 20 → s.size ≤ 10 → ∃ t : ByteArray, t.size ≤ s.size + 1 ∧ Qs.l0 (k + 1) x false s = Qs.l0 k (x / 10) false t := by
  intro k x s h0 h1 hs
  have e1 : Int.tmod x 10 = x % 10 := Int.tmod_eq_emod_of_nonneg (by omega)
  have e2 : Int.tdiv x 10 = x / 10 := Int.tdiv_eq_ediv_of_nonneg (by omega)
  rw [Qs.l0, if_neg (by omega), e1, e2, if_neg (by omega), Option.bind_some, if_pos (by rw [strOfNums_size]; simp; omega), w64 (x := x / 10) (by omega) (by omega)]
  exact ⟨_, by rw [ba_append_size, strOfNums_size]; simp; omega, rfl⟩
 intro i h0 h1
 by_cases hz : i = 0
 ·subst hz
  exact ⟨1, _, rfl, by decide⟩
 obtain ⟨t, ht, e1⟩ := step 2 i ⟨#[]⟩ (by omega) h1 (by decide)
 have ht' : t.size ≤ 1 := ht
 have hf : Qs.f 3 i = Qs.l0 2 (i / 10) false t := by
  unfold Qs.f
  rw [if_neg hz, decide_eq_false (by omega), e1]
 by_cases h10 : i < 10
 ·refine ⟨3, t, ?_, by omega⟩
  rw [hf, Qs.l0, if_pos (by omega), if_neg (by simp)]
 ·obtain ⟨t2, ht2, e2⟩ := step 1 (i / 10) t (by omega) (by omega) (by omega)
  refine ⟨3, t2, ?_, by omega⟩
  rw [hf, e2, Qs.l0, if_pos (by omega), if_neg (by simp)]
theorem tot : Y.TOT2 := by
 refine ⟨⟨fun dn l hd hl hv => ⟨1001, ?_⟩, fun dn l a hl => ?_, fun l a h => ?_, fun a h => ⟨20000, _, spec_Norm_f a _ (by omega)⟩⟩, fun dn l hd hl hv => ⟨4503599627370497, _, spec_EntryRight_f dn (by omega) l ⟨by omega, fun x hx => ?_⟩ _ (by omega)⟩, fun a _ => ⟨30, _, spec_NameRight_f a _ (by omega)⟩, fun a _ => ⟨100, _, spec_l02Value_f a _ (by omega)⟩, dec_small⟩
 ·unfold Vd.f
  rw [Option.bind_some, if_pos (by simp; omega)]
  exact copy_l0 dn l hl hv dn l.length 1001 0 (by omega) (by omega)
 ·obtain ⟨r, e, h⟩ := at_l0 dn a l hl l.length 1001 0 (by omega) (by omega) (by omega)
  exact ⟨1001, r, e, h⟩
 ·obtain ⟨r, e⟩ := in_l0 l a h.1 h.2 l.length 20000 0 (by omega) (by omega) (by have := h.1; omega)
  exact ⟨20000, r, e⟩
 ·obtain ⟨h1, h2⟩ := hv x hx
  exact ⟨by omega, fun s hs => by have := h2 s hs; omega⟩
theorem underP_nil (a : List Rd) : underP a [] = true := by
 unfold underP sameP
 simp
theorem allowedP_cons (r : Ru) (l : List Ru) (who : ByteArray) (dn : List Rd) (attr : ByteArray) (right : Int) : allowedP (r :: l) who dn attr right = if applies who dn attr right r = true then r.f4 else allowedP l who dn attr right := by
 unfold allowedP
 rw [List.find?_cons]
 cases applies who dn attr right r <;> rfl
theorem applies_star (who : ByteArray) (dn : List Rd) (attr : ByteArray) (right q : Int) (allow : Bool) : applies who dn attr right ⟨⟨#[42]⟩, [], [], q, allow⟩ = decide (q = right) := by
 unfold applies
 rw [underP_nil]
 have h : (⟨#[42]⟩ : ByteArray).toList = [42] := by rw [Go.Lib.toList_data]
 simp [h]
theorem acl_law (l : List Ru) (who : ByteArray) (dn : List Rd) (attr : ByteArray) (right : Int) (hl : Y.RU l) (hd : dn.length ≤ 1000) (hw : who.size ≤ 8000) (ha : attr.size ≤ 8000) (h0 : 0 ≤ right) (h6 : right < 6) (K : Nat) (hK : K = 1152921504606846976) :
  ∃ x b : Bool, Gc.f K l who dn attr right = some x ∧ Qj.f K l who dn attr right = some x ∧ Ga.f K l = some b ∧ Qh.f K l = some b ∧ Gc.f K [] who dn attr right = some false ∧
   ∀ allow : Bool, ∃ ra rb rd rn rt xa xb : Bool, Qh.f K ((⟨(⟨#[42]⟩ : ByteArray), [], [], right, allow⟩ : Ru) :: l) = some ra ∧ Qh.f K ((⟨(⟨#[42]⟩ : ByteArray), [], [], right % 4 + 1, allow⟩ : Ru) :: l) = some rb ∧ Qk.f K dn = some rd ∧ Qq.f K who = some rn ∧ Qq.f K attr = some rt ∧
    Gc.f K ((⟨(⟨#[42]⟩ : ByteArray), [], [], right, allow⟩ : Ru) :: l) who dn attr right = some xa ∧ Gc.f K ((⟨(⟨#[42]⟩ : ByteArray), [], [], right % 4 + 1, allow⟩ : Ru) :: l) who dn attr right = some xb ∧ (ra = true → rb = true → dn.length ≠ 0 → rd = true → rn = true → (attr.toList = ([] : List UInt8) ∨ rt = true) → xa = allow ∧ xb = x) := by
 obtain ⟨hl1, hl2⟩ := hl
 have hr : RuOK l := ⟨by omega, fun x hx => by have := hl2 x hx; omega⟩
 have hrc : ∀ q : Int, ∀ allow : Bool, RuOK ((⟨(⟨#[42]⟩ : ByteArray), [], [], q, allow⟩ : Ru) :: l) := fun q allow => ⟨by rw [List.length_cons]; omega, fun x hx => by
  rcases List.mem_cons.1 hx with rfl | h
  ·exact ⟨by simp, by simp⟩
  ·exact hr.2 x h⟩
 refine ⟨_, _, impl_Allowed_f _ _ _ _ _ K (by omega), spec_Allowed_f _ _ _ _ _ hr (by omega) K (by omega), impl_AclRight_f _ K (by omega), spec_AclRight_f _ hr K (by omega), ?_, fun allow => ⟨_, _, _, _, _, _, _, spec_AclRight_f _ (hrc _ _) K (by rw [List.length_cons]; omega), spec_AclRight_f _ (hrc _ _) K (by rw [List.length_cons]; omega), spec_DnRight_f _ (by omega) K (by omega), spec_NameRight_f _ K (by omega), spec_NameRight_f _ K (by omega), impl_Allowed_f _ _ _ _ _ K (by omega), impl_Allowed_f _ _ _ _ _ K (by omega), fun za zb zd zr zn zt => ?_⟩⟩
 ·rw [impl_Allowed_f _ _ _ _ _ K (by omega)]
  unfold AllowedP allowedP
  simp
 have hq : 1 ≤ right ∧ right ≤ 4 := by
  have h := (AclP_mem za).2 _ List.mem_cons_self
  unfold RuleP at h
  simp only [Bool.and_eq_true, decide_eq_true_eq] at h
  omega
 have hal : AclP l = true := by
  obtain ⟨h1, h2⟩ := AclP_mem za
  unfold AclP
  simp only [Bool.and_eq_true, decide_eq_true_eq, List.all_eq_true]
  exact ⟨fun r hr => h2 r (List.mem_cons_of_mem _ hr), by rw [List.length_cons] at h1; omega⟩
 have hat : (decide (attr.toList = ([] : List UInt8)) || NameP attr) = true := by
  rcases zt with h | h
  ·rw [decide_eq_true h, Bool.true_or]
  ·rw [h, Bool.or_true]
 have all : ∀ m : List Ru, AclP m = true → AllowedP m who dn attr right = allowedP m who dn attr right := fun m hm => by
  unfold AllowedP
  rw [hm, zn, zr, hat, decide_eq_true hw, decide_eq_true ha, decide_eq_true (show 0 < dn.length by omega), decide_eq_true (show right ≥ 1 by omega), decide_eq_true (show right ≤ 4 by omega)]
  simp only [Bool.true_and]
 rw [all _ za, all _ zb, all _ hal, allowedP_cons, allowedP_cons, applies_star, applies_star, decide_eq_true rfl, decide_eq_false (show ¬ (right % 4 + 1 = right) by omega)]
 exact ⟨rfl, rfl⟩
theorem wf_u8 {n : Int} (h : (Lit.int .u8 n).wf = true) : 0 ≤ n ∧ n ≤ 255 := by
 simpa [Lit.wf, IntKind.min, IntKind.max, IntKind.bits, IntKind.signed] using h
theorem FnAcl : Qd.Pure := by
 intro l0 l1 h0 h1
 obtain ⟨K, hK⟩ : ∃ K : Nat, K = 1152921504606846976 := ⟨_, rfl⟩
 refine ⟨K, ⟨by omega, fun x hx => wf_u8 (h0.2 x hx), fun x hx => wf_u8 (h1.2 x hx)⟩, tot, fun l who dn attr right a b c d e f => acl_law l who dn attr right a b c d e f K hK, fun l who dn at2 ns hl hd ha hv hn => ?_⟩
 have hr : RuOK l := ⟨by have := hl.1; omega, fun x hx => by have := hl.2 x hx; omega⟩
 have hA : AtOK at2 := ⟨by omega, fun x hx => ⟨by have := (hv x hx).1; omega, fun s hs => by have := (hv x hx).2 s hs; omega⟩⟩
 exact ⟨_, impl_MayChange_f l who dn at2 ns hA K (by omega), spec_MayChange_f l who dn at2 ns hr (by omega) hA K (by omega)⟩
end Go.Proofs.YtmkeigielncpjaaGreatDoor.Pure
