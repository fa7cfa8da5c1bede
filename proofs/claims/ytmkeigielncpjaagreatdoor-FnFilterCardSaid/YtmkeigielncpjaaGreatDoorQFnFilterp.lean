/- The law FnFilter answers true at every list of bytes: what it says of drawn filters holds. No condition. -/
import Derived.Test.YtmkeigielncpjaaGreatDoorQFnFilterx21
import Derived.Laws.Bits64
import Derived.Lib.Strings
import Derived.Lib.Bytealg
namespace Go.Proofs.YtmkeigielncpjaaGreatDoor.Pure
open Go.RowKit Go.Proofs.YtmkeigielncpjaaGreatDoor.PFnFilter Go.Proofs.YtmkeigielncpjaaGreatDoorW.PrintWords Go.Proofs.YtmkeigielncpjaaGreatDoorW.PrintLast
set_option linter.unusedVariables false
set_option linter.unusedSimpArgs false
theorem w64 {x : Int} (h0 : -9223372036854775808 ≤ x) (h1 : x ≤ 9223372036854775807) : wrap64 x = x := by unfold wrap64; omega
theorem ba_ext {a b : ByteArray} (h : a.data.toList = b.data.toList) : a = b := ByteArray.ext (Array.toList_inj.1 h)
theorem ba_inj {a b : ByteArray} : a.toList = b.toList ↔ a = b :=
 ⟨fun h => ba_ext (by rwa [Go.Lib.toList_data, Go.Lib.toList_data] at h), fun h => by rw [h]⟩
theorem ba_data_append (a b : ByteArray) : (a ++ b).data.toList = a.data.toList ++ b.data.toList := by simp
theorem ba_data_extract (s : ByteArray) (i j : Nat) : (s.extract i j).data.toList = (s.data.toList.drop i).take (j - i) := Go.Lib.extract_data s i j
theorem son_bytesOf (s : ByteArray) : strOfNums (bytesOf s) = s := by
 apply ba_ext
 rw [strOfNums_data, bytesOf, List.map_map]
 conv => rhs; rw [← List.map_id s.data.toList]
 apply List.map_congr_left
 intro b _
 simp
theorem ext_son (s : ByteArray) (i j : Nat) : s.extract i j = strOfNums (((bytesOf s).drop i).take (j - i)) := by
 apply ba_ext
 rw [ba_data_extract, strOfNums_data, List.map_take, List.map_drop]
 congr 2
 have := congrArg (fun x : ByteArray => x.data.toList) (son_bytesOf s)
 simp only [strOfNums_data] at this
 exact this.symm
theorem ba_nil_data : (⟨#[]⟩ : ByteArray).data.toList = [] := rfl
theorem ba_size0 {s : ByteArray} (h : s.size = 0) : s = ⟨#[]⟩ := by
 apply ba_ext
 rw [ba_nil_data]
 exact List.eq_nil_of_length_eq_zero (by rw [data_length]; exact h)
theorem drop_bt (s : ByteArray) (i : Int) (h0 : 0 ≤ i) (h1 : i < s.size) : (bytesOf s).drop i.toNat = bt s i :: (bytesOf s).drop (i + 1).toNat := by
 have hl : i.toNat < (bytesOf s).length := by rw [bytesOf_length]; omega
 rw [List.drop_eq_getElem_cons hl, ← rd_bytesOf, show (i + 1).toNat = i.toNat + 1 by omega]
 congr 1
 unfold rd
 rw [List.getD_eq_getElem?_getD, List.getElem?_eq_getElem hl]; rfl
theorem skip_loop {ρ : Type} (r : ρ) (n : Nat) (hn : (n : Int) ≤ 4611686018427387904) (K : Nat) (g : Nat → Int → Option ρ)
  (step : ∀ (k : Nat) (i : Int), K ≤ k → 0 ≤ i → i < n → g (k + 1) i = g k (wrap64 (i + 1)))
  (fin : ∀ (k : Nat) (i : Int), K ≤ k → 0 ≤ i → (n : Int) ≤ i → g (k + 1) i = some r) :
  ∀ (d k : Nat) (i : Int), 0 ≤ i → i + d = n → K + d < k → g k i = some r
 | 0, k, i, h0, hi, hk => by
  obtain ⟨k, rfl⟩ : ∃ q, k = q + 1 := ⟨k - 1, by omega⟩
  exact fin k i (by omega) h0 (by omega)
 | d + 1, k, i, h0, hi, hk => by
  obtain ⟨k, rfl⟩ : ∃ q, k = q + 1 := ⟨k - 1, by omega⟩
  rw [step k i (by omega) h0 (by omega), w64 (x := i + 1) (by omega) (by omega)]
  exact skip_loop r n hn K g step fin d k (i + 1) (by omega) (by omega) (by omega)
def up (c : Int) : Int := if 65 ≤ c ∧ c ≤ 90 then c + 32 else c
def nput (l : List Int) (c : Int) : List Int := if c = 32 ∧ (l = [] ∨ rd l ((l.length : Int) - 1) = 32) then l else l ++ [c]
def nfold (l cs : List Int) : List Int := cs.foldl (fun l c => nput l (up c)) l
def ntrim (l : List Int) : List Int := if l ≠ [] ∧ rd l ((l.length : Int) - 1) = 32 then l.take (l.length - 1) else l
def prt (c : Int) : Bool := decide (32 ≤ c) && decide (c ≤ 126)
theorem prt_lo {c : Int} (h : c < 32) : prt c = false := by unfold prt; rw [decide_eq_false (by omega)]; rfl
theorem prt_hi {c : Int} (h : c > 126) : prt c = false := by unfold prt; rw [decide_eq_false (p := c ≤ 126) (by omega)]; simp
def plainP (s : ByteArray) : Bool := (bytesOf s).all prt
def NormL (s : ByteArray) : List Int := if s.size ≤ 100 ∧ plainP s = true then ntrim (nfold [] (bytesOf s)) else []
def NormP (s : ByteArray) : ByteArray := strOfNums (NormL s)
theorem spec_l02Plain_l0 (s : ByteArray) (hs : s.size ≤ 4611686018427387904) : ∀ (d k : Nat) (i : Int), 0 ≤ i → i + d = s.size → d < k →
  Qh.l0 k s i = some (((bytesOf s).drop i.toNat).all prt)
 | 0, k, i, h0, hd, hk => by
  obtain ⟨k, rfl⟩ : ∃ m, k = m + 1 := ⟨k - 1, by omega⟩
  simp only [Qh.l0]
  rw [if_neg (by omega), List.drop_of_length_le (by rw [bytesOf_length]; omega)]; rfl
 | d + 1, k, i, h0, hd, hk => by
  obtain ⟨k, rfl⟩ : ∃ m, k = m + 1 := ⟨k - 1, by omega⟩
  simp only [Qh.l0]
  rw [if_pos (by omega), if_pos h0, drop_bt s i h0 (by omega), List.all_cons]
  by_cases h1 : bt s i < 32
  ·rw [if_pos h1, show prt (bt s i) = false from prt_lo h1]; rfl
  ·rw [if_neg h1]
   by_cases h2 : bt s i > 126
   ·rw [if_pos h2, show prt (bt s i) = false from prt_hi h2]; rfl
   ·rw [if_neg h2, w64 (by omega) (by omega), spec_l02Plain_l0 s hs d k (i + 1) (by omega) (by omega) (by omega)]
    simp [prt, show 32 ≤ bt s i by omega, show bt s i ≤ 126 by omega]
theorem spec_l02Plain_f (s : ByteArray) (hs : s.size ≤ 4611686018427387904) (k : Nat) (hk : s.size < k) : Qh.f k s = some (plainP s) := by
 unfold Qh.f
 rw [spec_l02Plain_l0 s hs s.size k 0 (by omega) (by omega) hk]; rfl
theorem impl_isPrintable_l0 (s : ByteArray) (hs : s.size ≤ 4611686018427387904) : ∀ (d k : Nat) (i : Int), 0 ≤ i → i + d = s.size → d < k →
  Gk.l0 k s (s.size : Int) i = some (((bytesOf s).drop i.toNat).all prt)
 | 0, k, i, h0, hd, hk => by
  obtain ⟨k, rfl⟩ : ∃ m, k = m + 1 := ⟨k - 1, by omega⟩
  simp only [Gk.l0]
  rw [if_neg (by omega), List.drop_of_length_le (by rw [bytesOf_length]; omega)]; rfl
 | d + 1, k, i, h0, hd, hk => by
  obtain ⟨k, rfl⟩ : ∃ m, k = m + 1 := ⟨k - 1, by omega⟩
  simp only [Gk.l0]
  rw [if_pos (by omega), if_pos h0, if_pos (by omega), drop_bt s i h0 (by omega), List.all_cons]
  by_cases h1 : bt s i < 32
  ·rw [if_pos h1, show prt (bt s i) = false from prt_lo h1]; rfl
  ·rw [if_neg h1]
   by_cases h2 : bt s i > 126
   ·rw [if_pos h2, show prt (bt s i) = false from prt_hi h2]; rfl
   ·rw [if_neg h2, w64 (by omega) (by omega), impl_isPrintable_l0 s hs d k (i + 1) (by omega) (by omega) (by omega)]
    simp [prt, show 32 ≤ bt s i by omega, show bt s i ≤ 126 by omega]
theorem impl_isPrintable_f (s : ByteArray) (hs : s.size ≤ 4611686018427387904) (k : Nat) (hk : s.size < k) : Gk.f k s = some (plainP s) := by
 unfold Gk.f
 rw [impl_isPrintable_l0 s hs s.size k 0 (by omega) (by omega) hk]; rfl
theorem nput_length (l : List Int) (c : Int) : (nput l c).length ≤ l.length + 1 := by
 unfold nput; split <;> simp
theorem up_of {c : Int} (h0 : 0 ≤ c) (h1 : c ≤ 255) (b : Bool) (hb : b = (decide (c ≥ 65) && decide (c ≤ 90))) : (if b = true then (c + 32) % 256 else c) = up c := by
 unfold up
 subst hb
 by_cases h : 65 ≤ c ∧ c ≤ 90
 ·rw [if_pos h, if_pos (by simp [h.1, h.2])]; omega
 ·rw [if_neg h, if_neg (by simpa using h)]
theorem spec_Norm_j2 (k : Nat) (s : ByteArray) (l : List Int) (i c : Int) (b : Bool) (hl : l.length < 1000) (h0 : 0 ≤ i) (h1 : i < 1000) :
  Qb.j2 (k + 1) s l i c b = Qb.l0 k s (nput l (if b = true then (c + 32) % 256 else c)) (i + 1) := by
 simp only [Qb.j2]
 rw [w64 (x := i + 1) (by omega) (by omega), w64 (x := (l.length : Int) - 1) (by omega) (by omega), if_pos (show l.length < 140737488355328 by omega), if_pos (show l.length < 140737488355328 by omega)]
 have key : ∀ c : Int, (if c = 32 then (if (l.length : Int) = 0 then Qb.l0 k s l (i + 1) else (if 0 ≤ (l.length : Int) - 1 then (if (l.length : Int) - 1 < (l.length : Int) then (if rd l ((l.length : Int) - 1) = 32 then Qb.l0 k s l (i + 1) else Qb.l0 k s (l ++ [c]) (i + 1)) else none) else none)) else Qb.l0 k s (l ++ [c]) (i + 1)) = Qb.l0 k s (nput l c) (i + 1) := by
  intro c
  unfold nput
  by_cases hc : c = 32
  ·rw [if_pos hc]
   by_cases hn : l = []
   ·rw [if_pos (by simp [hn]), if_pos ⟨hc, .inl hn⟩]
   ·have : 0 < l.length := List.length_pos_iff.2 hn
    rw [if_neg (by omega), if_pos (by omega), if_pos (by omega)]
    by_cases hr : rd l ((l.length : Int) - 1) = 32
    ·rw [if_pos hr, if_pos ⟨hc, .inr hr⟩]
    ·rw [if_neg hr, if_neg (fun x => x.2.elim hn hr)]
  ·rw [if_neg hc, if_neg (fun x => hc x.1)]
 cases b
 ·exact key c
 ·exact key _
theorem impl_Norm_j2 (k : Nat) (s : ByteArray) (l : List Int) (n i c : Int) (b : Bool) (hl : l.length < 1000) (h0 : 0 ≤ i) (h1 : i < 1000) :
  Gf.j2 (k + 1) s l c n i b = Gf.l0 k s (nput l (if b = true then (c + 32) % 256 else c)) n (i + 1) := by
 simp only [Gf.j2]
 rw [w64 (x := i + 1) (by omega) (by omega), w64 (x := (l.length : Int) - 1) (by omega) (by omega), if_pos (show l.length < 140737488355328 by omega), if_pos (show l.length < 140737488355328 by omega)]
 have key : ∀ c : Int, (if c = 32 then (if (l.length : Int) > 0 then (if 0 ≤ (l.length : Int) - 1 then (if (l.length : Int) - 1 < (l.length : Int) then (if rd l ((l.length : Int) - 1) = 32 then Gf.l0 k s l n (i + 1) else Gf.l0 k s (l ++ [c]) n (i + 1)) else none) else none) else Gf.l0 k s l n (i + 1)) else Gf.l0 k s (l ++ [c]) n (i + 1)) = Gf.l0 k s (nput l c) n (i + 1) := by
  intro c
  unfold nput
  by_cases hc : c = 32
  ·rw [if_pos hc]
   by_cases hn : l = []
   ·rw [if_neg (by simp [hn]), if_pos ⟨hc, .inl hn⟩]
   ·have : 0 < l.length := List.length_pos_iff.2 hn
    rw [if_pos (by omega), if_pos (by omega), if_pos (by omega)]
    by_cases hr : rd l ((l.length : Int) - 1) = 32
    ·rw [if_pos hr, if_pos ⟨hc, .inr hr⟩]
    ·rw [if_neg hr, if_neg (fun x => x.2.elim hn hr)]
  ·rw [if_neg hc, if_neg (fun x => hc x.1)]
 cases b
 ·exact key c
 ·exact key _
theorem spec_Norm_l0 (s : ByteArray) (hs : s.size ≤ 100) : ∀ (d k : Nat) (i : Int) (l : List Int), 0 ≤ i → i + d = s.size → 2 * d < k → l.length ≤ i →
  Qb.l0 k s l i = some (strOfNums (ntrim (nfold l ((bytesOf s).drop i.toNat))))
 | 0, k, i, l, h0, hd, hk, hl => by
  obtain ⟨k, rfl⟩ : ∃ m, k = m + 1 := ⟨k - 1, by omega⟩
  simp only [Qb.l0]
  rw [if_neg (by omega), List.drop_of_length_le (by rw [bytesOf_length]; omega)]
  rw [show nfold l [] = l from rfl]
  unfold ntrim
  by_cases hn : l = []
  ·subst hn; simp
  ·have : 0 < l.length := List.length_pos_iff.2 hn
   rw [w64 (x := (l.length : Int) - 1) (by omega) (by omega), if_pos (by omega), if_pos (by omega), if_pos (by omega)]
   by_cases hr : rd l ((l.length : Int) - 1) = 32
   ·rw [if_pos hr, if_pos (show (l.length : Int) - 1 ≤ (l.length : Int) by omega), if_pos ⟨hn, hr⟩, show ((l.length : Int) - 1).toNat = l.length - 1 by omega]
   ·rw [if_neg hr, if_neg (fun x => hr x.2)]
 | d + 1, k, i, l, h0, hd, hk, hl => by
  obtain ⟨k, rfl⟩ : ∃ m, k = m + 2 := ⟨k - 2, by omega⟩
  have hb := bt_range s i
  have hj : ∀ b : Bool, b = (decide (bt s i ≥ 65) && decide (bt s i ≤ 90)) → Qb.j2 (k + 1) s l i (bt s i) b = some (strOfNums (ntrim (nfold l ((bytesOf s).drop i.toNat)))) := by
   intro b hbb
   rw [spec_Norm_j2 k s l i _ b (by omega) h0 (by omega), up_of hb.1 hb.2 b hbb]
   have := nput_length l (up (bt s i))
   rw [spec_Norm_l0 s hs d k (i + 1) _ (by omega) (by omega) (by omega) (by omega), drop_bt s i h0 (by omega)]; rfl
  simp only [Qb.l0]
  rw [if_pos (by omega), if_pos h0]
  by_cases h : bt s i ≥ 65
  ·rw [if_pos h]; exact hj _ (by simp [h])
  ·rw [if_neg h]; exact hj _ (by simp [h])
theorem son_take (l : List Int) (n : Nat) : (strOfNums l).extract 0 n = strOfNums (l.take n) := by
 apply ba_ext
 rw [ByteArray.data_extract, Array.toList_extract, strOfNums_data, strOfNums_data]
 simp [List.extract]
theorem son_drop (l : List Int) (n : Nat) : (strOfNums l).extract n (strOfNums l).size = strOfNums (l.drop n) := by
 apply ba_ext
 rw [ByteArray.data_extract, Array.toList_extract, strOfNums_data, strOfNums_data, strOfNums_size]
 simp only [List.extract, List.map_drop]
 exact List.take_of_length_le (by simp)
theorem drop_last (l : List Int) (h : 0 < l.length) : l.drop (l.length - 1) = [rd l ((l.length : Int) - 1)] := by
 rw [List.drop_eq_getElem_cons (by omega), List.drop_of_length_le (by omega)]
 congr 1
 unfold rd
 rw [show ((l.length : Int) - 1).toNat = l.length - 1 by omega, List.getD_eq_getElem?_getD, List.getElem?_eq_getElem (by omega)]; rfl
theorem trim_blank (l : List Int) (hl : l.length < 1000) (hr : ∀ x ∈ l, 0 ≤ x ∧ x ≤ 255) : Qz.f (strOfNums l) (⟨#[32]⟩ : ByteArray) = some (strOfNums (ntrim l)) := by
 have hz : (⟨#[32]⟩ : ByteArray).size = 1 := rfl
 unfold Qz.f Vd.f Vb.f ntrim
 rw [hz]
 by_cases hn : l = []
 ·subst hn
  rw [if_neg (show ¬ (((strOfNums []).size : Int) ≥ ((1 : Nat) : Int)) by decide)]; rfl
 ·have hp : 0 < l.length := List.length_pos_iff.2 hn
  have hin : rd l ((l.length : Int) - 1) ∈ l := by have h := drop_last l hp; exact List.mem_of_mem_drop (i := l.length - 1) (by rw [h]; simp)
  have hb := hr _ hin
  simp only [strOfNums_size, Int.natCast_one]
  rw [w64 (x := (l.length : Int) - 1) (by omega) (by omega), if_pos (by omega), if_pos (by omega), if_pos (by omega)]
  simp only [Option.bind_some]
  have e1 : (strOfNums l).extract ((l.length : Int) - 1).toNat l.length = strOfNums [rd l ((l.length : Int) - 1)] := by
   rw [← drop_last l hp, ← son_drop, strOfNums_size, show ((l.length : Int) - 1).toNat = l.length - 1 by omega]
  rw [e1]
  have e2 : ((strOfNums [rd l ((l.length : Int) - 1)]).toList == (⟨#[32]⟩ : ByteArray).toList) = decide (rd l ((l.length : Int) - 1) = 32) := by
   rw [Go.Lib.toList_data, Go.Lib.toList_data, strOfNums_data]
   generalize rd l ((l.length : Int) - 1) = x at hb
   have key : ∀ z : Fin 256, (([(z.val : Int)].map fun n => UInt8.ofNat n.toNat) == (⟨#[32]⟩ : ByteArray).data.toList) = decide ((z.val : Int) = 32) := by decide +kernel
   have := key ⟨x.toNat, by omega⟩
   simpa [Int.toNat_of_nonneg hb.1] using this
  rw [e2]
  by_cases h : rd l ((l.length : Int) - 1) = 32
  ·rw [decide_eq_true h]
   simp only [if_true, Option.bind_some]
   rw [if_pos (show l ≠ [] ∧ rd l ((l.length : Int) - 1) = 32 from ⟨hn, h⟩), son_take, show ((l.length : Int) - 1).toNat = l.length - 1 by omega, if_pos (show 0 ≤ (l.length : Int) - 1 by omega), if_pos (show (l.length : Int) - 1 ≤ (l.length : Int) by omega)]; rfl
  ·rw [decide_eq_false h, if_neg (show ¬ (l ≠ [] ∧ rd l ((l.length : Int) - 1) = 32) from fun x => h x.2)]; rfl
theorem nput_range {l : List Int} {c : Int} (hl : ∀ x ∈ l, 0 ≤ x ∧ x ≤ 255) (hc : 0 ≤ c ∧ c ≤ 255) : ∀ x ∈ nput l c, 0 ≤ x ∧ x ≤ 255 := by
 intro x hx
 unfold nput at hx
 split at hx
 ·exact hl x hx
 ·rcases List.mem_append.1 hx with h | h
  ·exact hl x h
  ·rw [List.mem_singleton.1 h]; exact hc
theorem up_range {c : Int} (hc : 0 ≤ c ∧ c ≤ 255) : 0 ≤ up c ∧ up c ≤ 255 := by unfold up; split <;> omega
theorem impl_Norm_l0 (s : ByteArray) (hs : s.size ≤ 100) : ∀ (d k : Nat) (i : Int) (l : List Int), 0 ≤ i → i + d = s.size → 2 * d < k → l.length ≤ i → (∀ x ∈ l, 0 ≤ x ∧ x ≤ 255) →
  Gf.l0 k s l (s.size : Int) i = some (strOfNums (ntrim (nfold l ((bytesOf s).drop i.toNat))))
 | 0, k, i, l, h0, hd, hk, hl, hr => by
  obtain ⟨k, rfl⟩ : ∃ m, k = m + 1 := ⟨k - 1, by omega⟩
  simp only [Gf.l0]
  rw [if_neg (by omega), List.drop_of_length_le (by rw [bytesOf_length]; omega), trim_blank l (by omega) hr]
  rfl
 | d + 1, k, i, l, h0, hd, hk, hl, hr => by
  obtain ⟨k, rfl⟩ : ∃ m, k = m + 2 := ⟨k - 2, by omega⟩
  have hb := bt_range s i
  have hj : ∀ b : Bool, b = (decide (bt s i ≥ 65) && decide (bt s i ≤ 90)) → Gf.j2 (k + 1) s l (bt s i) (s.size : Int) i b = some (strOfNums (ntrim (nfold l ((bytesOf s).drop i.toNat)))) := by
   intro b hbb
   rw [impl_Norm_j2 k s l _ i _ b (by omega) h0 (by omega), up_of hb.1 hb.2 b hbb]
   have := nput_length l (up (bt s i))
   rw [impl_Norm_l0 s hs d k (i + 1) _ (by omega) (by omega) (by omega) (by omega) (nput_range hr (up_range hb)), drop_bt s i h0 (by omega)]; rfl
  simp only [Gf.l0]
  rw [if_pos (by omega), if_pos h0, if_pos (by omega)]
  by_cases h : bt s i ≥ 65
  ·rw [if_pos h]; exact hj _ (by simp [h])
  ·rw [if_neg h]; exact hj _ (by simp [h])
theorem spec_Norm_f (s : ByteArray) (k : Nat) (hk : 2 * s.size + 2 < k) : Qb.f k s = some (NormP s) := by
 obtain ⟨k, rfl⟩ : ∃ m, k = m + 1 := ⟨k - 1, by omega⟩
 unfold Qb.f NormP NormL
 by_cases h : s.size ≤ 100
 ·rw [if_neg (by omega), spec_l02Plain_f s (by omega) _ (by omega)]
  simp only [Option.bind_some, Qb.j0]
  by_cases hp : plainP s = true
  ·rw [if_neg (by simp [hp]), if_pos ⟨h, hp⟩, spec_Norm_l0 s h s.size k 0 [] (by omega) (by omega) (by omega) (by simp)]; rfl
  ·rw [if_pos (by simp [hp]), if_neg (fun x => hp x.2)]; rfl
 ·rw [if_pos (by omega), if_neg (fun x => h x.1)]
  simp only [Qb.j0, if_true]; rfl
theorem impl_Norm_f (s : ByteArray) (k : Nat) (hk : 2 * s.size + 2 < k) : Gf.f k s = some (NormP s) := by
 obtain ⟨k, rfl⟩ : ∃ m, k = m + 1 := ⟨k - 1, by omega⟩
 unfold Gf.f NormP NormL
 by_cases h : s.size ≤ 100
 ·rw [if_neg (by omega), impl_isPrintable_f s (by omega) _ (by omega)]
  simp only [Option.bind_some, Gf.j0]
  by_cases hp : plainP s = true
  ·rw [if_neg (by simp [hp]), if_pos ⟨h, hp⟩, impl_Norm_l0 s h s.size k 0 [] (by omega) (by omega) (by omega) (by simp) (by simp)]; rfl
  ·rw [if_pos (by simp [hp]), if_neg (fun x => hp x.2)]; rfl
 ·rw [if_pos (by omega), if_neg (fun x => h x.1)]
  simp only [Gf.j0, if_true]; rfl
def lowc (c : Int) : Bool := decide (97 ≤ c) && decide (c ≤ 122)
def nch (c : Int) : Bool := lowc c || (decide (48 ≤ c) && decide (c ≤ 57)) || decide (c = 95)
def NameP (s : ByteArray) : Bool := decide (1 ≤ s.size) && decide (s.size ≤ 20) && lowc (bt s 0) && (bytesOf s).all nch
theorem spec_NameRight_l0 (s : ByteArray) (hs : s.size ≤ 20) : ∀ (d k : Nat) (i : Int), 0 ≤ i → i + d = s.size → d < k →
  Qa.l0 k s i = some ((decide (i ≠ 0) || decide (s.size = 0) || lowc (bt s 0)) && ((bytesOf s).drop i.toNat).all nch)
 | 0, k, i, h0, hi, hk => by
  obtain ⟨k, rfl⟩ : ∃ q, k = q + 1 := ⟨k - 1, by omega⟩
  rw [Qa.l0, if_neg (by omega), List.drop_of_length_le (by rw [bytesOf_length]; omega), List.all_nil, Bool.and_true]
  by_cases hz : i = 0
  ·rw [decide_eq_true (p := s.size = 0) (by omega)]; simp
  ·rw [decide_eq_true (p := i ≠ 0) hz]; rfl
 | d + 1, k, i, h0, hi, hk => by
  obtain ⟨k, rfl⟩ : ∃ q, k = q + 1 := ⟨k - 1, by omega⟩
  have ih := spec_NameRight_l0 s hs d k (i + 1) (by omega) (by omega) (by omega)
  rw [decide_eq_true (p := i + 1 ≠ 0) (by omega), Bool.true_or, Bool.true_or, Bool.true_and] at ih
  rw [Qa.l0, if_pos (by omega), if_pos h0, drop_bt s i h0 (by omega), List.all_cons, w64 (x := i + 1) (by omega) (by omega), ih, decide_eq_false (p := s.size = 0) (by omega), Bool.or_false]
  have hc := bt_range s i
  generalize hcg : bt s i = c at hc ⊢
  have h00 : i = 0 → lowc (bt s 0) = lowc c := fun e => by rw [← hcg, e]
  unfold nch lowc at *
  by_cases c1 : c ≥ 97
  ·rw [if_pos c1, decide_eq_true (p := 97 ≤ c) c1]
   by_cases c2 : c ≤ 122
   ·rw [if_pos c2, decide_eq_true c2]
    by_cases hz : i = 0
    ·rw [h00 hz, decide_eq_true (p := 97 ≤ c) c1, decide_eq_true c2]; simp
    ·rw [decide_eq_true (p := i ≠ 0) hz]; simp
   ·rw [if_neg c2, decide_eq_false c2, decide_eq_false (p := c ≤ 57) (by omega), decide_eq_false (p := c = 95) (by omega)]
    by_cases hz : i = 0
    ·rw [if_pos hz, h00 hz, decide_eq_false c2, decide_eq_false (p := i ≠ 0) (by omega)]; simp
    ·rw [if_neg hz, if_pos (by omega), if_neg (by omega), if_neg (by omega)]; simp
  ·rw [if_neg c1, decide_eq_false (p := 97 ≤ c) c1]
   by_cases hz : i = 0
   ·rw [if_pos hz, h00 hz, decide_eq_false (p := 97 ≤ c) c1, decide_eq_false (p := i ≠ 0) (by omega)]; simp
   ·rw [if_neg hz, decide_eq_true (p := i ≠ 0) hz]
    by_cases c3 : c ≥ 48
    ·rw [if_pos c3, decide_eq_true (p := 48 ≤ c) c3]
     by_cases c4 : c ≤ 57
     ·rw [if_pos c4, decide_eq_true c4]; simp
     ·rw [if_neg c4, decide_eq_false c4]
      by_cases c5 : c = 95
      ·rw [if_pos c5, decide_eq_true c5]; simp
      ·rw [if_neg c5, decide_eq_false c5]; simp
    ·rw [if_neg c3, decide_eq_false (p := 48 ≤ c) c3, if_neg (by omega), decide_eq_false (p := c = 95) (by omega)]; simp
theorem spec_NameRight_f (s : ByteArray) (k : Nat) (hk : 30 ≤ k) : Qa.f k s = some (NameP s) := by
 obtain ⟨k, rfl⟩ : ∃ q, k = q + 1 := ⟨k - 1, by omega⟩
 unfold Qa.f NameP
 by_cases h1 : (s.size : Int) < 1
 ·rw [if_pos h1, Qa.j0, if_pos rfl, decide_eq_false (p := 1 ≤ s.size) (by omega)]; rfl
 ·rw [if_neg h1, decide_eq_true (p := 1 ≤ s.size) (by omega)]
  by_cases h2 : (s.size : Int) > 20
  ·rw [decide_eq_true h2, Qa.j0, if_pos rfl, decide_eq_false (p := s.size ≤ 20) (by omega)]; rfl
  ·rw [decide_eq_false h2, Qa.j0, if_neg (by simp), decide_eq_true (p := s.size ≤ 20) (by omega), spec_NameRight_l0 s (by omega) s.size k 0 (by omega) (by omega) (by omega), decide_eq_false (p := s.size = 0) (by omega)]
   simp
theorem dw_nil {α : Type} (p : α → Bool) : ∀ l : List α, (∀ x ∈ l, p x = true) → l.dropWhile p = []
 | [], _ => rfl
 | a :: l, h => by
  rw [List.dropWhile_cons, if_pos (h a (by simp))]
  exact dw_nil p l (fun x hx => h x (List.mem_cons_of_mem _ hx))
theorem dw_all {α : Type} (p : α → Bool) : ∀ l : List α, (∀ x ∈ l.dropWhile p, p x = true) → ∀ x ∈ l, p x = true
 | [], _, x, hx => by cases hx
 | a :: l, h, x, hx => by
  rw [List.dropWhile_cons] at h
  by_cases ha : p a = true
  ·rw [if_pos ha] at h
   rcases List.mem_cons.1 hx with e | e
   ·rw [e]; exact ha
   ·exact dw_all p l h x e
  ·rw [if_neg ha] at h
   exact absurd (h a (by simp)) ha
theorem trim_nil (l cs : List UInt8) : (Lib.trimS l cs == ([] : List UInt8)) = l.all (cs.contains ·) := by
 have key : Lib.trimS l cs = [] ↔ ∀ x ∈ l, cs.contains x = true := by
  unfold Lib.trimS Lib.trimLeftS Lib.trimRightS
  constructor
  ·intro h x hx
   refine dw_all (cs.contains ·) l.reverse (fun y hy => ?_) x (List.mem_reverse.2 hx)
   refine dw_all (cs.contains ·) (l.reverse.dropWhile (cs.contains ·)).reverse (fun z hz => ?_) y (List.mem_reverse.2 hy)
   rw [h] at hz; cases hz
  ·intro h
   rw [dw_nil (cs.contains ·) l.reverse (fun x hx => h x (List.mem_reverse.1 hx))]; rfl
 by_cases h : Lib.trimS l cs = []
 ·rw [h, List.all_eq_true.2 (key.1 h)]; rfl
 ·rw [beq_eq_false_iff_ne.2 h]
  symm
  rw [Bool.eq_false_iff]
  exact fun h2 => h (key.2 (List.all_eq_true.1 h2))
theorem nch_contains (b : UInt8) : ([97, 98, 99, 100, 101, 102, 103, 104, 105, 106, 107, 108, 109, 110, 111, 112, 113, 114, 115, 116, 117, 118, 119, 120, 121, 122, 48, 49, 50, 51, 52, 53, 54, 55, 56, 57, 95] : List UInt8).contains b = nch b.toNat := by
 have key : ∀ z : Fin 256, ([97, 98, 99, 100, 101, 102, 103, 104, 105, 106, 107, 108, 109, 110, 111, 112, 113, 114, 115, 116, 117, 118, 119, 120, 121, 122, 48, 49, 50, 51, 52, 53, 54, 55, 56, 57, 95] : List UInt8).contains (UInt8.ofNat z.val) = nch (z.val : Nat) := by decide +kernel
 have := key ⟨b.toNat, b.toNat_lt⟩
 simpa using this
theorem impl_NameRight_f (s : ByteArray) : Ge.f s = some (NameP s) := by
 unfold Ge.f NameP
 by_cases h1 : (s.size : Int) ≥ 1
 ·rw [if_pos h1, decide_eq_true (p := 1 ≤ s.size) (by omega)]
  by_cases h2 : (s.size : Int) ≤ 20
  ·rw [if_pos h2, decide_eq_true (p := s.size ≤ 20) (by omega), if_pos (by omega)]
   unfold lowc
   by_cases h3 : bt s 0 ≥ 97
   ·rw [if_pos h3, decide_eq_true (p := 97 ≤ bt s 0) h3]
    by_cases h4 : bt s 0 ≤ 122
    ·rw [if_pos h4, decide_eq_true h4]
     unfold Qx.f
     rw [if_pos ⟨by omega, by decide, by decide⟩]
     simp only [Option.bind_some, Bool.true_and]
     congr 1
     rw [Go.Lib.toList_data]
     show (Lib.trimS s.data.toList _ == []) = _
     rw [trim_nil]
     unfold bytesOf
     rw [List.all_map]
     congr 1
     funext b
     exact nch_contains b
    ·rw [if_neg h4, decide_eq_false h4]; rfl
   ·rw [if_neg h3, decide_eq_false (p := 97 ≤ bt s 0) h3]; rfl
  ·rw [if_neg h2, decide_eq_false (p := s.size ≤ 20) (by omega)]; rfl
 ·rw [if_neg h1, decide_eq_false (p := 1 ≤ s.size) (by omega)]; rfl
def ValueP (s : ByteArray) : Bool := decide (1 ≤ s.size) && decide (s.size ≤ 40) && ((NormP s).toList != ([] : List UInt8))
theorem spec_l02Value_f (s : ByteArray) (k : Nat) (hk : 100 ≤ k) : Qj.f k s = some (ValueP s) := by
 unfold Qj.f ValueP
 by_cases h1 : (s.size : Int) ≥ 1
 ·by_cases h2 : (s.size : Int) ≤ 40
  ·rw [if_pos h1, if_pos h2, spec_Norm_f s k (by omega), decide_eq_true (p := 1 ≤ s.size) (by omega), decide_eq_true (p := s.size ≤ 40) (by omega)]
   simp
  ·rw [if_pos h1, if_neg h2, decide_eq_false (p := s.size ≤ 40) (by omega)]; simp
 ·rw [if_neg h1, decide_eq_false (p := 1 ≤ s.size) (by omega)]; simp
theorem impl_isProper_f (s : ByteArray) (k : Nat) (hk : 100 ≤ k) : Gm.f k s = some (ValueP s) := by
 unfold Gm.f ValueP
 by_cases h1 : (s.size : Int) ≥ 1
 ·by_cases h2 : (s.size : Int) ≤ 40
  ·rw [if_pos h1, if_pos h2, impl_Norm_f s k (by omega), decide_eq_true (p := 1 ≤ s.size) (by omega), decide_eq_true (p := s.size ≤ 40) (by omega)]
   simp
  ·rw [if_pos h1, if_neg h2, decide_eq_false (p := s.size ≤ 40) (by omega)]; simp
 ·rw [if_neg h1, decide_eq_false (p := 1 ≤ s.size) (by omega)]; simp
abbrev Nd := S64
def innerP (n : Nd) : Bool := (n.f1.toList == ([] : List UInt8)) && (n.f2.toList == ([] : List UInt8)) && decide (1 ≤ n.f3) && decide (n.f3 ≤ 20) && (decide (n.f0 = 1) || decide (n.f0 = 2) || (decide (n.f0 = 3) && decide (n.f3 = 1)))
def leafP (n : Nd) : Bool := NameP n.f1 && decide (n.f3 = 0) && ((decide (n.f0 = 5) && (n.f2.toList == ([] : List UInt8))) || ((decide (n.f0 = 4) || decide (n.f0 = 6) || decide (n.f0 = 7) || decide (n.f0 = 8)) && ValueP n.f2))
def pmany (p : List Nd → Option (Nat × Nat)) : Nat → List Nd → Option (Nat × Nat)
 | 0, _ => some (0, 0)
 | m + 1, l => (p l).bind fun x => (pmany p m (l.drop x.1)).bind fun y => some (x.1 + y.1, max x.2 y.2)
def pnode : Nat → List Nd → Option (Nat × Nat)
 | 0, _ => none
 | _ + 1, [] => none
 | f + 1, n :: rest => if innerP n = true then (pmany (pnode f) n.f3.toNat rest).bind fun x => some (x.1 + 1, x.2 + 1) else if leafP n = true then some (1, 1) else none
theorem pmany_le (p : List Nd → Option (Nat × Nat)) (hp : ∀ l x, p l = some x → 1 ≤ x.1 ∧ x.1 ≤ l.length ∧ 1 ≤ x.2 ∧ x.2 ≤ x.1) : ∀ (m : Nat) (l : List Nd) (x : Nat × Nat), pmany p m l = some x → m ≤ x.1 ∧ x.1 ≤ l.length ∧ x.2 ≤ x.1
 | 0, l, x, h => by
  simp only [pmany, Option.some.injEq] at h
  rw [← h]; simp
 | m + 1, l, x, h => by
  simp only [pmany] at h
  obtain ⟨a, ha, h⟩ := Option.bind_eq_some_iff.1 h
  obtain ⟨b, hb, h⟩ := Option.bind_eq_some_iff.1 h
  have h1 := hp l a ha
  have h2 := pmany_le p hp m _ b hb
  rw [List.length_drop] at h2
  simp only [Option.some.injEq] at h
  rw [← h]
  show m + 1 ≤ a.1 + b.1 ∧ a.1 + b.1 ≤ l.length ∧ max a.2 b.2 ≤ a.1 + b.1
  omega
theorem pnode_le : ∀ (f : Nat) (l : List Nd) (x : Nat × Nat), pnode f l = some x → 1 ≤ x.1 ∧ x.1 ≤ l.length ∧ 1 ≤ x.2 ∧ x.2 ≤ x.1
 | 0, l, x, h => by simp [pnode] at h
 | f + 1, [], x, h => by simp [pnode] at h
 | f + 1, n :: rest, x, h => by
  simp only [pnode] at h
  split at h
  ·obtain ⟨a, ha, h⟩ := Option.bind_eq_some_iff.1 h
   have h2 := pmany_le (pnode f) (pnode_le f) _ _ a ha
   simp only [Option.some.injEq] at h
   rw [← h, List.length_cons]
   show 1 ≤ a.1 + 1 ∧ a.1 + 1 ≤ rest.length + 1 ∧ 1 ≤ a.2 + 1 ∧ a.2 + 1 ≤ a.1 + 1
   omega
  ·split at h
   ·simp only [Option.some.injEq] at h
    rw [← h, List.length_cons]
    show 1 ≤ 1 ∧ 1 ≤ rest.length + 1 ∧ 1 ≤ 1 ∧ 1 ≤ 1
    omega
   ·cases h
theorem beqd (x y : Int) : (x == y) = decide (x = y) := by by_cases h : x = y <;> simp [h]
theorem op_cases (op : Int) : op = 1 ∨ op = 2 ∨ op = 3 ∨ op = 4 ∨ op = 5 ∨ op = 6 ∨ op = 7 ∨ op = 8 ∨ (op ≠ 1 ∧ op ≠ 2 ∧ op ≠ 3 ∧ op ≠ 4 ∧ op ≠ 5 ∧ op ≠ 6 ∧ op ≠ 7 ∧ op ≠ 8) := by omega
theorem spec_l04Node_f (op : Int) (a v : ByteArray) (m : Int) (k : Nat) (hk : 102 ≤ k) : Qp.f k op a v m = some (innerP ⟨op, a, v, m⟩ || leafP ⟨op, a, v, m⟩) := by
 obtain ⟨k, rfl⟩ : ∃ q, k = q + 2 := ⟨k - 2, by omega⟩
 have hl : Qg.f m 1 20 = some (decide (1 ≤ m) && decide (m ≤ 20)) := by
  unfold Qg.f
  by_cases h : m ≥ 1
  ·rw [if_pos h, decide_eq_true (p := 1 ≤ m) h]; rfl
  ·rw [if_neg h, decide_eq_false (p := 1 ≤ m) h]; rfl
 have hj1 : ∀ b : Bool, Qp.j1 (k + 1) b op a v m = some (b && NameP a && ValueP v && decide (m = 0)) := by
  intro b
  rw [Qp.j1, spec_NameRight_f _ k (by omega), spec_l02Value_f _ k (by omega)]
  cases b <;> cases NameP a <;> cases ValueP v <;> simp [beqd]
 unfold Qp.f innerP leafP
 simp only [Qp.j0, hl, spec_NameRight_f a (k + 1) (by omega), hj1, beqd]
 by_cases ha : a.toList = [] <;> by_cases hv : v.toList = [] <;> (rcases op_cases op with rfl | rfl | rfl | rfl | rfl | rfl | rfl | rfl | h) <;> cases NameP a <;> cases ValueP v <;> simp [ha, hv] <;> simp_all <;> (by_cases hm : m = 1 <;> simp [hm])
theorem inner_many (n : Nd) (h : innerP n = true) : 1 ≤ n.f3 ∧ n.f3 ≤ 20 := by
 unfold innerP at h
 simp only [Bool.and_eq_true, decide_eq_true_eq] at h
 exact ⟨h.1.1.2, h.1.2⟩
theorem leaf_many (n : Nd) (h : leafP n = true) : n.f3 = 0 := by
 unfold leafP at h
 simp only [Bool.and_eq_true, decide_eq_true_eq] at h
 exact h.1.2
theorem nd_drop (l : List Nd) (i : Int) (h0 : 0 ≤ i) (h1 : i < l.length) : l.drop i.toNat = rd_T64 l i :: l.drop (i.toNat + 1) := by
 have hi : i.toNat < l.length := by omega
 rw [List.drop_eq_getElem_cons hi]
 congr 1
 unfold rd_T64
 rw [List.getD_eq_getElem?_getD, List.getElem?_eq_getElem hi]; rfl
def encE (at_ : Nat) (deep : Nat) : Option (Nat × Nat) → Int
 | none => -1
 | some x => if deep + x.2 ≤ 6 then ((at_ + x.1 : Nat) : Int) else -1
theorem spec_End_l0 (L : List Nd) (hL : L.length ≤ 20) (fl deep : Nat) (hd : deep ≤ 5)
  (ih : ∀ (k p : Nat), 110 + 30 * fl ≤ k → (L.drop p).length ≤ fl → p ≤ 20 → Qk.f k L (p : Int) ((deep + 1 : Nat) : Int) = some (encE p (deep + 1) (pnode fl (L.drop p)))) :
  ∀ (m k p : Nat), 111 + 30 * fl + m ≤ k → (L.drop p).length ≤ fl → p ≤ 20 → m ≤ 20 →
   Qk.l0 k L (p : Int) (deep : Int) (m : Int) = some (encE p (deep + 1) (pmany (pnode fl) m (L.drop p)))
 | 0, k, p, hk, hl, hp, hm => by
  obtain ⟨k, rfl⟩ : ∃ q, k = q + 1 := ⟨k - 1, by omega⟩
  rw [Qk.l0, if_neg (by omega)]
  simp only [pmany, encE]
  rw [if_pos (by omega)]; rfl
 | m + 1, k, p, hk, hl, hp, hm => by
  obtain ⟨k, rfl⟩ : ∃ q, k = q + 1 := ⟨k - 1, by omega⟩
  rw [Qk.l0, if_pos (by omega), if_pos (by omega), w64 (x := (deep : Int) + 1) (by omega) (by omega), w64 (x := ((m + 1 : Nat) : Int) - 1) (by omega) (by omega),
   show ((m + 1 : Nat) : Int) - 1 = (m : Int) by omega, show (deep : Int) + 1 = ((deep + 1 : Nat) : Int) by omega, ih k p (by omega) hl hp]
  simp only [Option.bind_some]
  have neg : Qk.l0 k L (-1) (deep : Int) (m : Int) = some (-1) := by
   obtain ⟨k, rfl⟩ : ∃ q, k = q + 1 := ⟨k - 1, by omega⟩
   rw [Qk.l0, if_neg (show ¬ ((-1 : Int) ≥ 0) by omega)]
   split <;> rfl
  simp only [pmany]
  cases hn : pnode fl (L.drop p) with
  | none => simp only [encE, Option.bind_none]; exact neg
  | some x =>
   have hx := pnode_le _ _ _ hn
   rw [List.length_drop] at hx hl
   simp only [Option.bind_some]
   by_cases h6 : deep + 1 + x.2 ≤ 6
   ·rw [show encE p (deep + 1) (some x) = ((p + x.1 : Nat) : Int) by simp only [encE]; rw [if_pos h6],
     spec_End_l0 L hL fl deep hd ih m k (p + x.1) (by omega) (by rw [List.length_drop]; omega) (by omega) (by omega), ← List.drop_drop]
    cases hm2 : pmany (pnode fl) m ((L.drop p).drop x.1) with
    | none => simp [encE]
    | some y =>
     simp only [Option.bind_some, encE]
     congr 1
     by_cases h7 : deep + 1 + y.2 ≤ 6
     ·rw [if_pos h7, if_pos (by omega), Nat.add_assoc]
     ·rw [if_neg h7, if_neg (by omega)]
   ·rw [show encE p (deep + 1) (some x) = -1 by simp only [encE]; rw [if_neg h6], neg]
    cases hm2 : pmany (pnode fl) m ((L.drop p).drop x.1) with
    | none => simp [encE]
    | some y =>
     simp only [Option.bind_some, encE]
     rw [if_neg (by omega)]
theorem spec_End_f (L : List Nd) (hL : L.length ≤ 20) : ∀ (fl k p deep : Nat), 110 + 30 * fl ≤ k → (L.drop p).length ≤ fl → p ≤ 20 → 1 ≤ deep → deep ≤ 6 →
  Qk.f k L (p : Int) (deep : Int) = some (encE p deep (pnode fl (L.drop p)))
 | fl, k, p, deep, hk, hl, hp, h1, hd => by
  obtain ⟨k, rfl⟩ : ∃ q, k = q + 2 := ⟨k - 2, by omega⟩
  rw [Qk.f]
  have neg : ∀ k, Qk.j0 (k + 1) L (p : Int) (deep : Int) true = some (-1) := fun k => by rw [Qk.j0, if_pos rfl]
  by_cases hp2 : (p : Int) ≥ (L.length : Int)
  ·rw [if_pos hp2, neg, List.drop_of_length_le (by omega)]
   cases fl <;> rfl
  ·rw [if_neg hp2]
   by_cases h5 : (deep : Int) > 5
   ·rw [if_pos h5, neg]
    cases hn : pnode fl (L.drop p) with
    | none => rfl
    | some x =>
     have hx := pnode_le _ _ _ hn
     simp only [encE]
     rw [if_neg (by omega)]
   ·rw [if_neg h5, if_pos (by omega), if_pos (by omega), spec_l04Node_f _ _ _ _ (k + 1) (by omega)]
    simp only [Option.bind_some]
    have hdr := nd_drop L p (by omega) (by omega)
    rw [show (p : Int).toNat = p from rfl] at hdr
    rw [List.length_drop] at hl
    match fl, hl, hk with
    | 0, hl, hk => omega
    | fl + 1, hl, hk =>
     rw [hdr]
     simp only [pnode]
     show Qk.j0 (k + 1) L (p : Int) (deep : Int) (!(innerP (rd_T64 L p) || leafP (rd_T64 L p))) = _
     have loop := fun m hm => spec_End_l0 L hL fl deep (by omega) (fun k p hk hl hp => spec_End_f L hL fl k p (deep + 1) hk hl hp (by omega) (by omega)) m k (p + 1) (by omega) (by rw [List.length_drop]; omega) (by omega) hm
     by_cases hin : innerP (rd_T64 L p) = true
     ·have hm := inner_many _ hin
      rw [hin, if_pos rfl, Bool.true_or, Qk.j0, if_neg (by simp), if_pos (by omega), if_pos (by omega), w64 (x := (p : Int) + 1) (by omega) (by omega),
       show (rd_T64 L p).f3 = (((rd_T64 L p).f3.toNat : Nat) : Int) by omega, show (p : Int) + 1 = ((p + 1 : Nat) : Int) by omega, loop _ (by omega)]
      simp only [Int.toNat_natCast]
      cases hm2 : pmany (pnode fl) (rd_T64 L p).f3.toNat (L.drop (p + 1)) with
      | none => rfl
      | some y =>
       simp only [Option.bind_some, encE]
       congr 1
       by_cases h7 : deep + 1 + y.2 ≤ 6
       ·rw [if_pos h7, if_pos (by omega)]; omega
       ·rw [if_neg h7, if_neg (by omega)]
     ·rw [Bool.eq_false_iff.2 hin, Bool.false_or, if_neg (by simp)]
      by_cases hle : leafP (rd_T64 L p) = true
      ·have hm := leaf_many _ hle
       rw [hle, if_pos rfl, Qk.j0, if_neg (by simp), if_pos (by omega), if_pos (by omega), w64 (x := (p : Int) + 1) (by omega) (by omega), hm, show (p : Int) + 1 = ((p + 1 : Nat) : Int) by omega]
       have := loop 0 (by omega)
       rw [show ((0 : Nat) : Int) = 0 from rfl] at this
       rw [this]
       simp only [pmany, encE]
      ·rw [Bool.eq_false_iff.2 hle, if_neg (by simp), Bool.not_false, neg]
       rfl
def encD : Option (Nat × Nat) → Int × Int
 | none => (0, 0)
 | some x => ((x.1 : Int), (x.2 : Int))
theorem impl_depth_l0 (L : List Nd) (hL : L.length ≤ 20) (fl : Nat) (m : Nat) (hm : m ≤ 20)
  (ih : ∀ (k p : Nat), 110 + 30 * fl ≤ k → (L.drop p).length ≤ fl → Gg.f k (L.drop p) = some (encD (pnode fl (L.drop p)))) :
  ∀ (d k p D : Nat), 111 + 30 * fl + d ≤ k → (L.drop p).length ≤ fl → 1 ≤ p → p ≤ L.length → D ≤ p → d ≤ m →
   Gg.l0 k L (p : Int) (D : Int) (m : Int) ((m - d : Nat) : Int) = some (match pmany (pnode fl) d (L.drop p) with | none => (0, 0) | some x => (((p + x.1 : Nat) : Int), ((max D x.2 + 1 : Nat) : Int)))
 | 0, k, p, D, hk, hl, h1, hp, hD, hd => by
  obtain ⟨k, rfl⟩ : ∃ q, k = q + 1 := ⟨k - 1, by omega⟩
  rw [Gg.l0, if_neg (by omega), w64 (x := (D : Int) + 1) (by omega) (by omega)]
  simp only [pmany]
  rw [show max D 0 = D by omega]; rfl
 | d + 1, k, p, D, hk, hl, h1, hp, hD, hd => by
  obtain ⟨k, rfl⟩ : ∃ q, k = q + 1 := ⟨k - 1, by omega⟩
  rw [Gg.l0, if_pos (by omega), if_pos (by omega), if_pos (by omega), show (p : Int).toNat = p from rfl, ih k p (by omega) hl]
  simp only [Option.bind_some, pmany]
  cases hn : pnode fl (L.drop p) with
  | none => simp [encD]
  | some x =>
   have hx := pnode_le _ _ _ hn
   rw [List.length_drop] at hx hl
   simp only [Option.bind_some]
   rw [show encD (some x) = ((x.1 : Int), (x.2 : Int)) from rfl]
   dsimp only
   rw [if_neg (by omega), w64 (x := (p : Int) + (x.1 : Int)) (by omega) (by omega), w64 (x := ((m - (d + 1) : Nat) : Int) + 1) (by omega) (by omega),
    show (p : Int) + (x.1 : Int) = ((p + x.1 : Nat) : Int) by omega, show ((m - (d + 1) : Nat) : Int) + 1 = ((m - d : Nat) : Int) by omega,
    show mx (D : Int) (x.2 : Int) = ((max D x.2 : Nat) : Int) by unfold mx; split <;> omega,
    impl_depth_l0 L hL fl m hm ih d k (p + x.1) (max D x.2) (by omega) (by rw [List.length_drop]; omega) (by omega) (by omega) (by omega) (by omega), ← List.drop_drop]
   cases hm2 : pmany (pnode fl) d ((L.drop p).drop x.1) with
   | none => simp
   | some y =>
    simp only [Option.bind_some]
    rw [Nat.add_assoc, show max (max D x.2) y.2 = max D (max x.2 y.2) by omega]
theorem impl_depth_f : ∀ (fl k : Nat) (L : List Nd), L.length ≤ 20 → 110 + 30 * fl ≤ k → L.length ≤ fl → Gg.f k L = some (encD (pnode fl L))
 | fl, k, [], hL, hk, hl => by
  obtain ⟨k, rfl⟩ : ∃ q, k = q + 1 := ⟨k - 1, by omega⟩
  rw [Gg.f, if_pos (show ((([] : List Nd).length : Nat) : Int) = 0 from rfl)]
  cases fl <;> rfl
 | 0, k, n :: rest, hL, hk, hl => by simp at hl
 | fl + 1, k, ⟨op, a, v, m⟩ :: rest, hL, hk, hl => by
  obtain ⟨k, rfl⟩ : ∃ q, k = q + 3 := ⟨k - 3, by omega⟩
  rw [List.length_cons] at hl hL
  have loop : ∀ h : 0 ≤ m ∧ m ≤ 20, Gg.l0 k (⟨op, a, v, m⟩ :: rest) 1 0 m 0 = some (match pmany (pnode fl) m.toNat rest with | none => (0, 0) | some x => (((1 + x.1 : Nat) : Int), ((max 0 x.2 + 1 : Nat) : Int))) := by
   intro h
   have := impl_depth_l0 (⟨op, a, v, m⟩ :: rest) (by rw [List.length_cons]; omega) fl m.toNat (by omega) (fun k p hk hl => impl_depth_f fl k _ (by rw [List.length_drop, List.length_cons]; omega) hk hl) m.toNat k 1 0 (by omega) (by simp; omega) (by omega) (by simp) (by omega) (by omega)
   rw [Nat.sub_self, Int.toNat_of_nonneg h.1] at this
   exact this
  have hj3 : ∀ b : Bool, Gg.j3 (k + 1) b op a v m = some (if (b && NameP a && ValueP v && decide (m = 0)) = true then (1, 1) else (0, 0)) := by
   intro b
   rw [Gg.j3, impl_NameRight_f, impl_isProper_f _ k (by omega)]
   cases b <;> cases NameP a <;> cases ValueP v <;> by_cases hm : m = 0 <;> simp [hm]
  have hj1 : ∀ b : Bool, Gg.j1 (k + 1) (⟨op, a, v, m⟩ :: rest) b op a v m = if b = true then some (0, 0) else Gg.l0 k (⟨op, a, v, m⟩ :: rest) 1 0 m 0 := fun b => by rw [Gg.j1]
  have hz : rd_T64 (⟨op, a, v, m⟩ :: rest) 0 = ⟨op, a, v, m⟩ := rfl
  rw [Gg.f, if_neg (by rw [List.length_cons]; omega), if_pos (by rw [List.length_cons]; omega), hz]
  simp only [Gg.j0, impl_NameRight_f, hj1, hj3, pnode, beqd]
  by_cases hin : innerP ⟨op, a, v, m⟩ = true
  ·have hmm := inner_many _ hin
   have hmm : 1 ≤ m ∧ m ≤ 20 := hmm
   rw [if_pos hin, loop ⟨by omega, by omega⟩]
   have e : (match pmany (pnode fl) m.toNat rest with | none => ((0, 0) : Int × Int) | some x => (((1 + x.1 : Nat) : Int), ((max 0 x.2 + 1 : Nat) : Int))) = encD ((pmany (pnode fl) m.toNat rest).bind fun x => some (x.1 + 1, x.2 + 1)) := by
    cases pmany (pnode fl) m.toNat rest with
    | none => rfl
    | some x => simp only [Option.bind_some, encD]; congr 1 <;> omega
   rw [e]
   unfold innerP at hin
   simp only [Bool.and_eq_true, Bool.or_eq_true, decide_eq_true_eq, beq_iff_eq] at hin
   obtain ⟨⟨⟨⟨ha, hv⟩, hm1⟩, hm2⟩, hop⟩ := hin
   rcases hop with (rfl | rfl) | ⟨rfl, rfl⟩
   ·simp [ha, hv, show ¬ m < 1 by omega, show ¬ 20 < m by omega]
   ·simp [ha, hv, show ¬ m < 1 by omega, show ¬ 20 < m by omega]
   ·simp [ha, hv]
  ·rw [if_neg hin]
   have key : (if leafP ⟨op, a, v, m⟩ = true then some (1, 1) else none : Option (Nat × Nat)) = if leafP ⟨op, a, v, m⟩ = true then some (1, 1) else none := rfl
   have e2 : encD (if leafP ⟨op, a, v, m⟩ = true then some (1, 1) else none) = if leafP ⟨op, a, v, m⟩ = true then (1, 1) else (0, 0) := by split <;> rfl
   rw [e2]
   unfold innerP at hin
   unfold leafP
   by_cases ha : a.toList = [] <;> by_cases hv : v.toList = [] <;> (rcases op_cases op with rfl | rfl | rfl | rfl | rfl | rfl | rfl | rfl | h) <;> cases NameP a <;> cases ValueP v <;> simp [ha, hv] at hin ⊢ <;> first | (intros; exfalso; omega) | (simp_all; done) | (split <;> rfl)
def FilterP (l : List Nd) : Bool := decide (l.length ≤ 20) && (match pnode 20 l with | none => false | some x => decide (x.1 = l.length) && decide (x.2 ≤ 5))
theorem spec_FilterRight_f (l : List Nd) (k : Nat) (hk : 710 ≤ k) : Gy.f k l = some (FilterP l) := by
 unfold Gy.f FilterP
 by_cases h : (l.length : Int) ≤ 20
 ·have := spec_End_f l (by omega) 20 k 0 1 (by omega) (by rw [List.drop_zero]; omega) (by omega) (by omega) (by omega)
  rw [if_pos h, show (0 : Int) = ((0 : Nat) : Int) from rfl, show (1 : Int) = ((1 : Nat) : Int) from rfl, this, List.drop_zero, decide_eq_true (p := l.length ≤ 20) (by omega)]
  simp only [Option.bind_some, Bool.true_and]
  congr 1
  cases hn : pnode 20 l with
  | none => rw [show encE 0 1 none = -1 from rfl, beq_eq_false_iff_ne.2 (by omega)]
  | some x =>
   rw [show encE 0 1 (some x) = if 1 + x.2 ≤ 6 then ((0 + x.1 : Nat) : Int) else -1 from rfl]
   dsimp only
   by_cases h2 : 1 + x.2 ≤ 6
   ·rw [if_pos h2, decide_eq_true (p := x.2 ≤ 5) (by omega), Bool.and_true, Nat.zero_add]
    by_cases h3 : x.1 = l.length
    ·rw [decide_eq_true h3, beq_iff_eq.2 (by omega)]
    ·rw [decide_eq_false h3, beq_eq_false_iff_ne.2 (by omega)]
   ·rw [if_neg h2, decide_eq_false (p := x.2 ≤ 5) (by omega), Bool.and_false, beq_eq_false_iff_ne.2 (by omega)]
 ·rw [if_neg h, decide_eq_false (p := l.length ≤ 20) (by omega)]; rfl
theorem impl_FilterRight_f (l : List Nd) (k : Nat) (hk : 710 ≤ k) : Gc.f k l = some (FilterP l) := by
 unfold Gc.f FilterP
 by_cases h : (l.length : Int) > 20
 ·rw [if_pos h, decide_eq_false (p := l.length ≤ 20) (by omega)]; rfl
 ·rw [if_neg h, impl_depth_f 20 k l (by omega) (by omega) (by omega), decide_eq_true (p := l.length ≤ 20) (by omega)]
  simp only [Option.bind_some, Bool.true_and]
  cases hn : pnode 20 l with
  | none => rfl
  | some x =>
   have hx := pnode_le _ _ _ hn
   rw [show encD (some x) = ((x.1 : Int), (x.2 : Int)) from rfl]
   dsimp only
   rw [if_pos (by omega)]
   by_cases h3 : x.1 = l.length
   ·rw [if_pos (by omega), decide_eq_true h3, Bool.true_and]
    by_cases h2 : x.2 ≤ 5
    ·rw [decide_eq_true h2, decide_eq_true (by omega)]
    ·rw [decide_eq_false h2, decide_eq_false (by omega)]
   ·rw [if_neg (by omega), decide_eq_false h3]; rfl
theorem NameP_size {s : ByteArray} (h : NameP s = true) : 1 ≤ s.size ∧ s.size ≤ 20 := by
 unfold NameP at h
 simp only [Bool.and_eq_true, decide_eq_true_eq] at h
 exact ⟨h.1.1.1, h.1.1.2⟩
theorem ValueP_size {s : ByteArray} (h : ValueP s = true) : 1 ≤ s.size ∧ s.size ≤ 40 := by
 unfold ValueP at h
 simp only [Bool.and_eq_true, decide_eq_true_eq] at h
 exact ⟨h.1.1, h.1.2⟩
theorem bt_drop (s : ByteArray) (i : Int) (h0 : 0 ≤ i) (h1 : i < s.size) : (bytesOf s).drop i.toNat = bt s i :: (bytesOf s).drop (i + 1).toNat := by
 have hi : i.toNat < (bytesOf s).length := by rw [bytesOf_length]; omega
 rw [List.drop_eq_getElem_cons hi, show (i + 1).toNat = i.toNat + 1 by omega]
 congr 1
 have h2 := rd_bytesOf s i
 unfold rd at h2
 rw [List.getD_eq_getElem?_getD, List.getElem?_eq_getElem hi] at h2
 exact h2
theorem one_of_bt (b : Int) (h0 : 0 ≤ b) : Gd.one b = if b = 42 then bytesOf (⟨#[92, 50, 97]⟩ : ByteArray) else if b = 40 then bytesOf (⟨#[92, 50, 56]⟩ : ByteArray) else if b = 41 then bytesOf (⟨#[92, 50, 57]⟩ : ByteArray) else if b = 92 then bytesOf (⟨#[92, 53, 99]⟩ : ByteArray) else [b] := by
 obtain ⟨n, rfl⟩ := Int.eq_ofNat_of_zero_le h0
 unfold Gd.one Gd.rpl
 rw [Int.toNat_natCast]
 by_cases h1 : n = 42
 ·subst h1; rfl
 ·by_cases h2 : n = 40
  ·subst h2; rfl
  ·by_cases h3 : n = 41
   ·subst h3; rfl
   ·by_cases h4 : n = 92
    ·subst h4; rfl
    ·rw [if_neg h1, if_neg h2, if_neg h3, if_neg h4, if_pos rfl, if_neg (by omega), if_neg (by omega), if_neg (by omega), if_neg (by omega)]
theorem l04Escape_l0 (s : ByteArray) (hs : s.size ≤ 1000) : ∀ (d k : Nat) (x : List Int) (i : Int), 0 ≤ i → i + d = s.size → d < k → x.length + 3 * d ≤ 4000 → Qm.l0 k s x i = some (strOfNums (x ++ Gd.escL ((bytesOf s).drop i.toNat)))
 | 0, k, x, i, h0, hi, hk, hx => by
  obtain ⟨k, rfl⟩ : ∃ q, k = q + 1 := ⟨k - 1, by omega⟩
  rw [Qm.l0, if_neg (by omega), List.drop_of_length_le (by rw [bytesOf_length]; omega)]
  simp [Gd.escL]
 | d + 1, k, x, i, h0, hi, hk, hx => by
  obtain ⟨k, rfl⟩ : ∃ q, k = q + 1 := ⟨k - 1, by omega⟩
  have hb := (bt_range s i).1
  have hl : ∀ y : List Int, y.length ≤ 3 → Qm.l0 k s (x ++ y) (wrap64 (i + 1)) = some (strOfNums ((x ++ y) ++ Gd.escL ((bytesOf s).drop (i + 1).toNat))) := fun y hy => by
   rw [w64 (x := i + 1) (by omega) (by omega)]
   exact l04Escape_l0 s hs d k _ (i + 1) (by omega) (by omega) (by omega) (by rw [List.length_append]; omega)
  rw [bt_drop s i h0 (by omega), show bt s i :: (bytesOf s).drop (i + 1).toNat = [bt s i] ++ (bytesOf s).drop (i + 1).toNat from rfl, Gd.escL_append, show Gd.escL [bt s i] = Gd.one (bt s i) from by simp [Gd.escL], one_of_bt _ hb, Qm.l0, if_pos (by omega), if_pos h0, ← List.append_assoc]
  by_cases h1 : bt s i = 42
  ·rw [if_pos h1, if_pos h1, if_pos (by omega)]; exact hl _ (by decide)
  ·rw [if_neg h1, if_neg h1]
   by_cases h2 : bt s i = 40
   ·rw [if_pos h2, if_pos h2, if_pos (by omega)]; exact hl _ (by decide)
   ·rw [if_neg h2, if_neg h2]
    by_cases h3 : bt s i = 41
    ·rw [if_pos h3, if_pos h3, if_pos (by omega)]; exact hl _ (by decide)
    ·rw [if_neg h3, if_neg h3]
     by_cases h4 : bt s i = 92
     ·rw [if_pos h4, if_pos h4, if_pos (by omega)]; exact hl _ (by decide)
     ·rw [if_neg h4, if_neg h4, if_pos (by omega)]; exact hl _ (by simp)
theorem l04Escape_f (s : ByteArray) (hs : s.size ≤ 1000) (k : Nat) (hk : s.size < k) : Qm.f k s = some (Gd.esc s) := by
 unfold Qm.f Gd.esc
 rw [l04Escape_l0 s hs s.size k [] 0 (by omega) (by omega) hk (by simp; omega)]
 rfl
theorem esc_size (s : ByteArray) : (Gd.esc s).size ≤ 3 * s.size := by
 unfold Gd.esc
 rw [strOfNums_size, Gd.escL_length, bytesOf_length]
 have : Gd.hits (bytesOf s) ≤ s.size := by rw [← bytesOf_length s]; exact List.length_filter_le _ _
 omega
def leafT (n : Nd) : ByteArray := if n.f0 = 4 then n.f1 ++ (⟨#[61]⟩ : ByteArray) ++ Gd.esc n.f2 else if n.f0 = 5 then n.f1 ++ (⟨#[61, 42]⟩ : ByteArray) else if n.f0 = 6 then n.f1 ++ (⟨#[61]⟩ : ByteArray) ++ Gd.esc n.f2 ++ (⟨#[42]⟩ : ByteArray) else if n.f0 = 7 then n.f1 ++ (⟨#[62, 61]⟩ : ByteArray) ++ Gd.esc n.f2 else n.f1 ++ (⟨#[60, 61]⟩ : ByteArray) ++ Gd.esc n.f2
def tmany (g : List Nd → ByteArray) (p : List Nd → Option (Nat × Nat)) : Nat → List Nd → ByteArray
 | 0, _ => ⟨#[]⟩
 | m + 1, l => match p l with | none => ⟨#[]⟩ | some x => g l ++ tmany g p m (l.drop x.1)
def tnode : Nat → List Nd → ByteArray
 | 0, _ => ⟨#[]⟩
 | _ + 1, [] => ⟨#[]⟩
 | f + 1, n :: rest => (⟨#[40]⟩ : ByteArray) ++ (if innerP n = true then Gd.opt n.f0 ++ tmany (tnode f) (pnode f) n.f3.toNat rest else leafT n) ++ (⟨#[41]⟩ : ByteArray)
theorem leaf_cases (n : Nd) (h : leafP n = true) : (4 ≤ n.f0 ∧ n.f0 ≤ 8) ∧ n.f1.size ≤ 20 ∧ n.f2.size ≤ 40 ∧ n.f3 = 0 := by
 unfold leafP at h
 simp only [Bool.and_eq_true, Bool.or_eq_true, decide_eq_true_eq, beq_iff_eq] at h
 obtain ⟨⟨h1, h2⟩, h3⟩ := h
 have h4 := NameP_size h1
 rcases h3 with ⟨h5, h6⟩ | ⟨h5, h6⟩
 ·have : n.f2.size = 0 := by
   have e := Go.Lib.toList_data n.f2
   rw [h6] at e
   have e2 : n.f2.data.toList.length = 0 := by rw [← e]; rfl
   rw [← data_length]; exact e2
  omega
 ·have h7 := ValueP_size h6
  omega
theorem inner_cases (n : Nd) (h : innerP n = true) : (n.f0 = 1 ∨ n.f0 = 2 ∨ n.f0 = 3) ∧ n.f1.size = 0 ∧ n.f2.size = 0 ∧ 1 ≤ n.f3 ∧ n.f3 ≤ 20 := by
 have hz : ∀ s : ByteArray, s.toList = ([] : List UInt8) → s.size = 0 := fun s hs => by
  have e := Go.Lib.toList_data s
  rw [hs] at e
  rw [← data_length, ← e]; rfl
 have h3 := inner_many n h
 unfold innerP at h
 simp only [Bool.and_eq_true, Bool.or_eq_true, decide_eq_true_eq, beq_iff_eq] at h
 obtain ⟨⟨⟨⟨h1, h2⟩, _⟩, _⟩, h5⟩ := h
 refine ⟨?_, hz _ h1, hz _ h2, h3.1, h3.2⟩
 rcases h5 with (h5 | h5) | h5
 ·exact .inl h5
 ·exact .inr (.inl h5)
 ·exact .inr (.inr h5.1)
theorem leafT_size (n : Nd) (h : leafP n = true) : (leafT n).size ≤ 200 := by
 obtain ⟨_, h1, h2, _⟩ := leaf_cases n h
 have h3 := esc_size n.f2
 have k1 : (⟨#[61]⟩ : ByteArray).size = 1 := rfl
 have k2 : (⟨#[61, 42]⟩ : ByteArray).size = 2 := rfl
 have k3 : (⟨#[42]⟩ : ByteArray).size = 1 := rfl
 have k4 : (⟨#[62, 61]⟩ : ByteArray).size = 2 := rfl
 have k5 : (⟨#[60, 61]⟩ : ByteArray).size = 2 := rfl
 unfold leafT
 repeat' split
 all_goals simp only [ByteArray.size_append, k1, k2, k3, k4, k5]
 all_goals omega
theorem opt_size (c : Int) : (Gd.opt c).size = 1 := by
 unfold Gd.opt
 repeat' split
 all_goals rfl
theorem tmany_size (fl : Nat) (ih : ∀ l x, pnode fl l = some x → (tnode fl l).size ≤ 300 * x.1) : ∀ (m : Nat) (l : List Nd) (y : Nat × Nat), pmany (pnode fl) m l = some y → (tmany (tnode fl) (pnode fl) m l).size ≤ 300 * y.1
 | 0, l, y, h => by rw [tmany]; exact Nat.zero_le _
 | m + 1, l, y, h => by
  simp only [pmany] at h
  obtain ⟨x, hx, h⟩ := Option.bind_eq_some_iff.1 h
  obtain ⟨z, hz, h⟩ := Option.bind_eq_some_iff.1 h
  obtain rfl := Option.some.inj h
  simp only [tmany, hx, ByteArray.size_append]
  have h1 := ih l x hx
  have h2 := tmany_size fl ih m _ z hz
  omega
theorem tnode_size : ∀ (fl : Nat) (l : List Nd) (x : Nat × Nat), pnode fl l = some x → (tnode fl l).size ≤ 300 * x.1
 | 0, l, x, h => by simp [pnode] at h
 | fl + 1, [], x, h => by simp [pnode] at h
 | fl + 1, n :: rest, x, h => by
  have k1 : (⟨#[40]⟩ : ByteArray).size = 1 := rfl
  have k2 : (⟨#[41]⟩ : ByteArray).size = 1 := rfl
  simp only [pnode] at h
  simp only [tnode, ByteArray.size_append, k1, k2]
  by_cases hin : innerP n = true
  ·rw [if_pos hin] at h ⊢
   obtain ⟨y, hy, h⟩ := Option.bind_eq_some_iff.1 h
   obtain rfl := Option.some.inj h
   have h1 := tmany_size fl (tnode_size fl) _ _ y hy
   rw [ByteArray.size_append, opt_size]
   show 1 + _ + 1 ≤ 300 * (y.1 + 1)
   omega
  ·rw [if_neg hin] at h ⊢
   by_cases hle : leafP n = true
   ·rw [if_pos hle] at h
    obtain rfl := Option.some.inj h
    have h1 := leafT_size n hle
    show 1 + _ + 1 ≤ 300 * 1
    omega
   ·rw [if_neg hle] at h; cases h
theorem ba_nil (t : ByteArray) : t ++ (⟨#[]⟩ : ByteArray) = t := by
 apply ba_ext
 rw [ba_data_append]
 simp
theorem ba_assoc (a b c : ByteArray) : a ++ b ++ c = a ++ (b ++ c) := ByteArray.append_assoc
theorem impl_lp (fl k : Nat) (ih : ∀ l x, pnode fl l = some x → x.1 ≤ 20 → Gd.ft k l = some (tnode fl l, l.drop x.1)) : ∀ (m : Nat) (l : List Nd) (t : ByteArray) (y : Nat × Nat), pmany (pnode fl) m l = some y → y.1 ≤ 20 → t.size + 300 * y.1 ≤ 100000 → Gd.lp (Gd.ft k) m l t = some (t ++ tmany (tnode fl) (pnode fl) m l, l.drop y.1)
 | 0, l, t, y, h, hy, hs => by
  simp only [pmany] at h
  obtain rfl := Option.some.inj h
  rw [Gd.lp, tmany, ba_nil]
  simp
 | m + 1, l, t, y, h, hy, hs => by
  simp only [pmany] at h
  obtain ⟨x, hx, h⟩ := Option.bind_eq_some_iff.1 h
  obtain ⟨z, hz, h⟩ := Option.bind_eq_some_iff.1 h
  obtain rfl := Option.some.inj h
  simp only at hy hs
  have h1 := tnode_size fl l x hx
  rw [Gd.lp, ih l x hx (by omega), Option.bind_some]
  dsimp only
  rw [if_pos (by omega), impl_lp fl k ih m _ _ z hz (by omega) (by rw [ByteArray.size_append]; omega), List.drop_drop]
  simp only [tmany, hx, ba_assoc]
theorem impl_ft : ∀ (fl k : Nat) (l : List Nd) (x : Nat × Nat), pnode fl l = some x → x.1 ≤ 20 → fl ≤ k → Gd.ft k l = some (tnode fl l, l.drop x.1)
 | 0, k, l, x, h, _, _ => by simp [pnode] at h
 | fl + 1, k, [], x, h, _, _ => by simp [pnode] at h
 | fl + 1, k, n :: rest, x, h, h20, hk => by
  obtain ⟨k, rfl⟩ : ∃ q, k = q + 1 := ⟨k - 1, by omega⟩
  have hts := tnode_size (fl + 1) (n :: rest) x h
  simp only [pnode] at h
  by_cases hin : innerP n = true
  ·rw [if_pos hin] at h
   obtain ⟨y, hy, h⟩ := Option.bind_eq_some_iff.1 h
   obtain rfl := Option.some.inj h
   obtain ⟨hop, hf1, hf2, hm1, hm2⟩ := inner_cases n hin
   have hty := tmany_size fl (tnode_size fl) _ _ y hy
   simp only at h20
   rw [Gd.ft, if_pos ⟨by omega, by omega, by omega⟩, if_pos hop, impl_lp fl k (fun l x hx h2 => impl_ft fl k l x hx h2 (by omega)) _ rest _ y hy (by omega) (by rw [opt_size]; omega), Option.bind_some]
   dsimp only
   rw [Gd.wrap, if_pos (by rw [ByteArray.size_append, opt_size]; omega)]
   simp only [tnode, if_pos hin, List.drop_succ_cons]
  ·rw [if_neg hin] at h
   by_cases hle : leafP n = true
   ·rw [if_pos hle] at h
    obtain rfl := Option.some.inj h
    obtain ⟨hop, hf1, hf2, hf3⟩ := leaf_cases n hle
    have hls := leafT_size n hle
    rw [Gd.ft, if_pos ⟨by omega, by omega, by omega⟩, if_neg (by omega)]
    simp only [tnode, if_neg hin, List.drop_succ_cons, List.drop_zero]
    unfold leafT at hls ⊢
    have hop2 : n.f0 = 4 ∨ n.f0 = 5 ∨ n.f0 = 6 ∨ n.f0 = 7 ∨ n.f0 = 8 := by omega
    rcases hop2 with h8 | h8 | h8 | h8 | h8 <;> simp only [h8] at hls ⊢ <;> simp only [reduceCtorEq, if_true, if_false, Int.reduceEq, ↓reduceIte] at hls ⊢ <;> rw [Gd.wrap, if_pos (by omega)]
   ·rw [if_neg hle] at h; cases h
theorem spec_Text_l0 (L : List Nd) (hL : L.length ≤ 20) (fl : Nat) (ih : ∀ (k p : Nat) (x : Nat × Nat), pnode fl (L.drop p) = some x → 300 + 100 * fl ≤ k → p ≤ 20 → Qs.f k L (p : Int) = some (tnode fl (L.drop p), ((p + x.1 : Nat) : Int))) :
  ∀ (m k p : Nat) (t : ByteArray) (y : Nat × Nat), pmany (pnode fl) m (L.drop p) = some y → 301 + 100 * fl + m ≤ k → p ≤ 20 → m ≤ 20 → p + y.1 ≤ 20 → t.size + 300 * y.1 ≤ 100000 →
   Qs.l0 k L (p : Int) t (m : Int) = some (t ++ tmany (tnode fl) (pnode fl) m (L.drop p) ++ (⟨#[41]⟩ : ByteArray), ((p + y.1 : Nat) : Int))
 | 0, k, p, t, y, h, hk, hp, hm, hy, hs => by
  obtain ⟨k, rfl⟩ : ∃ q, k = q + 1 := ⟨k - 1, by omega⟩
  simp only [pmany] at h
  obtain rfl := Option.some.inj h
  rw [Qs.l0, if_neg (by omega), if_pos (by omega), tmany, ba_nil]
  simp
 | m + 1, k, p, t, y, h, hk, hp, hm, hy, hs => by
  obtain ⟨k, rfl⟩ : ∃ q, k = q + 1 := ⟨k - 1, by omega⟩
  simp only [pmany] at h
  obtain ⟨x, hx, h⟩ := Option.bind_eq_some_iff.1 h
  obtain ⟨z, hz, h⟩ := Option.bind_eq_some_iff.1 h
  obtain rfl := Option.some.inj h
  simp only at hy hs
  have h1 := tnode_size fl _ x hx
  rw [List.drop_drop] at hz
  rw [Qs.l0, if_pos (by omega), ih k p x hx (by omega) hp, Option.bind_some]
  dsimp only
  rw [if_pos (by omega), w64 (x := ((m + 1 : Nat) : Int) - 1) (by omega) (by omega), show ((m + 1 : Nat) : Int) - 1 = (m : Int) by omega,
   spec_Text_l0 L hL fl ih m k (p + x.1) _ z hz (by omega) (by omega) (by omega) (by omega) (by rw [ByteArray.size_append]; omega)]
  simp only [tmany, hx, ba_assoc, List.drop_drop, Nat.add_assoc]
theorem ba_lit2 (c : UInt8) (t : ByteArray) : (⟨#[40, c]⟩ : ByteArray) ++ t = (⟨#[40]⟩ : ByteArray) ++ ((⟨#[c]⟩ : ByteArray) ++ t) := by
 rw [← ba_assoc]; rfl
theorem spec_Text_f (L : List Nd) (hL : L.length ≤ 20) : ∀ (fl k p : Nat) (x : Nat × Nat), pnode fl (L.drop p) = some x → 300 + 100 * fl ≤ k → p ≤ 20 → Qs.f k L (p : Int) = some (tnode fl (L.drop p), ((p + x.1 : Nat) : Int))
 | 0, k, p, x, h, _, _ => by simp [pnode] at h
 | fl + 1, k, p, x, h, hk, hp => by
  obtain ⟨k, rfl⟩ : ∃ q, k = q + 2 := ⟨k - 2, by omega⟩
  have hle2 := pnode_le _ _ _ h
  have hlt : p < L.length := by
   rw [List.length_drop] at hle2
   omega
  rw [List.length_drop] at hle2
  have hts := tnode_size (fl + 1) (L.drop p) x h
  have hdr := nd_drop L (p : Int) (by omega) (by omega)
  rw [show (p : Int).toNat = p from rfl] at hdr
  rw [hdr] at h hts ⊢
  generalize hN : rd_T64 L (p : Int) = n at h hts ⊢
  simp only [pnode] at h
  have hat : wrap64 ((p : Int) + 1) = ((p + 1 : Nat) : Int) := by rw [w64 (x := (p : Int) + 1) (by omega) (by omega)]; omega
  by_cases hin : innerP n = true
  ·rw [if_pos hin] at h
   obtain ⟨y, hy, h⟩ := Option.bind_eq_some_iff.1 h
   obtain rfl := Option.some.inj h
   obtain ⟨hop, hf1, hf2, hm1, hm2⟩ := inner_cases n hin
   have hty := tmany_size fl (tnode_size fl) _ _ y hy
   simp only at hle2
   have loop := fun (t : ByteArray) (ht : t.size ≤ 2) => spec_Text_l0 L hL fl (fun k p x hx hk hp => spec_Text_f L hL fl k p x hx hk hp) n.f3.toNat k (p + 1) t y hy (by omega) (by omega) (by omega) (by omega) (by omega)
   rw [Qs.f, if_pos (by omega), if_pos (by omega)]
   simp only [hN]
   rw [l04Escape_f _ (by omega) _ (by omega), Option.bind_some, hat]
   simp only [tnode, if_pos hin]
   rw [show n.f3.toNat = n.f3.toNat from rfl]
   have hm : ((n.f3.toNat : Nat) : Int) = n.f3 := by omega
   rw [hm] at loop
   rcases hop with h8 | h8 | h8
   ·rw [if_pos h8, Qs.j0, loop _ (by decide), h8, ba_lit2]
    simp only [Option.some.injEq, Prod.mk.injEq]
    exact ⟨rfl, by show ((p + 1 + y.1 : Nat) : Int) = ((p + (y.1 + 1) : Nat) : Int); omega⟩
   ·rw [if_neg (by omega), if_pos h8, Qs.j0, loop _ (by decide), h8, ba_lit2]
    simp only [Option.some.injEq, Prod.mk.injEq]
    exact ⟨rfl, by show ((p + 1 + y.1 : Nat) : Int) = ((p + (y.1 + 1) : Nat) : Int); omega⟩
   ·rw [if_neg (by omega), if_neg (by omega), if_pos h8, Qs.j0, loop _ (by decide), h8, ba_lit2]
    simp only [Option.some.injEq, Prod.mk.injEq]
    exact ⟨rfl, by show ((p + 1 + y.1 : Nat) : Int) = ((p + (y.1 + 1) : Nat) : Int); omega⟩
  ·rw [if_neg hin] at h
   by_cases hle : leafP n = true
   ·rw [if_pos hle] at h
    obtain rfl := Option.some.inj h
    obtain ⟨hop, hf1, hf2, hf3⟩ := leaf_cases n hle
    have he := esc_size n.f2
    rw [Qs.f, if_pos (by omega), if_pos (by omega)]
    simp only [hN]
    rw [l04Escape_f _ (by omega) _ (by omega), Option.bind_some, hat]
    simp only [tnode, if_neg hin]
    have k1 : (⟨#[61]⟩ : ByteArray).size = 1 := rfl
    have k2 : (⟨#[40]⟩ : ByteArray).size = 1 := rfl
    have k3 : (⟨#[62, 61]⟩ : ByteArray).size = 2 := rfl
    have k4 : (⟨#[60, 61]⟩ : ByteArray).size = 2 := rfl
    have hop2 : n.f0 = 4 ∨ n.f0 = 5 ∨ n.f0 = 6 ∨ n.f0 = 7 ∨ n.f0 = 8 := by omega
    have e5 : (⟨#[61, 42, 41]⟩ : ByteArray) = (⟨#[61, 42]⟩ : ByteArray) ++ (⟨#[41]⟩ : ByteArray) := rfl
    have e6 : (⟨#[42, 41]⟩ : ByteArray) = (⟨#[42]⟩ : ByteArray) ++ (⟨#[41]⟩ : ByteArray) := rfl
    rcases hop2 with h8 | h8 | h8 | h8 | h8
    ·have hlf : leafT n = n.f1 ++ (⟨#[61]⟩ : ByteArray) ++ Gd.esc n.f2 := by unfold leafT; rw [if_pos h8]
     rw [hlf, if_neg (by omega), if_neg (by omega), if_neg (by omega), if_pos h8, if_pos (by omega), if_pos (by simp only [ByteArray.size_append, k1, k2, k3, k4]; omega), if_pos (by simp only [ByteArray.size_append, k1, k2, k3, k4]; omega), if_pos (by simp only [ByteArray.size_append, k1, k2, k3, k4]; omega)]
     simp only [ba_assoc]
    ·have hlf : leafT n = n.f1 ++ (⟨#[61, 42]⟩ : ByteArray) := by unfold leafT; rw [if_neg (by omega), if_pos h8]
     rw [hlf, if_neg (by omega), if_neg (by omega), if_neg (by omega), if_neg (by omega), if_pos h8, if_pos (by omega), if_pos (by simp only [ByteArray.size_append, k1, k2, k3, k4]; omega), e5]
     simp only [ba_assoc]
    ·have hlf : leafT n = n.f1 ++ (⟨#[61]⟩ : ByteArray) ++ Gd.esc n.f2 ++ (⟨#[42]⟩ : ByteArray) := by unfold leafT; rw [if_neg (by omega), if_neg (by omega), if_pos h8]
     rw [hlf, if_neg (by omega), if_neg (by omega), if_neg (by omega), if_neg (by omega), if_neg (by omega), if_pos h8, if_pos (by omega), if_pos (by simp only [ByteArray.size_append, k1, k2, k3, k4]; omega), if_pos (by simp only [ByteArray.size_append, k1, k2, k3, k4]; omega), if_pos (by simp only [ByteArray.size_append, k1, k2, k3, k4]; omega), e6]
     simp only [ba_assoc]
    ·have hlf : leafT n = n.f1 ++ (⟨#[62, 61]⟩ : ByteArray) ++ Gd.esc n.f2 := by unfold leafT; rw [if_neg (by omega), if_neg (by omega), if_neg (by omega), if_pos h8]
     rw [hlf, if_neg (by omega), if_neg (by omega), if_neg (by omega), if_neg (by omega), if_neg (by omega), if_neg (by omega), if_pos h8, if_pos (by omega), if_pos (by simp only [ByteArray.size_append, k1, k2, k3, k4]; omega), if_pos (by simp only [ByteArray.size_append, k1, k2, k3, k4]; omega), if_pos (by simp only [ByteArray.size_append, k1, k2, k3, k4]; omega)]
     simp only [ba_assoc]
    ·have hlf : leafT n = n.f1 ++ (⟨#[60, 61]⟩ : ByteArray) ++ Gd.esc n.f2 := by unfold leafT; rw [if_neg (by omega), if_neg (by omega), if_neg (by omega), if_neg (by omega)]
     rw [hlf, if_neg (by omega), if_neg (by omega), if_neg (by omega), if_neg (by omega), if_neg (by omega), if_neg (by omega), if_neg (by omega), if_pos (by omega), if_pos (by simp only [ByteArray.size_append, k1, k2, k3, k4]; omega), if_pos (by simp only [ByteArray.size_append, k1, k2, k3, k4]; omega), if_pos (by simp only [ByteArray.size_append, k1, k2, k3, k4]; omega)]
     simp only [ba_assoc]
   ·rw [if_neg hle] at h; cases h
def TextP (l : List Nd) : ByteArray := if FilterP l = true then tnode 20 l else ⟨#[]⟩
theorem FilterP_some {l : List Nd} (h : FilterP l = true) : l.length ≤ 20 ∧ ∃ x, pnode 20 l = some x ∧ x.1 = l.length ∧ x.2 ≤ 5 := by
 unfold FilterP at h
 simp only [Bool.and_eq_true, decide_eq_true_eq] at h
 refine ⟨h.1, ?_⟩
 cases hp : pnode 20 l with
 | none => rw [hp] at h; simp at h
 | some x =>
  rw [hp] at h
  simp only [Bool.and_eq_true, decide_eq_true_eq] at h
  exact ⟨x, rfl, h.2.1, h.2.2⟩
theorem spec_FilterText_f (l : List Nd) (k : Nat) (hk : 2400 ≤ k) : Gz.f k l = some (TextP l) := by
 unfold Gz.f TextP
 by_cases h4 : (l.length : Int) > 400
 ·have hn : ¬ (FilterP l = true) := fun h => by have := (FilterP_some h).1; omega
  rw [if_pos h4, if_neg hn]
 ·rw [if_neg h4, spec_FilterRight_f l k (by omega), Option.bind_some]
  by_cases h : FilterP l = true
  ·obtain ⟨h1, x, hx, hx1, hx2⟩ := FilterP_some h
   have := spec_Text_f l h1 20 k 0 x (by rw [List.drop_zero]; exact hx) (by omega) (by omega)
   rw [if_pos h, if_pos h, show (0 : Int) = ((0 : Nat) : Int) from rfl, this, List.drop_zero, Option.bind_some]
  ·rw [if_neg h, if_neg h]
theorem impl_FilterText_f (l : List Nd) (k : Nat) (hk : 2400 ≤ k) : Gd.f k l = some (TextP l) := by
 unfold Gd.f TextP
 rw [impl_FilterRight_f l k (by omega), Option.bind_some]
 by_cases h : FilterP l = true
 ·obtain ⟨h1, x, hx, hx1, hx2⟩ := FilterP_some h
  rw [if_pos h, if_pos h, impl_ft 20 k l x hx (by omega) (by omega), Option.bind_some]
 ·rw [if_neg h, if_neg h]
theorem impl_isLong_l0 (l : List ByteArray) (hl : l.length ≤ 4611686018427387904) : ∀ (d k : Nat) (i : Int), 0 ≤ i → i + d = l.length → d < k →
  Gj.l0 k l (l.length : Int) i = some ((l.drop i.toNat).any fun t => decide (t.size > 8000))
 | 0, k, i, h0, hd, hk => by
  obtain ⟨k, rfl⟩ : ∃ m, k = m + 1 := ⟨k - 1, by omega⟩
  simp only [Gj.l0]
  rw [if_neg (by omega), List.drop_of_length_le (by omega)]; rfl
 | d + 1, k, i, h0, hd, hk => by
  obtain ⟨k, rfl⟩ : ∃ m, k = m + 1 := ⟨k - 1, by omega⟩
  have hlt : i.toNat < l.length := by omega
  simp only [Gj.l0]
  rw [if_pos (by omega), if_pos h0, if_pos (by omega), List.drop_eq_getElem_cons hlt, List.any_cons]
  have e : rdOf ByteArray.empty l i = l[i.toNat] := by unfold rdOf; rw [List.getD_eq_getElem?_getD, List.getElem?_eq_getElem hlt]; rfl
  rw [e]
  by_cases h : (l[i.toNat].size : Int) > 8000
  ·rw [if_pos h, decide_eq_true (by omega)]; rfl
  ·rw [if_neg h, decide_eq_false (by omega), w64 (by omega) (by omega), impl_isLong_l0 l hl d k (i + 1) (by omega) (by omega) (by omega), show (i + 1).toNat = i.toNat + 1 by omega]; rfl
theorem impl_isLong_f (l : List ByteArray) (hl : l.length ≤ 4611686018427387904) (k : Nat) (hk : l.length < k) : Gj.f k l = some (l.any fun t => decide (t.size > 8000)) := by
 unfold Gj.f
 rw [impl_isLong_l0 l hl l.length k 0 (by omega) (by omega) hk]; rfl
theorem one_of (b : Int) (h0 : 0 ≤ b) : Gd.one b = if b = 42 then [92, 50, 97] else if b = 40 then [92, 50, 56] else if b = 41 then [92, 50, 57] else if b = 92 then [92, 53, 99] else [b] := by
 obtain ⟨n, rfl⟩ := Int.eq_ofNat_of_zero_le h0
 unfold Gd.one Gd.rpl
 rw [Int.toNat_natCast]
 by_cases h1 : n = 42
 ·subst h1; rfl
 ·by_cases h2 : n = 40
  ·subst h2; rfl
  ·by_cases h3 : n = 41
   ·subst h3; rfl
   ·by_cases h4 : n = 92
    ·subst h4; rfl
    ·rw [if_neg h1, if_neg h2, if_neg h3, if_neg h4, if_pos rfl, if_neg (by omega), if_neg (by omega), if_neg (by omega), if_neg (by omega)]
theorem bytes_str (l : List Int) (h : ∀ x ∈ l, 0 ≤ x ∧ x < 256) : bytesOf (strOfNums l) = l := by
 unfold bytesOf strOfNums
 simp only [List.map_map]
 rw [show l = l.map id from by simp]
 rw [List.map_map]
 apply List.map_congr_left
 intro x hx
 have := h x hx
 simp [UInt8.toNat_ofNat]
 omega
theorem bt_head (s : ByteArray) (a : Int) (h0 : 0 ≤ a) {b : Int} {rest : List Int} (h : (bytesOf s).drop a.toNat = b :: rest) : a < s.size ∧ bt s a = b := by
 have hl : a.toNat < (bytesOf s).length := by
  rcases Nat.lt_or_ge a.toNat (bytesOf s).length with h2 | h2
  ·exact h2
  ·rw [List.drop_of_length_le h2] at h; cases h
 rw [bytesOf_length] at hl
 have h2 : a < s.size := by omega
 refine ⟨h2, ?_⟩
 rw [drop_bt s a h0 h2] at h
 exact (List.cons.inj h).1
theorem rd_miss (s t : ByteArray) (F : Qr.FX) (bad : Bool) (fr at_ : Int) (hs : s.size ≤ 100) (h0 : 0 ≤ at_) (h1 : at_ < t.size) : ∀ (d k : Nat) (j : Int), 0 ≤ j → j + d = s.size → (∀ x ∈ (bytesOf s).drop j.toNat, x ≠ bt t at_) → Qr.till.l1 (k + d + 1) s fr j t at_ F bad = Qr.till.l0 k s fr t (wrap64 (at_ + 1)) F bad
 | 0, k, j, hj, hd, hx => by rw [Qr.till.l1, if_neg (by omega)]
 | d + 1, k, j, hj, hd, hx => by
  rw [drop_bt s j hj (by omega)] at hx
  rw [Qr.till.l1, if_pos (by omega), if_pos hj, if_pos h0, if_pos h1, if_neg (hx _ (List.mem_cons_self)), w64 (x := j + 1) (by omega) (by omega)]
  exact rd_miss s t F bad fr at_ hs h0 h1 d k (j + 1) (by omega) (by omega) (fun x h => hx x (List.mem_cons_of_mem _ h))
theorem rd_hit (s t : ByteArray) (F : Qr.FX) (bad : Bool) (fr at_ : Int) (hs : s.size ≤ 100) (h0 : 0 ≤ at_) (h1 : at_ < t.size) (hf : 0 ≤ fr) (hfa : fr ≤ at_) : ∀ (d k : Nat) (j : Int), 0 ≤ j → j + d = s.size → bt t at_ ∈ (bytesOf s).drop j.toNat → Qr.till.l1 (k + d + 1) s fr j t at_ F bad = some (t.extract fr.toNat at_.toNat, t, at_, bad)
 | 0, k, j, hj, hd, hx => by rw [List.drop_of_length_le (by rw [bytesOf_length]; omega)] at hx; cases hx
 | d + 1, k, j, hj, hd, hx => by
  rw [drop_bt s j hj (by omega)] at hx
  rw [Qr.till.l1, if_pos (by omega), if_pos hj, if_pos h0, if_pos h1]
  by_cases e : bt s j = bt t at_
  ·rw [if_pos e, if_pos hf, if_pos hfa, if_pos (by omega)]
  ·rw [if_neg e, w64 (x := j + 1) (by omega) (by omega)]
   refine rd_hit s t F bad fr at_ hs h0 h1 hf hfa d k (j + 1) (by omega) (by omega) ?_
   rcases List.mem_cons.1 hx with h | h
   ·exact absurd h.symm e
   ·exact h
theorem rd_find (s t : ByteArray) (F : Qr.FX) (bad : Bool) (fr : Int) (hs : s.size ≤ 100) (ht : t.size ≤ 100000) (hf : 0 ≤ fr) : ∀ (X : List Int) (k : Nat) (at_ : Int) (c : Int) (Y : List Int), (bytesOf t).drop at_.toNat = X ++ c :: Y → fr ≤ at_ → (∀ x ∈ X, x ∉ bytesOf s) → c ∈ bytesOf s → 103 * (X.length + 1) ≤ k →
  Qr.till.l0 k s fr t at_ F bad = some (t.extract fr.toNat (at_.toNat + X.length), t, at_ + X.length, bad)
 | [], k, at_, c, Y, hd, hfa, hX, hc, hk => by
  obtain ⟨h1, h2⟩ := bt_head t at_ (by omega) hd
  obtain ⟨k, rfl⟩ : ∃ q, k = (q + s.size + 1) + 1 := ⟨k - s.size - 2, by simp at hk; omega⟩
  rw [Qr.till.l0, if_pos h1, rd_hit s t F bad fr at_ hs (by omega) h1 hf hfa s.size k 0 (by omega) (by omega) (by rw [h2]; exact hc)]
  simp
 | x :: X, k, at_, c, Y, hd, hfa, hX, hc, hk => by
  obtain ⟨h1, h2⟩ := bt_head t at_ (by omega) hd
  rw [List.length_cons] at hk
  obtain ⟨k, rfl⟩ : ∃ q, k = (q + s.size + 1) + 1 := ⟨k - s.size - 2, by omega⟩
  rw [Qr.till.l0, if_pos h1, rd_miss s t F bad fr at_ hs (by omega) h1 s.size k 0 (by omega) (by omega) (by rw [h2]; intro y hy e; exact hX x (List.mem_cons_self) (e ▸ hy)), w64 (x := at_ + 1) (by omega) (by omega)]
  rw [drop_bt t at_ (by omega) h1] at hd
  rw [rd_find s t F bad fr hs ht hf X k (at_ + 1) c Y (List.cons.inj hd).2 (by omega) (fun y hy => hX y (List.mem_cons_of_mem _ hy)) hc (by omega), List.length_cons]
  congr 3
  ·omega
  ·congr 1; omega
theorem rd_some (s t : ByteArray) (F : Qr.FX) (bad : Bool) (fr : Int) (hs : s.size ≤ 100) (ht : t.size ≤ 100000) (hf : 0 ≤ fr) : ∀ (d k : Nat) (at_ : Int), fr ≤ at_ → at_ + d = t.size → 103 * (d + 1) ≤ k →
  ∃ q : Int, at_ ≤ q ∧ q ≤ t.size ∧ Qr.till.l0 k s fr t at_ F bad = some (t.extract fr.toNat q.toNat, t, q, bad)
 | 0, k, at_, hfa, hd, hk => by
  obtain ⟨k, rfl⟩ : ∃ q, k = q + 1 := ⟨k - 1, by omega⟩
  refine ⟨at_, by omega, by omega, ?_⟩
  rw [Qr.till.l0, if_neg (by omega), if_pos hf, if_pos (by omega), show at_.toNat = t.size by omega]
 | d + 1, k, at_, hfa, hd, hk => by
  obtain ⟨k, rfl⟩ : ∃ q, k = (q + s.size + 1) + 1 := ⟨k - s.size - 2, by omega⟩
  rw [Qr.till.l0, if_pos (by omega)]
  by_cases e : bt t at_ ∈ bytesOf s
  ·exact ⟨at_, by omega, by omega, rd_hit s t F bad fr at_ hs (by omega) (by omega) hf hfa s.size k 0 (by omega) (by omega) e⟩
  ·rw [rd_miss s t F bad fr at_ hs (by omega) (by omega) s.size k 0 (by omega) (by omega) (fun x hx h => e (h ▸ hx)), w64 (x := at_ + 1) (by omega) (by omega)]
   obtain ⟨q, h1, h2, h3⟩ := rd_some s t F bad fr hs ht hf d k (at_ + 1) (by omega) (by omega) (by omega)
   exact ⟨q, by omega, h2, h3⟩
abbrev rF : Qr.FX := Qr.F0
theorem bytesOf_app (a b : ByteArray) : bytesOf (a ++ b) = bytesOf a ++ bytesOf b := by
 unfold bytesOf
 rw [ba_data_append, List.map_append]
theorem nch_ne {c : Int} (h : nch c = true) : c ≠ 33 ∧ c ≠ 38 ∧ c ≠ 124 ∧ c ≠ 40 ∧ c ≠ 41 ∧ c ≠ 42 ∧ c ≠ 60 ∧ c ≠ 61 ∧ c ≠ 62 := by
 unfold nch lowc at h
 simp only [Bool.or_eq_true, Bool.and_eq_true, decide_eq_true_eq] at h
 omega
theorem name_bytes {s : ByteArray} (h : NameP s = true) : ∀ x ∈ bytesOf s, nch x = true := by
 unfold NameP at h
 simp only [Bool.and_eq_true, List.all_eq_true] at h
 exact h.2
theorem bytes_range (s : ByteArray) : ∀ x ∈ bytesOf s, 0 ≤ x ∧ x < 256 := by
 intro x hx
 unfold bytesOf at hx
 obtain ⟨b, _, rfl⟩ := List.mem_map.1 hx
 have := b.toNat_lt
 omega
theorem escL_range (l : List Int) (h : ∀ x ∈ l, 0 ≤ x ∧ x < 256) : ∀ x ∈ Gd.escL l, 0 ≤ x ∧ x < 256 := by
 intro x hx
 unfold Gd.escL at hx
 obtain ⟨c, hc, hx⟩ := List.mem_flatMap.1 hx
 have hcb := h c hc
 rw [one_of c hcb.1] at hx
 repeat' split at hx
 all_goals simp at hx
 all_goals omega
theorem bytes_esc (s : ByteArray) : bytesOf (Gd.esc s) = Gd.escL (bytesOf s) := by
 unfold Gd.esc
 rw [bytes_str _ (escL_range _ (bytes_range s))]
theorem escL_ne (l : List Int) (h : ∀ x ∈ l, 0 ≤ x ∧ x < 256) : ∀ x ∈ Gd.escL l, x ≠ 40 ∧ x ≠ 41 ∧ x ≠ 42 := by
 intro x hx
 unfold Gd.escL at hx
 obtain ⟨c, hc, hx⟩ := List.mem_flatMap.1 hx
 have hcb := h c hc
 rw [one_of c hcb.1] at hx
 repeat' split at hx
 all_goals simp at hx
 all_goals omega
theorem esc_bytes_ne (s : ByteArray) : ∀ x ∈ bytesOf (Gd.esc s), x ≠ 40 ∧ x ≠ 41 ∧ x ≠ 42 := by
 rw [bytes_esc]; exact escL_ne _ (bytes_range s)
theorem ext_take (t : ByteArray) (p : Nat) (X Y : List Int) (h : (bytesOf t).drop p = X ++ Y) : t.extract p (p + X.length) = strOfNums X := by
 rw [ext_son, h, Nat.add_sub_cancel_left, List.take_left]
theorem drop_more {t : ByteArray} {p : Nat} {X Y : List Int} (h : (bytesOf t).drop p = X ++ Y) : (bytesOf t).drop (p + X.length) = Y := by
 rw [← List.drop_drop, h, List.drop_left]
theorem drop_size {t : ByteArray} {p : Nat} {X : List Int} (h : (bytesOf t).drop p = X) (hX : X ≠ []) : p + X.length = t.size := by
 have := congrArg List.length h
 rw [List.length_drop, bytesOf_length] at this
 have : 0 < X.length := List.length_pos_iff.2 hX
 omega
theorem till_at (s t : ByteArray) (bad : Bool) (p k : Nat) (X : List Int) (c : Int) (Y : List Int) (hs : s.size ≤ 100) (ht : t.size ≤ 100000) (h : (bytesOf t).drop p = X ++ c :: Y) (hX : ∀ x ∈ X, x ∉ bytesOf s) (hc : c ∈ bytesOf s) (hk : 103 * (X.length + 1) ≤ k) :
  Qr.till.f k t (p : Int) rF bad s = some (strOfNums X, t, ((p + X.length : Nat) : Int), bad) := by
 have h2 := drop_size h (by simp)
 rw [List.length_append, List.length_cons] at h2
 unfold Qr.till.f
 rw [if_neg (by omega), rd_find s t rF bad (p : Int) hs ht (by omega) X k (p : Int) c Y (by simpa using h) (Int.le_refl _) hX hc hk]
 rw [show ((p : Int)).toNat = p from rfl, ext_take t p X _ h]
 congr 4
theorem next_at (t : ByteArray) (bad : Bool) (p : Nat) (c : Int) (Y : List Int) (h : (bytesOf t).drop p = c :: Y) : Qr.next.f t (p : Int) rF bad = some (c, t, (p : Int), bad) := by
 obtain ⟨h1, h2⟩ := bt_head t (p : Int) (by omega) (by simpa using h)
 unfold Qr.next.f
 rw [if_neg (by omega), if_pos (by omega), if_pos (by omega), h2]
theorem nx_at (t : ByteArray) (bad : Bool) (p : Nat) (c : Int) (Y : List Int) (h : (bytesOf t).drop p = c :: Y) : Qr.nx t (p : Int) bad = some (c, bad) := by
 obtain ⟨h1, h2⟩ := bt_head t (p : Int) (by omega) (by simpa using h)
 unfold Qr.nx
 rw [if_neg (by omega), if_pos (by omega), h2]
theorem son2 {t : ByteArray} (a b : Int) (h : t = strOfNums [a, b]) : t.toList = [a.toNat.toUInt8, b.toNat.toUInt8] := by
 subst h
 rw [Go.Lib.toList_data, strOfNums_data]; rfl
theorem plain_at (t : ByteArray) (ht : t.size ≤ 100000) : ∀ (l : List Int) (k p : Nat) (x : List Int), (∀ c ∈ l, 0 ≤ c ∧ c < 256) → (bytesOf t).drop p = Gd.escL l → p ≤ t.size → x.length + 3 * l.length ≤ 400000 → 2 * l.length < k → Qq.l0 k t x (p : Int) = some (strOfNums (x ++ l))
 | [], k, p, x, _, h, hp, hx, hk => by
  obtain ⟨k, rfl⟩ : ∃ q, k = q + 1 := ⟨k - 1, by omega⟩
  have h0 : Gd.escL [] = [] := rfl
  rw [h0] at h
  have h1 := congrArg List.length h
  rw [List.length_drop, bytesOf_length, List.length_nil] at h1
  rw [Qq.l0, if_neg (by omega), List.append_nil]
 | c :: l, k, p, x, hr, h, hp, hx, hk => by
  rw [List.length_cons] at hx hk
  obtain ⟨k, rfl⟩ : ∃ q, k = q + 2 := ⟨k - 2, by omega⟩
  have hc := hr c List.mem_cons_self
  have ih := fun (p2 : Nat) (y : Int) (hd : (bytesOf t).drop p2 = Gd.escL l) (hp2 : p2 ≤ t.size) => plain_at t ht l k p2 (x ++ [y]) (fun c hc => hr c (List.mem_cons_of_mem _ hc)) hd hp2 (by rw [List.length_append, List.length_singleton]; omega) (by omega)
  rw [show Gd.escL (c :: l) = Gd.one c ++ Gd.escL l from by simp [Gd.escL], one_of c hc.1] at h
  have three : ∀ (y z : Int), (bytesOf t).drop p = 92 :: y :: z :: Gd.escL l → p + 3 ≤ t.size ∧ bt t (p : Int) = 92 ∧ (t.extract (p + 1) (p + 3)).toList = [y.toNat.toUInt8, z.toNat.toUInt8] ∧ (bytesOf t).drop (p + 3) = Gd.escL l := by
   intro y z h3
   have hs := drop_size h3 (by simp)
   simp only [List.length_cons] at hs
   have h4 : (bytesOf t).drop (p + 1) = [y, z] ++ Gd.escL l := by rw [← List.drop_drop, h3]; rfl
   refine ⟨by omega, (bt_head t (p : Int) (by omega) (by simpa using h3)).2, ?_, ?_⟩
   ·exact son2 y z (by have := ext_take t (p + 1) [y, z] _ h4; simpa using this)
   ·rw [show p + 3 = p + 1 + [y, z].length from rfl]; exact drop_more h4
  have go : ∀ (y z d : Int), (bytesOf t).drop p = 92 :: y :: z :: Gd.escL l → Qq.l0 (k + 2) t x (p : Int) = (if [y.toNat.toUInt8, z.toNat.toUInt8] = ([50, 97] : List UInt8) then Qq.l0 k t (x ++ [42]) ((p + 3 : Nat) : Int) else if [y.toNat.toUInt8, z.toNat.toUInt8] = ([50, 56] : List UInt8) then Qq.l0 k t (x ++ [40]) ((p + 3 : Nat) : Int) else if [y.toNat.toUInt8, z.toNat.toUInt8] = ([50, 57] : List UInt8) then Qq.l0 k t (x ++ [41]) ((p + 3 : Nat) : Int) else Qq.l0 k t (x ++ [92]) ((p + 3 : Nat) : Int)) := by
   intro y z d h3
   obtain ⟨h4, h5, h6, h7⟩ := three y z h3
   rw [Qq.l0, if_pos (by omega), if_pos (by omega), h5, if_pos rfl, w64 (x := (p : Int) + 2) (by omega) (by omega), decide_eq_true (p := (p : Int) + 2 < (t.size : Int)) (by omega), Qq.j1, if_pos rfl, w64 (x := (p : Int) + 1) (by omega) (by omega), w64 (x := (p : Int) + 3) (by omega) (by omega), w64 (x := (p : Int) + 2) (by omega) (by omega), w64 (x := (p : Int) + 2 + 1) (by omega) (by omega),
    if_pos (by omega), if_pos (by omega), if_pos (by omega), show ((p : Int) + 1).toNat = p + 1 by omega, show ((p : Int) + 3).toNat = p + 3 by omega, h6, show (p : Int) + 2 + 1 = ((p + 3 : Nat) : Int) by omega]
   have hxl : x.length < 140737488355328 := by omega
   simp only [if_pos hxl]
  by_cases c1 : c = 42
  ·subst c1; rw [if_pos rfl] at h
   rw [go 50 97 42 h, if_pos (by decide), ih (p + 3) 42 (three 50 97 h).2.2.2 (three 50 97 h).1, List.append_assoc]; rfl
  rw [if_neg c1] at h
  by_cases c2 : c = 40
  ·subst c2; rw [if_pos rfl] at h
   rw [go 50 56 40 h, if_neg (by decide), if_pos (by decide), ih (p + 3) 40 (three 50 56 h).2.2.2 (three 50 56 h).1, List.append_assoc]; rfl
  rw [if_neg c2] at h
  by_cases c3 : c = 41
  ·subst c3; rw [if_pos rfl] at h
   rw [go 50 57 41 h, if_neg (by decide), if_neg (by decide), if_pos (by decide), ih (p + 3) 41 (three 50 57 h).2.2.2 (three 50 57 h).1, List.append_assoc]; rfl
  rw [if_neg c3] at h
  by_cases c4 : c = 92
  ·subst c4; rw [if_pos rfl] at h
   rw [go 53 99 92 h, if_neg (by decide), if_neg (by decide), if_neg (by decide), ih (p + 3) 92 (three 53 99 h).2.2.2 (three 53 99 h).1, List.append_assoc]; rfl
  rw [if_neg c4] at h
  obtain ⟨h4, h5⟩ := bt_head t (p : Int) (by omega) (by simpa using h)
  have h6 : (bytesOf t).drop (p + 1) = Gd.escL l := by
   have := drop_more (X := [c]) h
   simpa using this
  rw [Qq.l0, if_pos (by omega), if_pos (by omega), h5, if_neg c4, Qq.j1, if_neg (by simp), if_pos (by omega), w64 (x := (p : Int) + 1) (by omega) (by omega), show (p : Int) + 1 = ((p + 1 : Nat) : Int) by omega, ih (p + 1) c h6 (by omega), List.append_assoc]
  rfl
theorem plain_esc (v : ByteArray) (hv : v.size ≤ 1000) (k : Nat) (hk : 2 * v.size < k) : Qq.f k (Gd.esc v) = some v := by
 have hs := esc_size v
 unfold Qq.f
 have := plain_at (Gd.esc v) (by omega) (bytesOf v) k 0 [] (bytes_range v) (by rw [bytes_esc]; rfl) (Nat.zero_le _) (by rw [bytesOf_length]; simp; omega) (by rw [bytesOf_length]; exact hk)
 rw [List.nil_append, son_bytesOf] at this
 exact this
theorem plain_some (t : ByteArray) (ht : t.size ≤ 100000) : ∀ (d k : Nat) (i : Int) (x : List Int), 0 ≤ i → i + d = t.size → 2 * d < k → (x.length : Int) ≤ i → ∃ r, Qq.l0 k t x i = some r
 | 0, k, i, x, h0, hi, hk, hx => by
  obtain ⟨k, rfl⟩ : ∃ q, k = q + 1 := ⟨k - 1, by omega⟩
  rw [Qq.l0, if_neg (by omega)]
  exact ⟨_, rfl⟩
 | d + 1, k, i, x, h0, hi, hk, hx => by
  obtain ⟨k, rfl⟩ : ∃ q, k = q + 2 := ⟨k - 2, by omega⟩
  have step : ∀ (y : Int), ∃ r, Qq.l0 k t (x ++ [y]) (i + 1) = some r := fun y => plain_some t ht d k (i + 1) _ (by omega) (by omega) (by omega) (by rw [List.length_append, List.length_singleton]; omega)
  have key : ∀ b : Bool, (b = true → i + 2 < t.size) → ∃ r, Qq.j1 (k + 1) t x i (bt t i) b = some r := by
   intro b hb
   rw [Qq.j1]
   cases b with
   | false => rw [if_neg (by simp), if_pos (by omega), w64 (x := i + 1) (by omega) (by omega)]; exact step _
   | true =>
    have h2 := hb rfl
    obtain ⟨d, rfl⟩ : ∃ q, d = q + 2 := ⟨d - 2, by omega⟩
    have st3 : ∀ (y : Int), ∃ r, Qq.l0 k t (x ++ [y]) (i + 2 + 1) = some r := fun y => plain_some t ht d k (i + 2 + 1) _ (by omega) (by omega) (by omega) (by rw [List.length_append, List.length_singleton]; omega)
    rw [if_pos rfl, w64 (x := i + 1) (by omega) (by omega), w64 (x := i + 3) (by omega) (by omega), w64 (x := i + 2) (by omega) (by omega), w64 (x := i + 2 + 1) (by omega) (by omega), if_pos (by omega), if_pos (by omega), if_pos (by omega)]
    have hxl : x.length < 140737488355328 := by omega
    simp only [if_pos hxl]
    repeat' split
    all_goals exact st3 _
  rw [Qq.l0, if_pos (by omega), if_pos h0]
  split
  ·exact key _ (fun e => by have := of_decide_eq_true e; rw [w64 (x := i + 2) (by omega) (by omega)] at this; exact this)
  ·exact key _ (fun e => by cases e)
theorem plain_total (t : ByteArray) (ht : t.size ≤ 100000) (k : Nat) (hk : 2 * t.size < k) : ∃ r, Qq.f k t = some r :=
 plain_some t ht t.size k 0 [] (by omega) (by omega) hk (by simp)
theorem esc_ne_nil (v : ByteArray) (h : v.size ≠ 0) : (Gd.esc v).toList ≠ ([] : List UInt8) := by
 intro e
 have h2 : (Gd.esc v).size = 0 := by
  rw [Go.Lib.toList_data] at e
  rw [← data_length, e]; rfl
 unfold Gd.esc at h2
 rw [strOfNums_size, Gd.escL_length, bytesOf_length] at h2
 omega
theorem item_j0_at (t : ByteArray) (ht : t.size ≤ 100000) (v : ByteArray) (hv : v.size ≤ 40) (p k : Nat) (o : Int) (a : ByteArray) (c : Int) (Y : List Int) (hc : c = 42 ∨ c = 41) (h : (bytesOf t).drop (p + 1) = bytesOf (Gd.esc v) ++ c :: Y) (hk : 20000 ≤ k) :
  Qr.item.j0 k t (p : Int) rF false o a (⟨#[]⟩ : ByteArray) 0 = if c = 42 then (if v.size = 0 then some (5, a, v, 0, t, ((p + 1 + (Gd.esc v).size + 1 : Nat) : Int), false) else some (6, a, v, 0, t, ((p + 1 + (Gd.esc v).size + 1 : Nat) : Int), false)) else some (o, a, v, 0, t, ((p + 1 + (Gd.esc v).size : Nat) : Int), false) := by
 obtain ⟨k, rfl⟩ : ∃ q, k = q + 2 := ⟨k - 2, by omega⟩
 have hsz := drop_size h (by simp)
 rw [List.length_append, List.length_cons, bytesOf_length] at hsz
 have he := esc_size v
 have hst : bytesOf (⟨#[42, 41]⟩ : ByteArray) = [42, 41] := rfl
 have h1 := till_at (⟨#[42, 41]⟩ : ByteArray) t false (p + 1) (k + 1) _ c Y (by decide) ht h (by rw [hst]; intro x hx hm; have := esc_bytes_ne v x hx; simp at hm; omega) (by rw [hst]; rcases hc with rfl | rfl <;> simp) (by rw [bytesOf_length]; omega)
 rw [son_bytesOf, bytesOf_length] at h1
 have h2 := drop_more h
 rw [bytesOf_length] at h2
 rw [Qr.item.j0, w64 (x := (p : Int) + 1) (by omega) (by omega), show (p : Int) + 1 = ((p + 1 : Nat) : Int) by omega, h1, Option.bind_some]
 dsimp only
 rw [plain_esc v (by omega) _ (by omega), Option.bind_some, if_neg (by simp), next_at t false _ c Y h2, Option.bind_some]
 dsimp only
 rcases hc with rfl | rfl
 ·rw [Qr.item.j1, if_pos (by decide), if_pos rfl, w64 (x := ((p + 1 + (Gd.esc v).size : Nat) : Int) + 1) (by omega) (by omega)]
  by_cases hz : v.size = 0
  ·have : v = ⟨#[]⟩ := ba_size0 hz
   subst this
   rw [if_pos hz, if_pos (by first | decide | (rw [Go.Lib.toList_data]; rfl))]
   rfl
  ·rw [if_neg hz, if_neg (esc_ne_nil v hz)]
   rfl
 ·rw [Qr.item.j1, if_neg (by decide), if_neg (by decide)]
theorem value_size {s : ByteArray} (h : ValueP s = true) : 1 ≤ s.size ∧ s.size ≤ 40 := ValueP_size h
theorem item_at (t : ByteArray) (ht : t.size ≤ 100000) (n : Nd) (hn : leafP n = true) (p k : Nat) (Y : List Int) (h : (bytesOf t).drop p = bytesOf (leafT n) ++ 41 :: Y) (hk : 30000 ≤ k) :
  Qr.item.f k t (p : Int) rF false = some (n.f0, n.f1, n.f2, 0, t, ((p + (leafT n).size : Nat) : Int), false) := by
 have hls := leafT_size n hn
 have hsz := drop_size h (by simp)
 rw [List.length_append, List.length_cons, bytesOf_length] at hsz
 have hn0 := hn
 unfold leafP at hn0
 simp only [Bool.and_eq_true, Bool.or_eq_true, decide_eq_true_eq, beq_iff_eq] at hn0
 obtain ⟨⟨hname, hm⟩, hop⟩ := hn0
 have hb := name_bytes hname
 have hst : bytesOf (⟨#[61, 60, 62, 41]⟩ : ByteArray) = [61, 60, 62, 41] := rfl
 have hnt : ∀ x ∈ bytesOf n.f1, x ∉ bytesOf (⟨#[61, 60, 62, 41]⟩ : ByteArray) := by rw [hst]; intro x hx hm; have := nch_ne (hb x hx); simp at hm; omega
 have hns := NameP_size hname
 have first : ∀ (c : Int) (Z : List Int), (bytesOf t).drop p = bytesOf n.f1 ++ c :: Z → c ∈ bytesOf (⟨#[61, 60, 62, 41]⟩ : ByteArray) →
   Qr.item.f k t (p : Int) rF false = (if c = 60 then (Qr.item.j0 k t ((p + n.f1.size + 1 : Nat) : Int) rF false 8 n.f1 (⟨#[]⟩ : ByteArray) 0) else (if c = 62 then (Qr.item.j0 k t ((p + n.f1.size + 1 : Nat) : Int) rF false 7 n.f1 (⟨#[]⟩ : ByteArray) 0) else (Qr.item.j0 k t ((p + n.f1.size : Nat) : Int) rF false 4 n.f1 (⟨#[]⟩ : ByteArray) 0))) ∧ (bytesOf t).drop (p + n.f1.size + 1) = Z := by
  intro c Z hd hc
  have h1 := till_at (⟨#[61, 60, 62, 41]⟩ : ByteArray) t false p k _ c Z (by decide) ht hd hnt hc (by rw [bytesOf_length]; omega)
  rw [son_bytesOf, bytesOf_length] at h1
  have h2 := drop_more hd
  rw [bytesOf_length] at h2
  have h3 : (bytesOf t).drop (p + n.f1.size + 1) = Z := by rw [← List.drop_drop, h2]; rfl
  refine ⟨?_, h3⟩
  unfold Qr.item.f
  rw [h1, Option.bind_some]
  dsimp only
  rw [next_at t false _ c Z h2, Option.bind_some]
  dsimp only
  rw [w64 (x := ((p + n.f1.size : Nat) : Int) + 1) (by omega) (by omega)]
  rfl
 have hsplit : ∀ (A B : ByteArray), bytesOf (A ++ B) = bytesOf A ++ bytesOf B := bytesOf_app
 have k1 : bytesOf (⟨#[61]⟩ : ByteArray) = [61] := rfl
 have k2 : bytesOf (⟨#[61, 42]⟩ : ByteArray) = [61, 42] := rfl
 have k3 : bytesOf (⟨#[42]⟩ : ByteArray) = [42] := rfl
 have k4 : bytesOf (⟨#[62, 61]⟩ : ByteArray) = [62, 61] := rfl
 have k5 : bytesOf (⟨#[60, 61]⟩ : ByteArray) = [60, 61] := rfl
 have z1 : (⟨#[61]⟩ : ByteArray).size = 1 := rfl
 have z2 : (⟨#[61, 42]⟩ : ByteArray).size = 2 := rfl
 have z3 : (⟨#[42]⟩ : ByteArray).size = 1 := rfl
 have z4 : (⟨#[62, 61]⟩ : ByteArray).size = 2 := rfl
 have z5 : (⟨#[60, 61]⟩ : ByteArray).size = 2 := rfl
 obtain ⟨o, a, v, m⟩ := n
 simp only at hname hm hop hb hnt hns first
 subst hm
 have he := esc_size v
 rcases hop with ⟨rfl, hv⟩ | ⟨((rfl | rfl) | rfl) | rfl, hv⟩
 ·have hv0 : v = ⟨#[]⟩ := ba_size0 (by rw [← data_length]; rw [Go.Lib.toList_data] at hv; rw [hv]; rfl)
  subst hv0
  have hl : leafT ⟨5, a, ⟨#[]⟩, 0⟩ = a ++ (⟨#[61, 42]⟩ : ByteArray) := rfl
  rw [hl] at h ⊢
  rw [hsplit, k2, List.append_assoc] at h
  obtain ⟨e, hd⟩ := first 61 (42 :: 41 :: Y) h (by rw [hst]; simp)
  rw [e, if_neg (by decide), if_neg (by decide), item_j0_at t ht ⟨#[]⟩ (by decide) _ k 4 a 42 (41 :: Y) (.inl rfl) (by rw [hd]; rfl) (by omega), if_pos rfl, if_pos (by rfl), ByteArray.size_append, z2]
  rfl
 ·have hvs := value_size hv
  have hl : leafT ⟨4, a, v, 0⟩ = a ++ (⟨#[61]⟩ : ByteArray) ++ Gd.esc v := rfl
  rw [hl] at h ⊢
  rw [hsplit, hsplit, k1, List.append_assoc, List.append_assoc] at h
  obtain ⟨e, hd⟩ := first 61 (bytesOf (Gd.esc v) ++ 41 :: Y) h (by rw [hst]; simp)
  rw [e, if_neg (by decide), if_neg (by decide), item_j0_at t ht v (by omega) _ k 4 a 41 Y (.inr rfl) hd (by omega), if_neg (by decide), ByteArray.size_append, ByteArray.size_append, z1]
  congr 6
  refine Prod.ext ?_ rfl
  dsimp only
  omega
 ·have hvs := value_size hv
  have hl : leafT ⟨6, a, v, 0⟩ = a ++ (⟨#[61]⟩ : ByteArray) ++ Gd.esc v ++ (⟨#[42]⟩ : ByteArray) := rfl
  rw [hl] at h ⊢
  rw [hsplit, hsplit, hsplit, k1, k3, List.append_assoc, List.append_assoc, List.append_assoc] at h
  obtain ⟨e, hd⟩ := first 61 (bytesOf (Gd.esc v) ++ 42 :: 41 :: Y) h (by rw [hst]; simp)
  rw [e, if_neg (by decide), if_neg (by decide), item_j0_at t ht v (by omega) _ k 4 a 42 (41 :: Y) (.inl rfl) hd (by omega), if_pos rfl, if_neg (by omega), ByteArray.size_append, ByteArray.size_append, ByteArray.size_append, z1, z3]
  congr 6
  refine Prod.ext ?_ rfl
  dsimp only
  omega
 ·have hvs := value_size hv
  have hl : leafT ⟨7, a, v, 0⟩ = a ++ (⟨#[62, 61]⟩ : ByteArray) ++ Gd.esc v := rfl
  rw [hl] at h ⊢
  rw [hsplit, hsplit, k4, List.append_assoc, List.append_assoc] at h
  obtain ⟨e, hd⟩ := first 62 (61 :: (bytesOf (Gd.esc v) ++ 41 :: Y)) h (by rw [hst]; simp)
  have hd2 : (bytesOf t).drop (p + a.size + 1 + 1) = bytesOf (Gd.esc v) ++ 41 :: Y := by rw [← List.drop_drop, hd]; rfl
  rw [e, if_neg (by decide), if_pos rfl, item_j0_at t ht v (by omega) _ k 7 a 41 Y (.inr rfl) hd2 (by omega), if_neg (by decide), ByteArray.size_append, ByteArray.size_append, z4]
  congr 6
  refine Prod.ext ?_ rfl
  dsimp only
  omega
 ·have hvs := value_size hv
  have hl : leafT ⟨8, a, v, 0⟩ = a ++ (⟨#[60, 61]⟩ : ByteArray) ++ Gd.esc v := rfl
  rw [hl] at h ⊢
  rw [hsplit, hsplit, k5, List.append_assoc, List.append_assoc] at h
  obtain ⟨e, hd⟩ := first 60 (61 :: (bytesOf (Gd.esc v) ++ 41 :: Y)) h (by rw [hst]; simp)
  have hd2 : (bytesOf t).drop (p + a.size + 1 + 1) = bytesOf (Gd.esc v) ++ 41 :: Y := by rw [← List.drop_drop, hd]; rfl
  rw [e, if_pos rfl, item_j0_at t ht v (by omega) _ k 8 a 41 Y (.inr rfl) hd2 (by omega), if_neg (by decide), ByteArray.size_append, ByteArray.size_append, z5]
  congr 6
  refine Prod.ext ?_ rfl
  dsimp only
  omega
theorem up_at (P : List Nd) (n : Nd) (Q : List Nd) (x : Int) : Qr.up (P ++ n :: Q) P.length x = P ++ ⟨n.f0, n.f1, n.f2, x⟩ :: Q := by
 simp [Qr.up]
theorem getD_at (P : List Nd) (n : Nd) (Q : List Nd) (z : Nd) : (P ++ n :: Q).getD P.length z = n := by simp
theorem tnode_head (fl : Nat) (l : List Nd) (x : Nat × Nat) (h : pnode fl l = some x) : ∃ Z, bytesOf (tnode fl l) = 40 :: Z := by
 match fl, l, h with
 | 0, l, h => simp [pnode] at h
 | fl + 1, [], h => simp [pnode] at h
 | fl + 1, n :: rest, h =>
  simp only [tnode]
  rw [bytesOf_app, bytesOf_app]
  exact ⟨_, rfl⟩
theorem leaf_head (n : Nd) (h : leafP n = true) : ∃ c Z, bytesOf (leafT n) = c :: Z ∧ nch c = true := by
 have h0 := h
 unfold leafP at h0
 simp only [Bool.and_eq_true] at h0
 have hn := h0.1.1
 have hb := name_bytes hn
 have hs := NameP_size hn
 cases e : bytesOf n.f1 with
 | nil => have := congrArg List.length e; rw [bytesOf_length, List.length_nil] at this; omega
 | cons c cs =>
  have hc := hb c (by rw [e]; exact List.mem_cons_self)
  refine ⟨c, ?_⟩
  unfold leafT
  repeat' split
  all_goals simp only [bytesOf_app, e, List.cons_append]
  all_goals exact ⟨_, rfl, hc⟩
theorem lpo_at (t : ByteArray) (ht : t.size ≤ 100000) (fl D : Nat) (g : ByteArray → Int → List Nd → Bool → Option Qr.St)
  (hg : ∀ (l : List Nd) (x : Nat × Nat) (p : Nat) (L : List Nd) (R : List Int), pnode fl l = some x → L.length + x.1 ≤ 20 → x.2 ≤ D → (bytesOf t).drop p = bytesOf (tnode fl l) ++ R → g t (p : Int) L false = some (t, ((p + (tnode fl l).size : Nat) : Int), L ++ l.take x.1, false)) (R : List Int) :
  ∀ (m k : Nat) (l : List Nd) (y : Nat × Nat) (p : Nat) (P : List Nd) (n : Nd) (Q : List Nd), pmany (pnode fl) m l = some y → P.length + 1 + Q.length + y.1 ≤ 20 → y.2 ≤ D → (bytesOf t).drop p = bytesOf (tmany (tnode fl) (pnode fl) m l) ++ 41 :: R → m < k → 0 ≤ n.f3 → n.f3 + m ≤ 1000 →
   Qr.lpo g P.length k t (p : Int) (P ++ n :: Q) false = some (t, ((p + (tmany (tnode fl) (pnode fl) m l).size : Nat) : Int), P ++ ⟨n.f0, n.f1, n.f2, n.f3 + m⟩ :: (Q ++ l.take y.1), false)
 | 0, k, l, y, p, P, n, Q, h, hl, hD, hd, hk, h0, h1 => by
  obtain ⟨k, rfl⟩ : ∃ q, k = q + 1 := ⟨k - 1, by omega⟩
  simp only [pmany] at h
  obtain rfl := Option.some.inj h
  have hd2 : (bytesOf t).drop p = 41 :: R := hd
  rw [Qr.lpo, if_neg (by simp), nx_at t false p 41 R hd2, Option.bind_some]
  dsimp only
  rw [if_neg (by decide), tmany, show (⟨#[]⟩ : ByteArray).size = 0 from rfl]
  simp
 | m + 1, k, l, y, p, P, n, Q, h, hl, hD, hd, hk, h0, h1 => by
  obtain ⟨k, rfl⟩ : ∃ q, k = q + 1 := ⟨k - 1, by omega⟩
  simp only [pmany] at h
  obtain ⟨x, hx, h⟩ := Option.bind_eq_some_iff.1 h
  obtain ⟨z, hz, h⟩ := Option.bind_eq_some_iff.1 h
  obtain rfl := Option.some.inj h
  simp only at hl hD
  have hT : tmany (tnode fl) (pnode fl) (m + 1) l = tnode fl l ++ tmany (tnode fl) (pnode fl) m (l.drop x.1) := by simp only [tmany, hx]
  rw [hT] at hd ⊢
  rw [bytesOf_app, List.append_assoc] at hd
  obtain ⟨Z, hZ⟩ := tnode_head fl l x hx
  have hd40 : (bytesOf t).drop p = 40 :: (Z ++ (bytesOf (tmany (tnode fl) (pnode fl) m (l.drop x.1)) ++ 41 :: R)) := by rw [hd, hZ]; rfl
  have hlx := (pnode_le fl l x hx).2.1
  have hnext := drop_more hd
  rw [bytesOf_length] at hnext
  rw [Qr.lpo, if_neg (by simp), nx_at t false p 40 _ hd40, Option.bind_some]
  dsimp only
  rw [if_pos rfl, hg l x p (P ++ n :: Q) _ hx (by rw [List.length_append, List.length_cons]; omega) (by omega) hd, Option.bind_some]
  dsimp only
  rw [List.append_assoc, List.cons_append, if_pos (by rw [List.length_append, List.length_cons]; omega), getD_at, w64 (x := n.f3 + 1) (by omega) (by omega), up_at]
  rw [lpo_at t ht fl D g hg R m k (l.drop x.1) z (p + (tnode fl l).size) P ⟨n.f0, n.f1, n.f2, n.f3 + 1⟩ (Q ++ l.take x.1) hz (by rw [List.length_append, List.length_take]; omega) (by omega) hnext (by omega) (by simp only; omega) (by simp only; omega)]
  simp only [ByteArray.size_append]
  rw [List.append_assoc, ← List.take_add, show n.f3 + 1 + (m : Int) = n.f3 + ((m + 1 : Nat) : Int) by omega, Nat.add_assoc]
theorem opt_bytes (o : Int) (h : o = 1 ∨ o = 2 ∨ o = 3) : ∃ c, bytesOf (Gd.opt o) = [c] ∧ Qr.opOf c = o := by
 rcases h with rfl | rfl | rfl
 ·exact ⟨38, rfl, rfl⟩
 ·exact ⟨124, rfl, rfl⟩
 ·exact ⟨33, rfl, rfl⟩
theorem one_at (t : ByteArray) (ht : t.size ≤ 100000) : ∀ (fl k : Nat) (l : List Nd) (x : Nat × Nat) (p : Nat) (L : List Nd) (deep : Nat) (R : List Int), pnode fl l = some x → L.length + x.1 ≤ 20 → deep + x.2 ≤ 6 → (bytesOf t).drop p = bytesOf (tnode fl l) ++ R → 40000 + 100 * fl ≤ k →
  Qr.one k t (p : Int) L false (deep : Int) = some (t, ((p + (tnode fl l).size : Nat) : Int), L ++ l.take x.1, false)
 | 0, k, l, x, p, L, deep, R, h, _, _, _, _ => by simp [pnode] at h
 | fl + 1, k, [], x, p, L, deep, R, h, _, _, _, _ => by simp [pnode] at h
 | fl + 1, k, n :: rest, x, p, L, deep, R, h, hL, hdeep, hd, hk => by
  obtain ⟨k, rfl⟩ : ∃ q, k = q + 1 := ⟨k - 1, by omega⟩
  have hx := pnode_le _ _ _ h
  have k40 : bytesOf (⟨#[40]⟩ : ByteArray) = [40] := rfl
  have k41 : bytesOf (⟨#[41]⟩ : ByteArray) = [41] := rfl
  have z40 : (⟨#[40]⟩ : ByteArray).size = 1 := rfl
  have z41 : (⟨#[41]⟩ : ByteArray).size = 1 := rfl
  have hsz := drop_size hd (by obtain ⟨Z, hZ⟩ := tnode_head _ _ _ h; rw [hZ]; simp)
  rw [List.length_append, bytesOf_length] at hsz
  simp only [tnode] at hd hsz ⊢
  generalize hbody : (if innerP n = true then Gd.opt n.f0 ++ tmany (tnode fl) (pnode fl) n.f3.toNat rest else leafT n) = body at hd hsz ⊢
  rw [bytesOf_app, bytesOf_app, k40, k41, List.append_assoc, List.append_assoc] at hd
  have hd1 : (bytesOf t).drop p = 40 :: (bytesOf body ++ 41 :: R) := hd
  have hd2 : (bytesOf t).drop (p + 1) = bytesOf body ++ 41 :: R := by rw [← List.drop_drop, hd1]; rfl
  have hd3 := drop_more hd2
  rw [bytesOf_length] at hd3
  rw [ByteArray.size_append, ByteArray.size_append, z40, z41] at hsz ⊢
  have hfin : ∀ (L2 : List Nd), Qr.fin t ((p + 1 + body.size : Nat) : Int) L2 false = some (t, ((p + (1 + body.size + 1) : Nat) : Int), L2, false) := by
   intro L2
   unfold Qr.fin
   rw [if_neg (by simp), nx_at t false _ 41 R hd3, Option.bind_some]
   dsimp only
   rw [if_pos rfl, w64 (x := ((p + 1 + body.size : Nat) : Int) + 1) (by omega) (by omega)]
   congr 3
   omega
  rw [Qr.one, nx_at t false p 40 _ hd1, Option.bind_some]
  dsimp only
  rw [if_pos rfl, if_neg (by omega), if_neg (by omega), w64 (x := (p : Int) + 1) (by omega) (by omega), show (p : Int) + 1 = ((p + 1 : Nat) : Int) by omega]
  simp only [pnode] at h
  by_cases hin : innerP n = true
  ·rw [if_pos hin] at h hbody
   obtain ⟨y, hy, h⟩ := Option.bind_eq_some_iff.1 h
   obtain rfl := Option.some.inj h
   obtain ⟨hop, hf1, hf2, hm1, hm2⟩ := inner_cases n hin
   obtain ⟨c, hc, hoc⟩ := opt_bytes n.f0 hop
   subst hbody
   rw [bytesOf_app, hc] at hd2
   have hd4 : (bytesOf t).drop (p + 1) = c :: (bytesOf (tmany (tnode fl) (pnode fl) n.f3.toNat rest) ++ 41 :: R) := hd2
   have hd5 : (bytesOf t).drop (p + 1 + 1) = bytesOf (tmany (tnode fl) (pnode fl) n.f3.toNat rest) ++ 41 :: R := by rw [← List.drop_drop, hd4]; rfl
   simp only at hL hdeep
   have hos := opt_size n.f0
   rw [ByteArray.size_append, hos] at hsz hfin
   rw [nx_at t false _ c _ hd4, Option.bind_some]
   dsimp only
   rw [hoc, if_neg (by omega), w64 (x := ((p + 1 : Nat) : Int) + 1) (by omega) (by omega), show ((p + 1 : Nat) : Int) + 1 = ((p + 1 + 1 : Nat) : Int) by omega,
    lpo_at t ht fl (5 - deep) _ (fun l x p L R h1 h2 h3 h4 => by
     rw [w64 (x := (deep : Int) + 1) (by omega) (by omega), show (deep : Int) + 1 = ((deep + 1 : Nat) : Int) by omega]
     exact one_at t ht fl k l x p L (deep + 1) R h1 h2 (by have := (pnode_le fl l x h1).2.2.1; omega) h4 (by omega)) R n.f3.toNat k rest y (p + 1 + 1) L ⟨n.f0, ⟨#[]⟩, ⟨#[]⟩, 0⟩ [] hy (by simp; omega) (by omega) hd5 (by omega) (by simp) (by simp; omega), Option.bind_some]
   dsimp only
   rw [show p + 1 + 1 + (tmany (tnode fl) (pnode fl) n.f3.toNat rest).size = p + 1 + (1 + (tmany (tnode fl) (pnode fl) n.f3.toNat rest).size) by omega, hfin, ByteArray.size_append, hos]
   have hnn : (⟨n.f0, ⟨#[]⟩, ⟨#[]⟩, 0 + (n.f3.toNat : Int)⟩ : Nd) = n := by
    obtain ⟨o, a, v, m⟩ := n
    simp only at hf1 hf2 hm1
    rw [ba_size0 hf1, ba_size0 hf2]
    congr 1
    simp only
    omega
   rw [hnn]
   rfl
  ·rw [if_neg hin] at h hbody
   by_cases hle : leafP n = true
   ·rw [if_pos hle] at h
    obtain rfl := Option.some.inj h
    subst hbody
    obtain ⟨c, Z, hc, hnc⟩ := leaf_head n hle
    have hne := nch_ne hnc
    have hd4 : (bytesOf t).drop (p + 1) = c :: (Z ++ 41 :: R) := by rw [hd2, hc]; rfl
    have hoc : Qr.opOf c = 0 := by
     unfold Qr.opOf
     rw [if_neg hne.2.1, if_neg hne.2.2.1, if_neg hne.1]
    rw [nx_at t false _ c _ hd4, Option.bind_some]
    dsimp only
    rw [if_pos hoc, item_at t ht n hle (p + 1) k R hd2 (by omega), Option.bind_some]
    dsimp only
    rw [hfin]
    have hm := (leaf_cases n hle).2.2.2
    have hnn : (⟨n.f0, n.f1, n.f2, 0⟩ : Nd) = n := by
     obtain ⟨o, a, v, m⟩ := n
     simp only at hm
     rw [hm]
    rw [hnn]
    rfl
   ·rw [if_neg hle] at h; cases h
theorem nx_cases (t : ByteArray) (a : Int) (b : Bool) (h0 : 0 ≤ a) : (a ≥ t.size ∧ Qr.nx t a b = some (0, true)) ∨ (a < t.size ∧ Qr.nx t a b = some (bt t a, b)) := by
 unfold Qr.nx
 by_cases h : a ≥ (t.size : Int)
 ·exact .inl ⟨h, by rw [if_pos h]⟩
 ·exact .inr ⟨by omega, by rw [if_neg h, if_pos h0]⟩
theorem next_tot (t : ByteArray) (a : Int) (b : Bool) (h0 : 0 ≤ a) : ∃ c b', Qr.next.f t a rF b = some (c, t, a, b') := by
 unfold Qr.next.f
 by_cases h : a ≥ (t.size : Int)
 ·exact ⟨_, _, by rw [if_pos h]⟩
 ·exact ⟨_, _, by rw [if_neg h, if_pos h0, if_pos (by omega)]⟩
theorem till_tot (s t : ByteArray) (hs : s.size ≤ 100) (ht : t.size ≤ 8000) (a : Int) (b : Bool) (k : Nat) (h0 : 0 ≤ a) (h1 : a ≤ 9000) (hk : 830000 ≤ k) : ∃ v q b', Qr.till.f k t a rF b s = some (v, t, q, b') ∧ v.size ≤ 8000 ∧ 0 ≤ q ∧ q ≤ 9000 ∧ (a ≤ 8000 → q ≤ 8000) := by
 unfold Qr.till.f
 by_cases h : a > (t.size : Int)
 ·exact ⟨_, _, _, by rw [if_pos h], by decide, h0, h1, fun h => h⟩
 ·rw [if_neg h]
  obtain ⟨q, h2, h3, h4⟩ := rd_some s t rF b a hs (by omega) h0 (t.size - a.toNat) k a (Int.le_refl _) (by omega) (by omega)
  exact ⟨_, _, _, h4, by rw [ByteArray.size_extract]; omega, by omega, by omega, fun _ => by omega⟩
theorem item_tot (t : ByteArray) (ht : t.size ≤ 8000) (a : Int) (b : Bool) (k : Nat) (h0 : 0 ≤ a) (h1 : a ≤ 8001) (hk : 840000 ≤ k) : ∃ r1 r2 r3 r4 q b', Qr.item.f k t a rF b = some (r1, r2, r3, r4, t, q, b') ∧ 0 ≤ q ∧ q ≤ 9000 := by
 have hj1 : ∀ (k : Nat) (v : ByteArray) (e : Bool) (q : Int) (b : Bool) (o : Int) (x y : ByteArray), 0 < k → 0 ≤ q → q ≤ 8900 → ∃ r1 r2 r3 r4 q' b', Qr.item.j1 k v e t q rF b o x y 0 = some (r1, r2, r3, r4, t, q', b') ∧ 0 ≤ q' ∧ q' ≤ 9000 := by
  intro k v e q b o x y hk hq hq2
  obtain ⟨k, rfl⟩ : ∃ z, k = z + 1 := ⟨k - 1, by omega⟩
  rw [Qr.item.j1, w64 (x := q + 1) (by omega) (by omega)]
  cases e with
  | false => rw [if_neg (by simp)]; exact ⟨_, _, _, _, _, _, rfl, hq, by omega⟩
  | true =>
   rw [if_pos rfl]
   split
   ·exact ⟨_, _, _, _, _, _, rfl, by omega, by omega⟩
   ·exact ⟨_, _, _, _, _, _, rfl, by omega, by omega⟩
 have hj0 : ∀ (a : Int) (b : Bool) (o : Int) (x : ByteArray), 0 ≤ a → a ≤ 8500 → ∃ r1 r2 r3 r4 q b', Qr.item.j0 k t a rF b o x (⟨#[]⟩ : ByteArray) 0 = some (r1, r2, r3, r4, t, q, b') ∧ 0 ≤ q ∧ q ≤ 9000 := by
  intro a b o x ha ha2
  obtain ⟨k, rfl⟩ : ∃ z, k = z + 1 := ⟨k - 1, by omega⟩
  obtain ⟨v, q, b1, e1, hv, hq, hq2, hq3⟩ := till_tot (⟨#[42, 41]⟩ : ByteArray) t (by decide) ht (wrap64 (a + 1)) b k (by rw [w64 (x := a + 1) (by omega) (by omega)]; omega) (by rw [w64 (x := a + 1) (by omega) (by omega)]; omega) (by omega)
  have hq4 : q ≤ 8900 := by
   by_cases h8 : a + 1 ≤ 8000
   ·have := hq3 (by rw [w64 (x := a + 1) (by omega) (by omega)]; exact h8); omega
   ·unfold Qr.till.f at e1
    rw [w64 (x := a + 1) (by omega) (by omega), if_pos (by omega)] at e1
    simp only [Option.some.injEq, Prod.mk.injEq] at e1
    omega
  obtain ⟨pv, e2⟩ := plain_total v (by omega) k (by omega)
  rw [Qr.item.j0, e1, Option.bind_some]
  dsimp only
  rw [e2, Option.bind_some]
  cases b1 with
  | true => rw [if_pos rfl]; exact hj1 k _ _ q _ _ _ _ (by omega) hq hq4
  | false =>
   rw [if_neg (by simp)]
   obtain ⟨c, b2, e3⟩ := next_tot t q false hq
   rw [e3, Option.bind_some]
   exact hj1 k _ _ q _ _ _ _ (by omega) hq hq4
 obtain ⟨v, q, b1, e1, hv, hq, hq2, hq3⟩ := till_tot (⟨#[61, 60, 62, 41]⟩ : ByteArray) t (by decide) ht a b k h0 (by omega) (by omega)
 have hq4 : q ≤ 8400 := by
  by_cases h8 : a ≤ 8000
  ·have := hq3 h8; omega
  ·unfold Qr.till.f at e1
   rw [if_pos (by omega)] at e1
   simp only [Option.some.injEq, Prod.mk.injEq] at e1
   omega
 obtain ⟨c, b2, e3⟩ := next_tot t q b1 hq
 unfold Qr.item.f
 rw [e1, Option.bind_some]
 dsimp only
 rw [e3, Option.bind_some]
 dsimp only
 rw [w64 (x := q + 1) (by omega) (by omega)]
 split
 ·exact hj0 _ _ _ _ (by omega) (by omega)
 ·split
  ·exact hj0 _ _ _ _ (by omega) (by omega)
  ·exact hj0 _ _ _ _ hq (by omega)
theorem fin_tot (t : ByteArray) (ht : t.size ≤ 8000) (a : Int) (L : List Nd) (b : Bool) (h0 : b = false → 0 ≤ a ∧ a ≤ 9500) : ∃ a' b', Qr.fin t a L b = some (t, a', L, b') ∧ (b' = false → 0 ≤ a' ∧ a' ≤ t.size) := by
 unfold Qr.fin
 cases b with
 | true => exact ⟨a, true, by rw [if_pos rfl], fun h => by cases h⟩
 | false =>
  obtain ⟨h1, h2⟩ := h0 rfl
  rw [if_neg (by simp)]
  rcases nx_cases t a false h1 with ⟨h3, e⟩ | ⟨h3, e⟩
  ·rw [e, Option.bind_some]
   dsimp only
   rw [if_neg (by decide)]
   exact ⟨_, _, rfl, fun h => by cases h⟩
  ·rw [e, Option.bind_some]
   dsimp only
   split
   ·rw [w64 (x := a + 1) (by omega) (by omega)]
    exact ⟨_, _, rfl, fun _ => ⟨by omega, by omega⟩⟩
   ·exact ⟨_, _, rfl, fun h => by cases h⟩
theorem up_len (L : List Nd) (i : Nat) (x : Int) : (Qr.up L i x).length = L.length := by unfold Qr.up; rw [List.length_set]
theorem lpo_tot (t : ByteArray) (ht : t.size ≤ 8000) (g : ByteArray → Int → List Nd → Bool → Option Qr.St)
  (hg : ∀ (a : Int) (L : List Nd), 0 ≤ a → a ≤ 9500 → L.length ≤ 20 → ∃ a' L' b', g t a L false = some (t, a', L', b') ∧ L.length ≤ L'.length ∧ L'.length ≤ 20 ∧ (b' = false → L.length < L'.length ∧ 0 ≤ a' ∧ a' ≤ t.size)) (i : Nat) :
  ∀ (m : Nat) (a : Int) (L : List Nd) (b : Bool), i < L.length → L.length ≤ 20 → (b = false → 0 ≤ a ∧ a ≤ 9500) → 23 ≤ m + L.length ∨ (b = true ∧ 1 ≤ m) → ∃ a' L' b', Qr.lpo g i m t a L b = some (t, a', L', b') ∧ L.length ≤ L'.length ∧ L'.length ≤ 20 ∧ (b' = false → 0 ≤ a' ∧ a' ≤ 9500)
 | 0, a, L, b, hi, hL, ha, hm => by omega
 | m + 1, a, L, b, hi, hL, ha, hm => by
  rw [Qr.lpo]
  cases b with
  | true => exact ⟨a, L, true, by rw [if_pos rfl], Nat.le_refl _, hL, fun h => by cases h⟩
  | false =>
   obtain ⟨h1, h2⟩ := ha rfl
   have hm2 : 23 ≤ m + 1 + L.length := by
    rcases hm with h | ⟨h, _⟩
    ·exact h
    ·cases h
   rw [if_neg (by simp)]
   rcases nx_cases t a false h1 with ⟨h3, e⟩ | ⟨h3, e⟩
   ·rw [e, Option.bind_some]
    dsimp only
    rw [if_neg (by decide)]
    exact ⟨_, _, _, rfl, Nat.le_refl _, hL, fun h => by cases h⟩
   ·rw [e, Option.bind_some]
    dsimp only
    split
    ·obtain ⟨a1, L1, b1, e1, h4, h5, h6⟩ := hg a L h1 h2 hL
     rw [e1, Option.bind_some]
     dsimp only
     rw [if_pos (by omega)]
     obtain ⟨a2, L2, b2, e2, h7, h8, h9⟩ := lpo_tot t ht g hg i m a1 (Qr.up L1 i (wrap64 ((L1.getD i z64).f3 + 1))) b1 (by rw [up_len]; omega) (by rw [up_len]; omega) (fun h => ⟨(h6 h).2.1, by have := (h6 h).2.2; omega⟩) (by
      rw [up_len]
      cases b1 with
      | true => exact .inr ⟨rfl, by omega⟩
      | false => have := (h6 rfl).1; exact .inl (by omega))
     rw [up_len] at h7
     exact ⟨_, _, _, e2, by omega, h8, h9⟩
    ·exact ⟨_, _, _, rfl, Nat.le_refl _, hL, fun _ => ⟨h1, h2⟩⟩
theorem one_tot (t : ByteArray) (ht : t.size ≤ 8000) : ∀ (e k : Nat) (a : Int) (L : List Nd) (deep : Nat), deep + e = 6 → 0 ≤ a → a ≤ 9500 → L.length ≤ 20 → 900000 + e ≤ k → ∃ a' L' b', Qr.one k t a L false (deep : Int) = some (t, a', L', b') ∧ L.length ≤ L'.length ∧ L'.length ≤ 20 ∧ (b' = false → L.length < L'.length ∧ 0 ≤ a' ∧ a' ≤ t.size)
 | e, k, a, L, deep, he, h0, h1, hL, hk => by
  obtain ⟨k, rfl⟩ : ∃ q, k = q + 1 := ⟨k - 1, by omega⟩
  rw [Qr.one]
  have bad : ∃ a' L' b', (some (t, a, L, true) : Option Qr.St) = some (t, a', L', b') ∧ L.length ≤ L'.length ∧ L'.length ≤ 20 ∧ (b' = false → L.length < L'.length ∧ 0 ≤ a' ∧ a' ≤ t.size) := ⟨a, L, true, rfl, Nat.le_refl _, hL, fun h => by cases h⟩
  rcases nx_cases t a false h0 with ⟨h3, e1⟩ | ⟨h3, e1⟩
  ·rw [e1, Option.bind_some]
   dsimp only
   rw [if_neg (by decide)]
   exact bad
  ·rw [e1, Option.bind_some]
   dsimp only
   by_cases c40 : bt t a = 40
   case neg => rw [if_neg c40]; exact bad
   rw [if_pos c40]
   by_cases hd : (deep : Int) > 5
   ·rw [if_pos hd]; exact bad
   rw [if_neg hd]
   by_cases hl : (L.length : Int) ≥ 20
   ·rw [if_pos hl]; exact bad
   rw [if_neg hl, w64 (x := a + 1) (by omega) (by omega)]
   have hnx : ∃ d b1, Qr.nx t (a + 1) false = some (d, b1) := by
    rcases nx_cases t (a + 1) false (by omega) with ⟨_, e2⟩ | ⟨_, e2⟩
    ·exact ⟨_, _, e2⟩
    ·exact ⟨_, _, e2⟩
   obtain ⟨d, b1, e2⟩ := hnx
   rw [e2, Option.bind_some]
   dsimp only
   split
   ·obtain ⟨r1, r2, r3, r4, q, b2, e3, h4, h5⟩ := item_tot t ht (a + 1) b1 k (by omega) (by omega) (by omega)
    rw [e3, Option.bind_some]
    dsimp only
    obtain ⟨a2, b3, e4, h6⟩ := fin_tot t ht q (L ++ [⟨r1, r2, r3, r4⟩]) b2 (fun _ => ⟨h4, by omega⟩)
    exact ⟨_, _, _, e4, by simp, by simp; omega, fun h => ⟨by simp, h6 h⟩⟩
   ·have hrec : ∀ (a : Int) (L : List Nd), 0 ≤ a → a ≤ 9500 → L.length ≤ 20 → ∃ a' L' b', (fun t a l b => Qr.one k t a l b (wrap64 ((deep : Int) + 1))) t a L false = some (t, a', L', b') ∧ L.length ≤ L'.length ∧ L'.length ≤ 20 ∧ (b' = false → L.length < L'.length ∧ 0 ≤ a' ∧ a' ≤ t.size) := by
     intro a L h4 h5 h6
     show ∃ a' L' b', Qr.one k t a L false (wrap64 ((deep : Int) + 1)) = some (t, a', L', b') ∧ _
     rw [w64 (x := (deep : Int) + 1) (by omega) (by omega), show (deep : Int) + 1 = ((deep + 1 : Nat) : Int) by omega]
     match e, he, hk with
     | 0, he, hk => omega
     | e + 1, he, hk => exact one_tot t ht e k a L (deep + 1) (by omega) h4 h5 h6 (by omega)
    rw [w64 (x := a + 1 + 1) (by omega) (by omega)]
    obtain ⟨a3, L3, b3, e3, h4, h5, h6⟩ := lpo_tot t ht (fun t a l b => Qr.one k t a l b (wrap64 ((deep : Int) + 1))) hrec L.length k (a + 1 + 1) (L ++ [⟨Qr.opOf d, ⟨#[]⟩, ⟨#[]⟩, 0⟩]) b1 (by simp) (by simp; omega) (fun _ => ⟨by omega, by omega⟩) (by simp; omega)
    rw [e3, Option.bind_some]
    dsimp only
    simp only [List.length_append, List.length_singleton] at h4
    obtain ⟨a4, b4, e4, h7⟩ := fin_tot t ht a3 L3 b3 h6
    exact ⟨_, _, _, e4, by omega, h5, fun h => ⟨by omega, h7 h⟩⟩
 termination_by e => e
theorem unL_escL : ∀ l : List Int, (∀ x ∈ l, 0 ≤ x) → Gs.unL (Gd.escL l) = l
 | [], _ => Gs.unL_nil
 | c :: l, h => by
  have ih := unL_escL l (fun x hx => h x (List.mem_cons_of_mem _ hx))
  have hc := h c (List.mem_cons_self)
  rw [show Gd.escL (c :: l) = Gd.one c ++ Gd.escL l from by simp [Gd.escL], one_of c hc]
  by_cases c1 : c = 42
  ·subst c1; rw [if_pos rfl]
   show Gs.unL (92 :: 50 :: 97 :: Gd.escL l) = _
   rw [Gs.unL_some (d := 42) rfl]; exact congrArg _ ih
  rw [if_neg c1]
  by_cases c2 : c = 40
  ·subst c2; rw [if_pos rfl]
   show Gs.unL (92 :: 50 :: 56 :: Gd.escL l) = _
   rw [Gs.unL_some (d := 40) rfl]; exact congrArg _ ih
  rw [if_neg c2]
  by_cases c3 : c = 41
  ·subst c3; rw [if_pos rfl]
   show Gs.unL (92 :: 50 :: 57 :: Gd.escL l) = _
   rw [Gs.unL_some (d := 41) rfl]; exact congrArg _ ih
  rw [if_neg c3]
  by_cases c4 : c = 92
  ·subst c4; rw [if_pos rfl]
   show Gs.unL (92 :: 53 :: 99 :: Gd.escL l) = _
   rw [Gs.unL_some (d := 92) rfl]; exact congrArg _ ih
  rw [if_neg c4]
  show Gs.unL (c :: Gd.escL l) = _
  rw [Gs.unL_none (Gs.lkL_head c4), ih]
theorem unm_esc (s : ByteArray) : Gs.unm (Gd.esc s) = s := by
 unfold Gs.unm Gd.esc
 have hb : ∀ x ∈ bytesOf s, 0 ≤ x ∧ x < 256 := by
  intro x hx
  unfold bytesOf at hx
  obtain ⟨b, _, rfl⟩ := List.mem_map.1 hx
  have := b.toNat_lt
  omega
 have h2 : ∀ x ∈ Gd.escL (bytesOf s), 0 ≤ x ∧ x < 256 := by
  intro x hx
  unfold Gd.escL at hx
  obtain ⟨c, hc, hx⟩ := List.mem_flatMap.1 hx
  have hcb := hb c hc
  rw [one_of c hcb.1] at hx
  repeat' split at hx
  all_goals simp at hx
  all_goals omega
 rw [bytes_str _ h2, unL_escL _ (fun x hx => (hb x hx).1)]
 exact Gd.str_bytes s
theorem u8_inj {a b : UInt8} (h : (a.toNat : Int) = (b.toNat : Int)) : a = b := UInt8.toNat.inj (by omega)
theorem indexByte_at (d : UInt8) (c : Int) (hd : (d.toNat : Int) = c) : ∀ (X : List Int) (l : List UInt8) (Y : List Int), l.map (fun b => (b.toNat : Int)) = X ++ c :: Y → (∀ x ∈ X, x ≠ c) → Lib.indexByte l d = (X.length : Int)
 | [], [], Y, h, _ => by simp at h
 | [], b :: l, Y, h, _ => by
  have hb : (b.toNat : Int) = c := (List.cons.inj h).1
  have : b = d := u8_inj (by omega)
  subst this
  simp [Lib.indexByte]
 | x :: X, [], Y, h, _ => by simp at h
 | x :: X, b :: l, Y, h, hX => by
  have hb : (b.toNat : Int) = x := (List.cons.inj h).1
  have hne : (b == d) = false := beq_false_of_ne (fun e => by subst e; exact hX x List.mem_cons_self (by omega))
  have ih := indexByte_at d c hd X l Y (List.cons.inj h).2 (fun y hy => hX y (List.mem_cons_of_mem _ hy))
  have h1 : (((X.length : Nat) : Int) == -1) = false := beq_false_of_ne (by omega)
  simp only [Lib.indexByte, hne, ih, h1, List.length_cons, if_false, Bool.false_eq_true, ↓reduceIte]
  omega
theorem cut_at (a : ByteArray) (ha : a.size ≤ 100000) (d : UInt8) (X : List Int) (Y : List Int) (h : bytesOf a = X ++ (d.toNat : Int) :: Y) (hX : ∀ x ∈ X, x ≠ (d.toNat : Int)) : Qt.f a ⟨#[d]⟩ = some (strOfNums X, strOfNums Y, true) := by
 have hi := indexByte_at d _ rfl X a.data.toList Y h hX
 have hsz : X.length + (Y.length + 1) = a.size := by rw [← bytesOf_length, h]; simp
 show (if a.size ≤ 4611686018427387904 then (if 0 ≤ Lib.indexByte a.data.toList d then some (a.extract 0 (Lib.indexByte a.data.toList d).toNat, a.extract ((Lib.indexByte a.data.toList d).toNat + 1) a.size, true) else some (a, ⟨#[]⟩, false)) else none) = _
 rw [if_pos (by omega), hi, if_pos (by omega), show ((X.length : Nat) : Int).toNat = X.length from rfl]
 have h1 : a.extract 0 X.length = strOfNums X := by
  have := ext_take a 0 X ((d.toNat : Int) :: Y) (by simpa using h)
  simpa using this
 have h2 : a.extract (X.length + 1) a.size = strOfNums Y := by
  have h3 : (bytesOf a).drop (X.length + 1) = Y ++ [] := by
   rw [h, ← List.drop_drop, List.drop_left]; simp
  have := ext_take a (X.length + 1) Y [] h3
  rw [show X.length + 1 + Y.length = a.size by omega] at this
  exact this
 rw [h1, h2]
theorem cut_tot (a : ByteArray) (ha : a.size ≤ 100000) (d : UInt8) : ∃ x y b, Qt.f a ⟨#[d]⟩ = some (x, y, b) ∧ x.size ≤ a.size ∧ y.size ≤ a.size := by
 have e : Qt.f a ⟨#[d]⟩ = (if a.size ≤ 4611686018427387904 then (if 0 ≤ Lib.indexByte a.data.toList d then some (a.extract 0 (Lib.indexByte a.data.toList d).toNat, a.extract ((Lib.indexByte a.data.toList d).toNat + 1) a.size, true) else some (a, ⟨#[]⟩, false)) else none) := rfl
 rw [e, if_pos (by omega)]
 split
 ·exact ⟨_, _, _, rfl, by rw [ByteArray.size_extract]; omega, by rw [ByteArray.size_extract]; omega⟩
 ·exact ⟨_, _, _, rfl, Nat.le_refl _, Nat.zero_le _⟩
theorem son1_toList (c : Int) : (strOfNums [c]).toList = [c.toNat.toUInt8] := by rw [Go.Lib.toList_data, strOfNums_data]; rfl
theorem prefix_f (a : ByteArray) (d : UInt8) : Qu.f a ⟨#[d]⟩ = some (decide ((bytesOf a).head? = some (d.toNat : Int))) := by
 unfold Qu.f Va.f
 have hd : (⟨#[d]⟩ : ByteArray).size = 1 := rfl
 have hl : (⟨#[d]⟩ : ByteArray).toList = [d] := by rw [Go.Lib.toList_data]
 rw [hd, hl]
 cases e : bytesOf a with
 | nil =>
  have := congrArg List.length e
  rw [bytesOf_length, List.length_nil] at this
  rw [if_neg (by omega)]; rfl
 | cons c Y =>
  have := congrArg List.length e
  rw [bytesOf_length, List.length_cons] at this
  have h1 := ext_take a 0 [c] Y (by simpa using e)
  rw [show 0 + [c].length = 1 from rfl] at h1
  have hc := bytes_range a c (by rw [e]; exact List.mem_cons_self)
  rw [if_pos (by omega), if_pos (by omega), if_pos (by omega), Option.bind_some, show ((1 : Nat) : Int).toNat = 1 from rfl, h1, son1_toList]
  congr 1
  by_cases hcd : c = (d.toNat : Int)
  ·subst hcd; simp
  ·rw [decide_eq_false (by simpa using hcd)]
   refine beq_false_of_ne (fun h => hcd ?_)
   have h2 := congrArg UInt8.toNat (List.cons.inj h).1
   simp at h2
   omega
theorem trimPrefix_f (a : ByteArray) (d : UInt8) : Qy.f a ⟨#[d]⟩ = some (if (bytesOf a).head? = some (d.toNat : Int) then a.extract 1 a.size else a) := by
 unfold Qy.f Vc.f
 have hp := prefix_f a d
 unfold Qu.f at hp
 have hp2 : Va.f a ⟨#[d]⟩ = some (decide ((bytesOf a).head? = some (d.toNat : Int))) := by
  obtain ⟨x, hx, h⟩ := Option.bind_eq_some_iff.1 hp
  rw [hx]; exact h
 rw [hp2, Option.bind_some]
 have hd : (⟨#[d]⟩ : ByteArray).size = 1 := rfl
 rw [hd]
 by_cases h : (bytesOf a).head? = some (d.toNat : Int)
 ·have hs : 1 ≤ a.size := by
   rw [← bytesOf_length]
   cases e : bytesOf a with
   | nil => rw [e] at h; cases h
   | cons c Y => simp
  rw [if_pos h, decide_eq_true h, if_pos rfl, if_pos (by omega), if_pos (by omega)]; rfl
 ·rw [if_neg h, decide_eq_false h, if_neg (by simp)]; rfl
theorem suffix_f (a : ByteArray) (ha : a.size ≤ 100000) (d : UInt8) : Vb.f a ⟨#[d]⟩ = some (decide ((bytesOf a).getLast? = some (d.toNat : Int))) := by
 unfold Vb.f
 have hd : (⟨#[d]⟩ : ByteArray).size = 1 := rfl
 have hl : (⟨#[d]⟩ : ByteArray).toList = [d] := by rw [Go.Lib.toList_data]
 rw [hd, hl]
 rcases List.eq_nil_or_concat (bytesOf a) with e | ⟨X, c, e⟩
 ·have := congrArg List.length e
  rw [bytesOf_length, List.length_nil] at this
  rw [if_neg (by omega), e]; rfl
 ·rw [List.concat_eq_append] at e
  have := congrArg List.length e
  rw [bytesOf_length, List.length_append, List.length_singleton] at this
  have h0 : (bytesOf a).drop X.length = [c] ++ [] := by rw [e, List.drop_left]; rfl
  have h1 := ext_take a X.length [c] [] h0
  rw [show X.length + [c].length = a.size from this.symm] at h1
  have hc := bytes_range a c (by rw [e]; simp)
  rw [if_pos (by omega), w64 (x := (a.size : Int) - ((1 : Nat) : Int)) (by omega) (by omega), if_pos (by omega), if_pos (by omega), show ((a.size : Int) - ((1 : Nat) : Int)).toNat = X.length by omega, h1, son1_toList, e, List.getLast?_concat]
  congr 1
  by_cases hcd : c = (d.toNat : Int)
  ·subst hcd; simp
  ·rw [decide_eq_false (by simpa using hcd)]
   refine beq_false_of_ne (fun h => hcd ?_)
   have h2 := congrArg UInt8.toNat (List.cons.inj h).1
   simp at h2
   omega
theorem hasSuffix_f (a : ByteArray) (ha : a.size ≤ 100000) (d : UInt8) : Qv.f a ⟨#[d]⟩ = some (decide ((bytesOf a).getLast? = some (d.toNat : Int))) := by
 unfold Qv.f
 rw [suffix_f a ha d]; rfl
theorem trimSuffix_f (a : ByteArray) (ha : a.size ≤ 100000) (d : UInt8) : Qz.f a ⟨#[d]⟩ = some (if (bytesOf a).getLast? = some (d.toNat : Int) then a.extract 0 (a.size - 1) else a) := by
 unfold Qz.f Vd.f
 have hd : (⟨#[d]⟩ : ByteArray).size = 1 := rfl
 rw [suffix_f a ha d, Option.bind_some, hd]
 by_cases h : (bytesOf a).getLast? = some (d.toNat : Int)
 ·have hs : 1 ≤ a.size := by
   rw [← bytesOf_length]
   cases e : bytesOf a with
   | nil => rw [e] at h; cases h
   | cons c Y => simp
  rw [if_pos h, decide_eq_true h, if_pos rfl, w64 (x := (a.size : Int) - ((1 : Nat) : Int)) (by omega) (by omega), if_pos (by omega), if_pos (by omega), show ((a.size : Int) - ((1 : Nat) : Int)).toNat = a.size - 1 by omega]; rfl
 ·rw [if_neg h, decide_eq_false h, if_neg (by simp)]; rfl
theorem unm_f (a : ByteArray) (h : a.size ≤ 100000) : Gs.f a = some (Gs.unm a) := by
 unfold Gs.f
 rw [if_pos (by omega)]
theorem last_app (X : List Int) (c : Int) : (X ++ [c]).getLast? = some c := List.getLast?_concat
theorem last_mem {l : List Int} {c : Int} (h : l.getLast? = some c) : c ∈ l := List.mem_of_getLast? h
theorem trim_last (X : ByteArray) (c : UInt8) (a : ByteArray) (h : a = X ++ ⟨#[c]⟩) : a.extract 0 (a.size - 1) = X := by
 subst h
 have e : bytesOf (X ++ ⟨#[c]⟩) = bytesOf X ++ [(c.toNat : Int)] := by rw [bytesOf_app]; rfl
 have h1 := ext_take (X ++ ⟨#[c]⟩) 0 (bytesOf X) [(c.toNat : Int)] (by rw [e]; rfl)
 rw [bytesOf_length, son_bytesOf] at h1
 rw [ByteArray.size_append, show (⟨#[c]⟩ : ByteArray).size = 1 from rfl]
 simpa using h1
theorem toList_eq {a b : ByteArray} : (a.toList = b.toList) ↔ a = b := ba_inj
theorem node_at (n : Nd) (hn : leafP n = true) : Gp.f (leafT n) = some (n.f0, n.f1, n.f2, 0) := by
 have hls := leafT_size n hn
 have hn0 := hn
 unfold leafP at hn0
 simp only [Bool.and_eq_true, Bool.or_eq_true, decide_eq_true_eq, beq_iff_eq] at hn0
 obtain ⟨⟨hname, hm⟩, hop⟩ := hn0
 have hb := name_bytes hname
 have hns := NameP_size hname
 obtain ⟨o, a, v, m⟩ := n
 simp only at hname hm hop hb hns
 subst hm
 have he := esc_size v
 have hev := esc_bytes_ne v
 have k1 : bytesOf (⟨#[61]⟩ : ByteArray) = [61] := rfl
 have k2 : bytesOf (⟨#[61, 42]⟩ : ByteArray) = [61, 42] := rfl
 have k3 : bytesOf (⟨#[42]⟩ : ByteArray) = [42] := rfl
 have k4 : bytesOf (⟨#[62, 61]⟩ : ByteArray) = [62, 61] := rfl
 have k5 : bytesOf (⟨#[60, 61]⟩ : ByteArray) = [60, 61] := rfl
 have l42 : (⟨#[42]⟩ : ByteArray).toList = ([42] : List UInt8) := by rw [Go.Lib.toList_data]
 have hcut : ∀ (A B T : ByteArray), T.size ≤ 200 → bytesOf T = bytesOf A ++ 61 :: bytesOf B → (∀ x ∈ bytesOf A, x ≠ 61) → Qt.f T ⟨#[61]⟩ = some (A, B, true) := by
  intro A B T hT h hA
  have := cut_at T (by omega) 61 (bytesOf A) (bytesOf B) h hA
  rw [son_bytesOf, son_bytesOf] at this
  exact this
 have ha61 : ∀ x ∈ bytesOf a, x ≠ 61 := fun x hx => (nch_ne (hb x hx)).2.2.2.2.2.2.2.1
 have nolast : ∀ (s : ByteArray) (d : Int), (∀ x ∈ bytesOf s, x ≠ d) → decide ((bytesOf s).getLast? = some d) = false := fun s d h => decide_eq_false (fun e => h d (last_mem e) rfl)
 have a62 : decide ((bytesOf a).getLast? = some ((62 : UInt8).toNat : Int)) = false := nolast a 62 (fun x hx => (nch_ne (hb x hx)).2.2.2.2.2.2.2.2)
 have a60 : decide ((bytesOf a).getLast? = some ((60 : UInt8).toNat : Int)) = false := nolast a 60 (fun x hx => (nch_ne (hb x hx)).2.2.2.2.2.2.1)
 have e42 : decide ((bytesOf (Gd.esc v)).getLast? = some ((42 : UInt8).toNat : Int)) = false := nolast _ 42 (fun x hx => (hev x hx).2.2)
 have ene : (Gd.esc v).toList ≠ ([42] : List UInt8) := by
  rw [← l42]
  intro e
  have := toList_eq.1 e
  exact (hev 42 (by rw [this, k3]; simp)).2.2 rfl
 unfold Gp.f
 rcases hop with ⟨rfl, hv⟩ | ⟨((rfl | rfl) | rfl) | rfl, hv⟩
 ·have hv0 : v = ⟨#[]⟩ := ba_size0 (by rw [← data_length]; rw [Go.Lib.toList_data] at hv; rw [hv]; rfl)
  subst hv0
  have hl : leafT ⟨5, a, ⟨#[]⟩, 0⟩ = a ++ (⟨#[61, 42]⟩ : ByteArray) := rfl
  rw [hl] at hls ⊢
  rw [hcut a ⟨#[42]⟩ _ hls (by rw [bytesOf_app, k2, k3]) ha61, Option.bind_some]
  dsimp only
  have u0 : Gs.unm (⟨#[]⟩ : ByteArray) = (⟨#[]⟩ : ByteArray) := unm_esc ⟨#[]⟩
  rw [if_pos l42, unm_f _ (by decide), Option.bind_some, u0]
 ·have hl : leafT ⟨4, a, v, 0⟩ = a ++ (⟨#[61]⟩ : ByteArray) ++ Gd.esc v := rfl
  rw [hl] at hls ⊢
  rw [hcut a (Gd.esc v) _ hls (by rw [bytesOf_app, bytesOf_app, k1, List.append_assoc]; rfl) ha61, Option.bind_some]
  have hvs := value_size hv
  dsimp only
  rw [if_neg ene, hasSuffix_f a (by omega), a62, Option.bind_some, if_neg (by simp), hasSuffix_f a (by omega), a60, Option.bind_some, if_neg (by simp), hasSuffix_f _ (by omega), e42, Option.bind_some, if_neg (by simp), unm_f _ (by omega), unm_esc]
  rfl
 ·have hl : leafT ⟨6, a, v, 0⟩ = a ++ (⟨#[61]⟩ : ByteArray) ++ Gd.esc v ++ (⟨#[42]⟩ : ByteArray) := rfl
  rw [hl] at hls ⊢
  rw [hcut a (Gd.esc v ++ (⟨#[42]⟩ : ByteArray)) _ hls (by rw [bytesOf_app, bytesOf_app, bytesOf_app, bytesOf_app, k1, List.append_assoc, List.append_assoc]; rfl) ha61, Option.bind_some]
  have hvs := value_size hv
  have hsz : (Gd.esc v ++ (⟨#[42]⟩ : ByteArray)).size = (Gd.esc v).size + 1 := by rw [ByteArray.size_append]; rfl
  have hne2 : (Gd.esc v ++ (⟨#[42]⟩ : ByteArray)).toList ≠ ([42] : List UInt8) := by
   intro e
   rw [Go.Lib.toList_data] at e
   have h2 := congrArg List.length e
   rw [data_length, hsz, List.length_singleton] at h2
   exact esc_ne_nil v (by omega) (by rw [Go.Lib.toList_data]; exact List.eq_nil_of_length_eq_zero (by rw [data_length]; omega))
  have hlast : (bytesOf (Gd.esc v ++ (⟨#[42]⟩ : ByteArray))).getLast? = some ((42 : UInt8).toNat : Int) := by rw [bytesOf_app, k3, last_app]; rfl
  dsimp only
  rw [if_neg hne2, hasSuffix_f a (by omega), a62, Option.bind_some, if_neg (by simp), hasSuffix_f a (by omega), a60, Option.bind_some, if_neg (by simp), hasSuffix_f _ (by omega), decide_eq_true hlast, Option.bind_some, if_pos rfl, trimSuffix_f _ (by omega), if_pos hlast, Option.bind_some, trim_last (Gd.esc v) 42 _ rfl, unm_f _ (by omega), unm_esc]
  rfl
 ·have hl : leafT ⟨7, a, v, 0⟩ = a ++ (⟨#[62, 61]⟩ : ByteArray) ++ Gd.esc v := rfl
  have k62 : bytesOf (⟨#[62]⟩ : ByteArray) = [62] := rfl
  rw [hl] at hls ⊢
  rw [hcut (a ++ (⟨#[62]⟩ : ByteArray)) (Gd.esc v) _ hls (by rw [bytesOf_app, bytesOf_app, bytesOf_app, k4, k62, List.append_assoc, List.append_assoc]; rfl) (by rw [bytesOf_app, k62]; intro x hx; rcases List.mem_append.1 hx with h | h; exact ha61 x h; (rw [List.mem_singleton] at h; omega)), Option.bind_some]
  have hvs := value_size hv
  have hsz : (a ++ (⟨#[62]⟩ : ByteArray)).size = a.size + 1 := by rw [ByteArray.size_append]; rfl
  have hlast : (bytesOf (a ++ (⟨#[62]⟩ : ByteArray))).getLast? = some ((62 : UInt8).toNat : Int) := by rw [bytesOf_app, k62, last_app]; rfl
  dsimp only
  rw [if_neg ene, hasSuffix_f _ (by omega), decide_eq_true hlast, Option.bind_some, if_pos rfl, trimSuffix_f _ (by omega), if_pos hlast, Option.bind_some, trim_last a 62 _ rfl, unm_f _ (by omega), unm_esc]
  rfl
 ·have hl : leafT ⟨8, a, v, 0⟩ = a ++ (⟨#[60, 61]⟩ : ByteArray) ++ Gd.esc v := rfl
  have k60 : bytesOf (⟨#[60]⟩ : ByteArray) = [60] := rfl
  rw [hl] at hls ⊢
  rw [hcut (a ++ (⟨#[60]⟩ : ByteArray)) (Gd.esc v) _ hls (by rw [bytesOf_app, bytesOf_app, bytesOf_app, k5, k60, List.append_assoc, List.append_assoc]; rfl) (by rw [bytesOf_app, k60]; intro x hx; rcases List.mem_append.1 hx with h | h; exact ha61 x h; (rw [List.mem_singleton] at h; omega)), Option.bind_some]
  have hvs := value_size hv
  have hsz : (a ++ (⟨#[60]⟩ : ByteArray)).size = a.size + 1 := by rw [ByteArray.size_append]; rfl
  have hlast : (bytesOf (a ++ (⟨#[60]⟩ : ByteArray))).getLast? = some ((60 : UInt8).toNat : Int) := by rw [bytesOf_app, k60, last_app]; rfl
  have hn62 : decide ((bytesOf (a ++ (⟨#[60]⟩ : ByteArray))).getLast? = some ((62 : UInt8).toNat : Int)) = false := by rw [hlast]; decide
  dsimp only
  rw [if_neg ene, hasSuffix_f _ (by omega), hn62, Option.bind_some, if_neg (by simp), hasSuffix_f _ (by omega), decide_eq_true hlast, Option.bind_some, if_pos rfl, trimSuffix_f _ (by omega), if_pos hlast, Option.bind_some, trim_last a 60 _ rfl, unm_f _ (by omega), unm_esc]
  rfl
theorem node_tot (a : ByteArray) (ha : a.size ≤ 8000) : ∃ r1 r2 r3, Gp.f a = some (r1, r2, r3, 0) := by
 obtain ⟨x, y, b, e, hx, hy⟩ := cut_tot a (by omega) 61
 have hu : ∀ s : ByteArray, s.size ≤ 8000 → Gs.f s = some (Gs.unm s) := fun s h => unm_f s (by omega)
 unfold Gp.f
 rw [e, Option.bind_some]
 dsimp only
 rw [hasSuffix_f x (by omega), hasSuffix_f x (by omega), hasSuffix_f y (by omega), trimSuffix_f x (by omega), trimSuffix_f x (by omega), trimSuffix_f y (by omega), hu ⟨#[]⟩ (by decide), hu y (by omega)]
 simp only [Option.bind_some]
 have hty : ∀ c : Prop, [Decidable c] → (if c then y.extract 0 (y.size - 1) else y).size ≤ 8000 := by
  intro c _
  split
  ·rw [ByteArray.size_extract]; omega
  ·omega
 rw [hu _ (hty _)]
 simp only [Option.bind_some]
 repeat' split
 all_goals exact ⟨_, _, _, rfl⟩
theorem bytes_tail (s : ByteArray) (i : Nat) : bytesOf (s.extract i s.size) = (bytesOf s).drop i := by
 unfold bytesOf
 rw [Go.Lib.extract_data, ← List.map_drop, List.take_of_length_le (by rw [List.length_drop, data_length]; omega)]
theorem idx_op (c : Int) (h0 : 0 ≤ c) (h1 : c < 256) : ∃ t, Qw.f (⟨#[38, 124, 33]⟩ : ByteArray) c = some t ∧ wrap64 (t + 1) = Qr.opOf c := by
 refine ⟨_, rfl, ?_⟩
 have hn : c.toNat.toUInt8.toNat = c.toNat := by rw [Nat.toUInt8_eq, UInt8.toNat_ofNat']; omega
 have ne : ∀ d : UInt8, (d.toNat : Int) ≠ c → (d == c.toNat.toUInt8) = false := fun d h => beq_false_of_ne (fun e => h (by rw [e, hn]; omega))
 have eq : ∀ d : UInt8, (d.toNat : Int) = c → (d == c.toNat.toUInt8) = true := fun d h => beq_iff_eq.2 (UInt8.toNat.inj (by rw [hn]; omega))
 show wrap64 (Lib.indexByte [38, 124, 33] c.toNat.toUInt8 + 1) = _
 have m1 : ((-1 : Int) == -1) = true := rfl
 have m0 : ((0 : Int) == -1) = false := rfl
 have m2 : ((0 + 1 : Int) == -1) = false := rfl
 unfold Qr.opOf
 by_cases c1 : c = 38
 ·have e : Lib.indexByte [38, 124, 33] c.toNat.toUInt8 = 0 := by simp only [Lib.indexByte, eq 38 (by rw [c1]; rfl), ↓reduceIte]
  rw [if_pos c1, e, w64 (by decide) (by decide)]; rfl
 rw [if_neg c1]
 by_cases c2 : c = 124
 ·have e : Lib.indexByte [38, 124, 33] c.toNat.toUInt8 = 1 := by simp only [Lib.indexByte, ne 38 (fun e => c1 e.symm), eq 124 (by rw [c2]; rfl), m0, ↓reduceIte, Bool.false_eq_true]; rfl
  rw [if_pos c2, e, w64 (by decide) (by decide)]; rfl
 rw [if_neg c2]
 by_cases c3 : c = 33
 ·have e : Lib.indexByte [38, 124, 33] c.toNat.toUInt8 = 2 := by simp only [Lib.indexByte, ne 38 (fun e => c1 e.symm), ne 124 (fun e => c2 e.symm), eq 33 (by rw [c3]; rfl), m0, m2, ↓reduceIte, Bool.false_eq_true]; rfl
  rw [if_pos c3, e, w64 (by decide) (by decide)]; rfl
 ·have e : Lib.indexByte [38, 124, 33] c.toNat.toUInt8 = -1 := by simp only [Lib.indexByte, ne 38 (fun e => c1 e.symm), ne 124 (fun e => c2 e.symm), ne 33 (fun e => c3 e.symm), m1, ↓reduceIte, Bool.false_eq_true]
  rw [if_neg c3, e, w64 (by decide) (by decide)]; rfl
theorem leaf_no41 (n : Nd) (h : leafP n = true) : ∀ x ∈ bytesOf (leafT n), x ≠ 41 := by
 have h0 := h
 unfold leafP at h0
 simp only [Bool.and_eq_true] at h0
 have hb := name_bytes h0.1.1
 have ha : ∀ x ∈ bytesOf n.f1, x ≠ 41 := fun x hx => (nch_ne (hb x hx)).2.2.2.2.1
 have hv : ∀ x ∈ bytesOf (Gd.esc n.f2), x ≠ 41 := fun x hx => (esc_bytes_ne n.f2 x hx).2.1
 have k1 : bytesOf (⟨#[61]⟩ : ByteArray) = [61] := rfl
 have k2 : bytesOf (⟨#[61, 42]⟩ : ByteArray) = [61, 42] := rfl
 have k3 : bytesOf (⟨#[42]⟩ : ByteArray) = [42] := rfl
 have k4 : bytesOf (⟨#[62, 61]⟩ : ByteArray) = [62, 61] := rfl
 have k5 : bytesOf (⟨#[60, 61]⟩ : ByteArray) = [60, 61] := rfl
 intro x hx
 unfold leafT at hx
 repeat' split at hx
 all_goals simp only [bytesOf_app, k1, k2, k3, k4, k5, List.mem_append, List.mem_cons, List.not_mem_nil, or_false] at hx
 all_goals first
  | (rcases hx with hx | hx | hx <;> first | exact ha x hx | exact hv x hx | omega)
  | (rcases hx with (hx | hx) | hx <;> first | exact ha x hx | exact hv x hx | omega)
  | (rcases hx with ((hx | hx) | hx) | hx <;> first | exact ha x hx | exact hv x hx | omega)
  | (rcases hx with (hx | hx | hx) | hx <;> first | exact ha x hx | exact hv x hx | omega)
theorem rf_l0_at (fl D : Nat) (K : Nat) (x0 : ByteArray) (deep : Nat)
  (hg : ∀ (k : Nat) (l : List Nd) (x : Nat × Nat) (a : ByteArray) (R : List Int), K ≤ k → pnode fl l = some x → x.1 ≤ 20 → x.2 ≤ D → a.size ≤ 100000 → bytesOf a = bytesOf (tnode fl l) ++ R → Gn.f k a (wrap64 ((deep : Int) + 1)) = some (l.take x.1, strOfNums R)) (R : List Int) :
  ∀ (m k : Nat) (l : List Nd) (y : Nat × Nat) (n : Nd) (Q : List Nd) (a : ByteArray), pmany (pnode fl) m l = some y → 1 + Q.length + y.1 ≤ 20 → y.2 ≤ D → a.size ≤ 100000 → bytesOf a = bytesOf (tmany (tnode fl) (pnode fl) m l) ++ 41 :: R → K + 2 * m + 2 ≤ k → 0 ≤ n.f3 → n.f3 + m ≤ 1000 →
   Gn.l0 k x0 (deep : Int) (n :: Q) a = some (⟨n.f0, n.f1, n.f2, n.f3 + m⟩ :: (Q ++ l.take y.1), strOfNums R)
 | 0, k, l, y, n, Q, a, h, hl, hD, ha, hb, hk, h0, h1 => by
  obtain ⟨k, rfl⟩ : ∃ q, k = q + 2 := ⟨k - 2, by omega⟩
  simp only [pmany] at h
  obtain rfl := Option.some.inj h
  have hb2 : bytesOf a = 41 :: R := hb
  have p40 : decide ((bytesOf a).head? = some ((40 : UInt8).toNat : Int)) = false := by rw [hb2]; exact decide_eq_false (by simp)
  have p41 : (bytesOf a).head? = some ((41 : UInt8).toNat : Int) := by rw [hb2]; rfl
  have ht : a.extract 1 a.size = strOfNums R := by rw [← son_bytesOf (a.extract 1 a.size), bytes_tail, hb2]; rfl
  rw [Gn.l0, prefix_f, p40, Option.bind_some, if_neg (by simp), Gn.j2, if_neg (by simp), trimPrefix_f, if_pos p41, Option.bind_some, ht]
  simp
 | m + 1, k, l, y, n, Q, a, h, hl, hD, ha, hb, hk, h0, h1 => by
  obtain ⟨k, rfl⟩ : ∃ q, k = q + 2 := ⟨k - 2, by omega⟩
  simp only [pmany] at h
  obtain ⟨x, hx, h⟩ := Option.bind_eq_some_iff.1 h
  obtain ⟨z, hz, h⟩ := Option.bind_eq_some_iff.1 h
  obtain rfl := Option.some.inj h
  simp only at hl hD
  have hT : tmany (tnode fl) (pnode fl) (m + 1) l = tnode fl l ++ tmany (tnode fl) (pnode fl) m (l.drop x.1) := by simp only [tmany, hx]
  rw [hT, bytesOf_app, List.append_assoc] at hb
  obtain ⟨Z, hZ⟩ := tnode_head fl l x hx
  have hlx := pnode_le fl l x hx
  have p40 : decide ((bytesOf a).head? = some ((40 : UInt8).toNat : Int)) = true := by rw [hb, hZ]; exact decide_eq_true rfl
  have hR : bytesOf (strOfNums (bytesOf (tmany (tnode fl) (pnode fl) m (l.drop x.1)) ++ 41 :: R)) = bytesOf (tmany (tnode fl) (pnode fl) m (l.drop x.1)) ++ 41 :: R :=
   bytes_str _ (fun c hc => bytes_range a c (by rw [hb]; exact List.mem_append_right _ hc))
  have hsz : (strOfNums (bytesOf (tmany (tnode fl) (pnode fl) m (l.drop x.1)) ++ 41 :: R)).size ≤ a.size := by
   rw [← bytesOf_length, hR, ← bytesOf_length, hb]; simp only [List.length_append, List.length_cons]; omega
  have hlen : (l.take x.1).length = x.1 := by rw [List.length_take]; omega
  rw [Gn.l0, prefix_f, p40, Option.bind_some, if_pos rfl, Gn.j2, decide_eq_true (p := (((n :: Q).length : Nat) : Int) ≤ 20) (by rw [List.length_cons]; omega), if_pos rfl, hg k l x a _ (by omega) hx (by omega) (by omega) ha hb, Option.bind_some]
  dsimp only
  rw [if_neg (by rw [hlen]; omega), if_pos (by rw [hlen, List.length_cons]; omega), Option.bind_some, if_pos (by rw [List.length_append, List.length_cons]; omega)]
  have hrd : rd_T64 (n :: Q ++ l.take x.1) 0 = n := rfl
  rw [hrd, w64 (x := n.f3 + 1) (by omega) (by omega)]
  show Gn.l0 k x0 (deep : Int) (⟨n.f0, n.f1, n.f2, n.f3 + 1⟩ :: (Q ++ l.take x.1)) _ = _
  rw [rf_l0_at fl D K x0 deep hg R m k (l.drop x.1) z ⟨n.f0, n.f1, n.f2, n.f3 + 1⟩ (Q ++ l.take x.1) _ hz (by rw [List.length_append, hlen]; omega) (by omega) (by omega) hR (by omega) (by simp only; omega) (by simp only; omega)]
  simp only
  rw [List.append_assoc, ← List.take_add, show n.f3 + 1 + (m : Int) = n.f3 + ((m + 1 : Nat) : Int) by omega]
theorem rf_at : ∀ (fl k : Nat) (l : List Nd) (x : Nat × Nat) (a : ByteArray) (deep : Nat) (R : List Int), pnode fl l = some x → x.1 ≤ 20 → deep + x.2 ≤ 6 → a.size ≤ 100000 → bytesOf a = bytesOf (tnode fl l) ++ R → 100 * fl + 100 ≤ k →
  Gn.f k a (deep : Int) = some (l.take x.1, strOfNums R)
 | 0, k, l, x, a, deep, R, h, _, _, _, _, _ => by simp [pnode] at h
 | fl + 1, k, [], x, a, deep, R, h, _, _, _, _, _ => by simp [pnode] at h
 | fl + 1, k, n :: rest, x, a, deep, R, h, h20, hdeep, ha, hb, hk => by
  obtain ⟨k, rfl⟩ : ∃ q, k = q + 2 := ⟨k - 2, by omega⟩
  have hx := pnode_le _ _ _ h
  have k40 : bytesOf (⟨#[40]⟩ : ByteArray) = [40] := rfl
  have k41 : bytesOf (⟨#[41]⟩ : ByteArray) = [41] := rfl
  simp only [tnode] at hb
  generalize hbody : (if innerP n = true then Gd.opt n.f0 ++ tmany (tnode fl) (pnode fl) n.f3.toNat rest else leafT n) = body at hb
  rw [bytesOf_app, bytesOf_app, k40, k41, List.append_assoc, List.append_assoc] at hb
  have hb1 : bytesOf a = 40 :: (bytesOf body ++ 41 :: R) := hb
  have hsz : 1 + ((bytesOf body).length + (R.length + 1)) = a.size := by rw [← bytesOf_length, hb1]; simp; omega
  have p40 : decide ((bytesOf a).head? = some ((40 : UInt8).toNat : Int)) = true := by rw [hb1]; exact decide_eq_true rfl
  have second : ∀ (c : Int) (Z : List Int), bytesOf body = c :: Z → bt a 1 = c ∧ 2 ≤ a.size := by
   intro c Z hc
   have := bt_head a 1 (by omega) (b := c) (rest := Z ++ 41 :: R) (by rw [hb1, hc]; rfl)
   exact ⟨this.2, by rw [hc, List.length_cons] at hsz; omega⟩
  have hR : ∀ c ∈ R, 0 ≤ c ∧ c < 256 := fun c hc => bytes_range a c (by rw [hb1]; exact List.mem_cons_of_mem _ (List.mem_append_right _ (List.mem_cons_of_mem _ hc)))
  rw [Gn.f, if_neg (by omega), prefix_f, p40, Option.bind_some, if_pos rfl]
  simp only [pnode] at h
  by_cases hin : innerP n = true
  ·rw [if_pos hin] at h hbody
   obtain ⟨y, hy, h⟩ := Option.bind_eq_some_iff.1 h
   obtain rfl := Option.some.inj h
   obtain ⟨hop, hf1, hf2, hm1, hm2⟩ := inner_cases n hin
   obtain ⟨c, hc, hoc⟩ := opt_bytes n.f0 hop
   subst hbody
   simp only at h20 hdeep
   have hbb : bytesOf (Gd.opt n.f0 ++ tmany (tnode fl) (pnode fl) n.f3.toNat rest) = c :: bytesOf (tmany (tnode fl) (pnode fl) n.f3.toNat rest) := by rw [bytesOf_app, hc]; rfl
   obtain ⟨hbt, h2⟩ := second c _ hbb
   have hcr := bytes_range a c (by rw [hb1, hbb]; simp)
   obtain ⟨t, et, ht⟩ := idx_op c hcr.1 hcr.2
   have hrest : bytesOf (a.extract 2 a.size) = bytesOf (tmany (tnode fl) (pnode fl) n.f3.toNat rest) ++ 41 :: R := by rw [bytes_tail, hb1, hbb]; rfl
   rw [decide_eq_false (p := (a.size : Int) < 2) (by omega), Gn.j0, if_neg (by simp), if_pos (by omega), hbt, et, Option.bind_some, ht, hoc, if_neg (by omega), if_pos (by omega),
    rf_l0_at fl (5 - deep) (100 * fl + 100) a deep (fun k l x a R h1 h2 h3 h4 h5 h6 => by
     rw [w64 (x := (deep : Int) + 1) (by omega) (by omega), show (deep : Int) + 1 = ((deep + 1 : Nat) : Int) by omega]
     exact rf_at fl k l x a (deep + 1) R h2 h3 (by have := (pnode_le fl l x h2).2.2.1; omega) h5 h6 h1) R n.f3.toNat k rest y ⟨n.f0, ⟨#[]⟩, ⟨#[]⟩, 0⟩ [] _ hy (by simp; omega) (by omega) (by rw [ByteArray.size_extract]; omega) hrest (by omega) (by simp) (by simp; omega)]
   have hnn : (⟨n.f0, ⟨#[]⟩, ⟨#[]⟩, 0 + (n.f3.toNat : Int)⟩ : Nd) = n := by
    obtain ⟨o, a, v, m⟩ := n
    simp only at hf1 hf2 hm1
    rw [ba_size0 hf1, ba_size0 hf2]
    congr 1
    simp only
    omega
   simp only
   rw [hnn]
   rfl
  ·rw [if_neg hin] at h hbody
   by_cases hle : leafP n = true
   ·rw [if_pos hle] at h
    obtain rfl := Option.some.inj h
    subst hbody
    obtain ⟨c, Z, hc, hnc⟩ := leaf_head n hle
    have hne := nch_ne hnc
    obtain ⟨hbt, h2⟩ := second c _ hc
    have hcr := bytes_range a c (by rw [hb1, hc]; simp)
    obtain ⟨t, et, ht⟩ := idx_op c hcr.1 hcr.2
    have hoc : Qr.opOf c = 0 := by
     unfold Qr.opOf
     rw [if_neg hne.2.1, if_neg hne.2.2.1, if_neg hne.1]
    have hrest : bytesOf (a.extract 1 a.size) = bytesOf (leafT n) ++ 41 :: R := by rw [bytes_tail, hb1]; rfl
    have hcut := cut_at (a.extract 1 a.size) (by rw [ByteArray.size_extract]; omega) 41 (bytesOf (leafT n)) R hrest (fun x hx => leaf_no41 n hle x hx)
    rw [son_bytesOf] at hcut
    rw [decide_eq_false (p := (a.size : Int) < 2) (by omega), Gn.j0, if_neg (by simp), if_pos (by omega), hbt, et, Option.bind_some, ht, if_pos hoc, if_pos (by omega), hcut, Option.bind_some]
    dsimp only
    rw [node_at n hle, Option.bind_some]
    have hm := (leaf_cases n hle).2.2.2
    have hnn : (⟨n.f0, n.f1, n.f2, 0⟩ : Nd) = n := by
     obtain ⟨o, a, v, m⟩ := n
     simp only at hm
     rw [hm]
    dsimp only
    rw [hnn]
    rfl
   ·rw [if_neg hle] at h; cases h
theorem rf_l0_tot (K B : Nat) (x0 : ByteArray) (hx0 : x0.size ≤ 8000) (deep : Int)
  (hg : ∀ (k : Nat) (a : ByteArray), K ≤ k → a.size ≤ 8000 → ∃ l r, Gn.f k a (wrap64 (deep + 1)) = some (l, r) ∧ l.length ≤ B ∧ r.size ≤ 8000) (hB : B ≤ 1000) :
  ∀ (d k : Nat) (out : List Nd) (a : ByteArray), 0 < out.length → out.length ≤ 20 + B → 21 ≤ out.length + d → a.size ≤ 8000 → K + 2 * d + 2 ≤ k → ∃ l r, Gn.l0 k x0 deep out a = some (l, r) ∧ l.length ≤ 20 + B ∧ r.size ≤ 8000 := by
 intro d
 induction d with
 | zero =>
  intro k out a h0 h1 h2 ha hk
  obtain ⟨k, rfl⟩ : ∃ q, k = q + 2 := ⟨k - 2, by omega⟩
  have fin : ∃ l r, Gn.j2 (k + 1) x0 deep out a false = some (l, r) ∧ l.length ≤ 20 + B ∧ r.size ≤ 8000 := by
   rw [Gn.j2, if_neg (by simp), trimPrefix_f, Option.bind_some]
   refine ⟨_, _, rfl, h1, ?_⟩
   split
   ·rw [ByteArray.size_extract]; omega
   ·omega
  rw [Gn.l0, prefix_f, Option.bind_some, decide_eq_false (p := ((out.length : Nat) : Int) ≤ 20) (by omega)]
  split
  ·exact fin
  ·exact fin
 | succ d ih =>
  intro k out a h0 h1 h2 ha hk
  obtain ⟨k, rfl⟩ : ∃ q, k = q + 2 := ⟨k - 2, by omega⟩
  have fin : ∃ l r, Gn.j2 (k + 1) x0 deep out a false = some (l, r) ∧ l.length ≤ 20 + B ∧ r.size ≤ 8000 := by
   rw [Gn.j2, if_neg (by simp), trimPrefix_f, Option.bind_some]
   refine ⟨_, _, rfl, h1, ?_⟩
   split
   ·rw [ByteArray.size_extract]; omega
   ·omega
  rw [Gn.l0, prefix_f, Option.bind_some]
  split
  ·by_cases h20 : ((out.length : Nat) : Int) ≤ 20
   ·rw [decide_eq_true h20, Gn.j2, if_pos rfl]
    obtain ⟨own, r, e, ho, hr⟩ := hg k a (by omega) ha
    rw [e, Option.bind_some]
    dsimp only
    by_cases hz : ((own.length : Nat) : Int) = 0
    ·rw [if_pos hz]; exact ⟨_, _, rfl, Nat.zero_le _, by omega⟩
    ·rw [if_neg hz, if_pos (by omega), Option.bind_some, if_pos (by rw [List.length_append]; omega)]
     exact ih k _ r (by rw [List.length_set, List.length_append]; omega) (by rw [List.length_set, List.length_append]; omega) (by rw [List.length_set, List.length_append]; omega) hr (by omega)
   ·rw [decide_eq_false h20]; exact fin
  ·exact fin
theorem rf_tot : ∀ (e k : Nat) (a : ByteArray) (deep : Nat), deep + e = 6 → a.size ≤ 8000 → 100 * e + 100 ≤ k → ∃ l r, Gn.f k a (deep : Int) = some (l, r) ∧ l.length ≤ 21 * e ∧ r.size ≤ 8000
 | e, k, a, deep, he, ha, hk => by
  obtain ⟨k, rfl⟩ : ∃ q, k = q + 2 := ⟨k - 2, by omega⟩
  have none_ : ∃ l r, Gn.j0 (k + 1) a (deep : Int) true = some (l, r) ∧ l.length ≤ 21 * e ∧ r.size ≤ 8000 := by
   rw [Gn.j0, if_pos rfl]; exact ⟨_, _, rfl, Nat.zero_le _, ha⟩
  rw [Gn.f]
  by_cases hd : (deep : Int) > 5
  ·rw [if_pos hd]; exact none_
  rw [if_neg hd, prefix_f, Option.bind_some]
  split
  ·by_cases h2 : (a.size : Int) < 2
   ·rw [decide_eq_true h2]; exact none_
   rw [decide_eq_false h2, Gn.j0, if_neg (by simp), if_pos (by omega)]
   have hcr := bt_range a 1
   obtain ⟨t, et, ht⟩ := idx_op (bt a 1) hcr.1 (by omega)
   match e, he, hk, none_ with
   | 0, he, hk, _ => omega
   | e + 1, he, hk, _ =>
    rw [et, Option.bind_some]
    split
    ·rw [if_pos (by omega)]
     obtain ⟨x, y, b, ec, hx, hy⟩ := cut_tot (a.extract 1 a.size) (by rw [ByteArray.size_extract]; omega) 41
     have hxs : (a.extract 1 a.size).size ≤ 8000 := by rw [ByteArray.size_extract]; omega
     obtain ⟨r1, r2, r3, en⟩ := node_tot x (by omega)
     rw [ec, Option.bind_some]
     dsimp only
     rw [en, Option.bind_some]
     exact ⟨_, _, rfl, by simp; omega, by omega⟩
    ·rw [if_pos (by omega)]
     obtain ⟨l, r, el, h3, h4⟩ := rf_l0_tot (100 * e + 100) (21 * e) a ha (deep : Int) (fun k a h5 h6 => by
      rw [w64 (x := (deep : Int) + 1) (by omega) (by omega), show (deep : Int) + 1 = ((deep + 1 : Nat) : Int) by omega]
      exact rf_tot e k a (deep + 1) (by omega) h6 h5) (by omega) 20 k [⟨wrap64 (t + 1), ⟨#[]⟩, ⟨#[]⟩, 0⟩] (a.extract 2 a.size) (by simp) (by simp; omega) (by simp) (by rw [ByteArray.size_extract]; omega) (by omega)
     exact ⟨l, r, el, by omega, h4⟩
  ·exact none_
theorem FilterP_size {l : List Nd} (h : FilterP l = true) : (TextP l).size ≤ 6000 ∧ (TextP l).size ≠ 0 := by
 obtain ⟨h1, x, hx, hx1, hx2⟩ := FilterP_some h
 have h3 := tnode_size 20 l x hx
 obtain ⟨Z, hZ⟩ := tnode_head 20 l x hx
 have h4 : (tnode 20 l).size ≠ 0 := by rw [← bytesOf_length, hZ]; simp
 unfold TextP
 rw [if_pos h]
 exact ⟨by omega, h4⟩
theorem spec_FilterRead_at (l : List Nd) (h : FilterP l = true) (k : Nat) (hk : 1000000 ≤ k) : Gx.f k (TextP l) = some (l, 0) := by
 have hs := FilterP_size h
 obtain ⟨h1, x, hx, hx1, hx2⟩ := FilterP_some h
 have hT : TextP l = tnode 20 l := by unfold TextP; rw [if_pos h]
 have ho := one_at (TextP l) (by omega) 20 k l x 0 [] 1 [] hx (by simp; omega) (by omega) (by rw [hT]; simp) (by omega)
 unfold Gx.f Qr.f
 rw [if_neg (by omega), show (0 : Int) = ((0 : Nat) : Int) from rfl, show (1 : Int) = ((1 : Nat) : Int) from rfl, ho, Option.bind_some]
 dsimp only
 rw [if_neg (by simp), List.nil_append, hx1, List.take_length, spec_FilterText_f l k (by omega), Option.bind_some, Option.bind_some]
 dsimp only
 rw [if_pos (by simp)]
theorem spec_FilterRead_no (t : ByteArray) (ht : t.size ≤ 8000) (hno : ∀ l, FilterP l = true → TextP l ≠ t) (k : Nat) (hk : 1000000 ≤ k) : Gx.f k t = some ([], 3) := by
 obtain ⟨a, L, b, e, h1, h2, h3⟩ := one_tot t ht 5 k 0 [] 1 (by omega) (by omega) (by omega) (by simp) (by omega)
 unfold Gx.f Qr.f
 rw [if_neg (by omega), show (1 : Int) = ((1 : Nat) : Int) from rfl, e, Option.bind_some]
 dsimp only
 cases b with
 | true => rw [if_pos rfl, Option.bind_some]; rfl
 | false =>
  have h0 : t.size ≠ 0 := by
   intro h0
   obtain ⟨k, rfl⟩ : ∃ q, k = q + 1 := ⟨k - 1, by omega⟩
   rw [Qr.one] at e
   rcases nx_cases t 0 false (by omega) with ⟨_, e2⟩ | ⟨h5, _⟩
   ·rw [e2, Option.bind_some] at e
    dsimp only at e
    rw [if_neg (by decide)] at e
    simp only [Option.some.injEq, Prod.mk.injEq] at e
    exact absurd e.2.2.2 (by decide)
   ·omega
  have hne : ((TextP L).toList == t.toList) = false := by
   refine beq_false_of_ne (fun e2 => ?_)
   have e3 := toList_eq.1 e2
   by_cases hF : FilterP L = true
   ·exact hno L hF e3
   ·unfold TextP at e3
    rw [if_neg hF] at e3
    exact h0 (by rw [← e3]; rfl)
  rw [if_neg (by simp), spec_FilterText_f L k (by omega), Option.bind_some, Option.bind_some]
  dsimp only
  rw [hne, if_neg (by simp)]
theorem isLong_f (t : ByteArray) (k : Nat) (hk : 2 ≤ k) : Gj.f k [t] = some (decide (t.size > 8000)) := by
 rw [impl_isLong_f [t] (by simp) k (by simp; omega)]
 simp
theorem impl_FilterRead_at (l : List Nd) (h : FilterP l = true) (k : Nat) (hk : 1000000 ≤ k) : Gb.f k (TextP l) = some (l, 0) := by
 have hs := FilterP_size h
 obtain ⟨h1, x, hx, hx1, hx2⟩ := FilterP_some h
 have hT : TextP l = tnode 20 l := by unfold TextP; rw [if_pos h]
 have ho := rf_at 20 k l x (TextP l) 1 [] hx (by omega) (by omega) (by omega) (by rw [hT]; simp) (by omega)
 unfold Gb.f
 rw [isLong_f _ _ (by omega), decide_eq_false (p := (TextP l).size > 8000) (by omega), Option.bind_some, if_neg (by simp), show (1 : Int) = ((1 : Nat) : Int) from rfl, ho, Option.bind_some]
 dsimp only
 rw [hx1, List.take_length, impl_FilterRight_f l k (by omega), h, Option.bind_some, if_pos rfl, impl_FilterText_f l k (by omega), Option.bind_some, if_pos rfl]
theorem impl_FilterRead_no (t : ByteArray) (ht : t.size ≤ 8000) (hno : ∀ l, FilterP l = true → TextP l ≠ t) (k : Nat) (hk : 1000000 ≤ k) : Gb.f k t = some ([], 3) := by
 obtain ⟨L, r, e, h1, h2⟩ := rf_tot 5 k t 1 (by omega) ht (by omega)
 unfold Gb.f
 rw [isLong_f _ _ (by omega), decide_eq_false (p := t.size > 8000) (by omega), Option.bind_some, if_neg (by simp), show (1 : Int) = ((1 : Nat) : Int) from rfl, e, Option.bind_some]
 dsimp only
 rw [impl_FilterRight_f L k (by omega), Option.bind_some]
 by_cases hF : FilterP L = true
 ·rw [if_pos hF, impl_FilterText_f L k (by omega), Option.bind_some, if_neg (fun e2 => hno L hF (toList_eq.1 e2))]
 ·rw [if_neg hF]
theorem bl_lt : ∀ (x y : List UInt8), Op.bytesLess x y = decide (x < y)
 | [], [] => by simp [Op.bytesLess]
 | _ :: _, [] => by simp [Op.bytesLess]
 | [], _ :: _ => by simp [Op.bytesLess]
 | a :: x, b :: y => by
  rw [Op.bytesLess, bl_lt x y]
  simp only [List.cons_lt_cons_iff]
  by_cases h1 : a < b <;> by_cases h2 : a = b <;> by_cases h3 : x < y <;> simp [h1, h2, h3]
theorem lt_tri (a b : List UInt8) : a < b ∨ a = b ∨ b < a := by
 rcases Decidable.em (a < b) with h | h
 ·exact .inl h
 ·rcases Decidable.em (b < a) with h2 | h2
  ·exact .inr (.inr h2)
  ·exact .inr (.inl (List.le_antisymm (List.not_lt.1 h2) (List.not_lt.1 h)))
def Lt (a b : ByteArray) : Prop := a.toList < b.toList
theorem Lt_iff {a b : ByteArray} : Op.bytesLess a.toList b.toList = true ↔ Lt a b := by rw [bl_lt]; exact decide_eq_true_iff
theorem Lt_irr (a : ByteArray) : ¬ Lt a a := List.lt_irrefl _
theorem Lt_trans {a b c : ByteArray} (h : Lt a b) (h2 : Lt b c) : Lt a c := List.lt_trans h h2
theorem Lt_tri (a b : ByteArray) : Lt a b ∨ a = b ∨ Lt b a := by
 rcases lt_tri a.toList b.toList with h | h | h
 ·exact .inl h
 ·exact .inr (.inl (ba_inj.1 h))
 ·exact .inr (.inr h)
def SS (l : List ByteArray) : Prop := l.Pairwise Lt
theorem SS_eq : ∀ (l m : List ByteArray), SS l → SS m → (∀ x, x ∈ l ↔ x ∈ m) → l = m
 | [], [], _, _, _ => rfl
 | [], y :: m, _, _, h => absurd ((h y).2 (by simp)) (by simp)
 | x :: l, [], _, _, h => absurd ((h x).1 (by simp)) (by simp)
 | x :: l, y :: m, hl, hm, h => by
  obtain ⟨h1, h2⟩ := List.pairwise_cons.1 hl
  obtain ⟨h3, h4⟩ := List.pairwise_cons.1 hm
  have e : x = y := by
   rcases List.mem_cons.1 ((h x).1 (by simp)) with e | e
   ·exact e
   ·rcases List.mem_cons.1 ((h y).2 (by simp)) with e2 | e2
    ·exact e2.symm
    ·exact absurd (Lt_trans (h1 y e2) (h3 x e)) (Lt_irr x)
  subst e
  congr 1
  refine SS_eq l m h2 h4 fun z => ⟨fun hz => ?_, fun hz => ?_⟩
  ·rcases List.mem_cons.1 ((h z).1 (List.mem_cons_of_mem _ hz)) with e | e
   ·subst e; exact absurd (h1 z hz) (Lt_irr z)
   ·exact e
  ·rcases List.mem_cons.1 ((h z).2 (List.mem_cons_of_mem _ hz)) with e | e
   ·subst e; exact absurd (h3 z hz) (Lt_irr z)
   ·exact e
def putS : List ByteArray → ByteArray → List ByteArray
 | [], t => [t]
 | y :: ys, t => if Op.bytesLess y.toList t.toList = true then y :: putS ys t else if y.toList = t.toList then y :: ys else t :: y :: ys
theorem putS_mem : ∀ (l : List ByteArray) (t x : ByteArray), x ∈ putS l t ↔ x = t ∨ x ∈ l
 | [], t, x => by simp [putS]
 | y :: ys, t, x => by
  rw [putS]
  split
  ·simp only [List.mem_cons, putS_mem ys t x]
   constructor
   ·rintro (h | h | h)
    ·exact .inr (.inl h)
    ·exact .inl h
    ·exact .inr (.inr h)
   ·rintro (h | h | h)
    ·exact .inr (.inl h)
    ·exact .inl h
    ·exact .inr (.inr h)
  ·split
   ·rename_i h
    have := ba_inj.1 h
    subst this
    simp
   ·simp
theorem putS_SS : ∀ (l : List ByteArray) (t : ByteArray), SS l → SS (putS l t)
 | [], t, h => by simp [putS, SS]
 | y :: ys, t, h => by
  obtain ⟨h1, h2⟩ := List.pairwise_cons.1 h
  rw [putS]
  split
  ·rename_i hlt
   refine List.pairwise_cons.2 ⟨fun x hx => ?_, putS_SS ys t h2⟩
   rcases (putS_mem ys t x).1 hx with e | e
   ·subst e; exact Lt_iff.1 hlt
   ·exact h1 x e
  ·split
   ·exact h
   ·rename_i hn hne
    have hty : Lt t y := by
     rcases Lt_tri t y with e | e | e
     ·exact e
     ·exact absurd (by rw [e]) hne
     ·exact absurd (Lt_iff.2 e) hn
    refine List.pairwise_cons.2 ⟨fun x hx => ?_, h⟩
    rcases List.mem_cons.1 hx with e | e
    ·subst e; exact hty
    ·exact Lt_trans hty (h1 x e)
theorem putS_length : ∀ (l : List ByteArray) (t : ByteArray), (putS l t).length ≤ l.length + 1
 | [], t => by simp [putS]
 | y :: ys, t => by
  have := putS_length ys t
  rw [putS]
  split
  ·simp only [List.length_cons]; omega
  ·split <;> simp
def putAll (l : List ByteArray) (ts : List ByteArray) : List ByteArray := ts.foldl putS l
theorem putAll_mem : ∀ (ts l : List ByteArray) (x : ByteArray), x ∈ putAll l ts ↔ x ∈ ts ∨ x ∈ l
 | [], l, x => by simp [putAll]
 | t :: ts, l, x => by
  show x ∈ putAll (putS l t) ts ↔ _
  rw [putAll_mem ts (putS l t) x, putS_mem, List.mem_cons]
  constructor
  ·rintro (h | h | h)
   ·exact .inl (.inr h)
   ·exact .inl (.inl h)
   ·exact .inr h
  ·rintro ((h | h) | h)
   ·exact .inr (.inl h)
   ·exact .inl h
   ·exact .inr (.inr h)
theorem putAll_SS : ∀ (ts l : List ByteArray), SS l → SS (putAll l ts)
 | [], l, h => h
 | t :: ts, l, h => putAll_SS ts (putS l t) (putS_SS l t h)
theorem putAll_length : ∀ (ts l : List ByteArray), (putAll l ts).length ≤ l.length + ts.length
 | [], l => by simp [putAll]
 | t :: ts, l => by
  have h1 := putAll_length ts (putS l t)
  have h2 := putS_length l t
  show (putAll (putS l t) ts).length ≤ _
  simp only [List.length_cons]; omega
theorem compact_mem (zs : List (List UInt8)) (x : List UInt8) : x ∈ Lib.compact zs ↔ x ∈ zs := by
 unfold Lib.compact Lib.compactUpTo
 constructor
 ·intro h
  obtain ⟨i, hi, rfl⟩ := List.mem_map.1 h
  have hi' : i < zs.length := List.mem_range.1 (List.mem_filter.1 hi).1
  simp [getElem!_pos, hi']
 ·intro h
  obtain ⟨i, hi, rfl⟩ := List.getElem_of_mem h
  have key : ∀ (n i : Nat) (hi : i < zs.length), i ≤ n → zs[i] ∈ (((List.range zs.length).filter (Lib.keeps zs.toArray)).map (zs.toArray[·]!)) := by
   intro n
   induction n with
   | zero =>
    intro i hi hn
    obtain rfl : i = 0 := by omega
    refine List.mem_map.2 ⟨0, List.mem_filter.2 ⟨List.mem_range.2 hi, by simp [Lib.keeps]⟩, by simp [getElem!_pos, hi]⟩
   | succ n ih =>
    intro i hi hn
    by_cases hk : Lib.keeps zs.toArray i = true
    ·exact List.mem_map.2 ⟨i, List.mem_filter.2 ⟨List.mem_range.2 hi, hk⟩, by simp [getElem!_pos, hi]⟩
    ·have h0 : ¬ (i = 0) ∧ zs.toArray[i]! = zs.toArray[i - 1]! := by
      unfold Lib.keeps at hk
      simp only [decide_eq_true_eq, not_or, Decidable.not_not] at hk
      exact hk
     have hi1 : i - 1 < zs.length := by omega
     have e : zs[i] = zs[i - 1] := by
      have := h0.2
      simpa [getElem!_pos, hi, hi1] using this
     rw [e]
     exact ih (i - 1) hi1 (by omega)
  exact key i i hi (Nat.le_refl _)
theorem compact_lt (zs : List (List UInt8)) (h : zs.Pairwise fun a b => a ≤ b) : (Lib.compact zs).Pairwise fun a b => a < b := by
 unfold Lib.compact Lib.compactUpTo
 rw [List.pairwise_map]
 have hr : ((List.range zs.length).filter (Lib.keeps zs.toArray)).Pairwise (· < ·) := List.Pairwise.filter _ List.pairwise_lt_range
 refine hr.imp_of_mem fun {i j} hi hj hij => ?_
 obtain ⟨h1, h2⟩ := List.mem_filter.1 hj
 have hjl := List.mem_range.1 h1
 have hne : zs.toArray[j]! ≠ zs.toArray[j - 1]! := by
  unfold Lib.keeps at h2
  simp only [decide_eq_true_eq] at h2
  rcases h2 with h2 | h2
  ·omega
  ·exact h2
 have hil : i < zs.length := by omega
 have hj1 : j - 1 < zs.length := by omega
 have e0 : zs.toArray[i]! = zs[i] := by simp [getElem!_pos, hil]
 have e1 : zs.toArray[j]! = zs[j] := by simp [getElem!_pos, hjl]
 have e2 : zs.toArray[j - 1]! = zs[j - 1] := by simp [getElem!_pos, hj1]
 show zs.toArray[i]! < zs.toArray[j]!
 rw [e0, e1]
 rw [e1, e2] at hne
 have hlt : zs[j - 1] < zs[j] := by
  have hle := List.pairwise_iff_getElem.1 h (j - 1) j hj1 hjl (by omega)
  rcases lt_tri zs[j - 1] zs[j] with e | e | e
  ·exact e
  ·exact absurd e.symm hne
  ·exact absurd e (List.not_lt.2 hle)
 by_cases hij1 : i = j - 1
 ·subst hij1; exact hlt
 ·have hle := List.pairwise_iff_getElem.1 h i (j - 1) hil hj1 (by omega)
  rcases lt_tri zs[i] zs[j - 1] with e | e | e
  ·exact List.lt_trans e hlt
  ·rw [e]; exact hlt
  ·exact absurd e (List.not_lt.2 hle)
theorem sorted_le (l : List (List UInt8)) : (l.mergeSort fun x y => decide (x ≤ y)).Pairwise fun a b => a ≤ b := by
 have := List.pairwise_mergeSort (le := fun x y : List UInt8 => decide (x ≤ y)) (fun a b c h1 h2 => by
  simp only [decide_eq_true_eq] at h1 h2 ⊢
  exact List.le_trans h1 h2) (fun a b => by
  simp only [Bool.or_eq_true, decide_eq_true_eq]
  exact List.le_total a b) l
 exact this.imp fun h => by simpa using h
theorem back_list (b : List UInt8) : (⟨b.toArray⟩ : ByteArray).toList = b := by rw [Go.Lib.toList_data]
theorem u_mem (l : List ByteArray) (x : ByteArray) : x ∈ Gr.u l ↔ x ∈ l := by
 unfold Gr.u
 rw [List.mem_map]
 constructor
 ·rintro ⟨b, hb, rfl⟩
  have := (List.mergeSort_perm _ _).mem_iff.1 ((compact_mem _ _).1 hb)
  obtain ⟨y, hy, rfl⟩ := List.mem_map.1 this
  exact hy
 ·intro h
  exact ⟨x.data.toList, (compact_mem _ _).2 ((List.mergeSort_perm _ _).mem_iff.2 (List.mem_map.2 ⟨x, h, rfl⟩)), rfl⟩
theorem u_SS (l : List ByteArray) : SS (Gr.u l) := by
 unfold Gr.u SS
 rw [List.pairwise_map]
 exact (compact_lt _ (sorted_le _)).imp fun h => by unfold Lt; rwa [back_list, back_list]
theorem u_putAll (l : List ByteArray) : Gr.u l = putAll [] l :=
 SS_eq _ _ (u_SS l) (putAll_SS l [] (by simp [SS])) fun x => by rw [u_mem, putAll_mem]; simp
theorem pmany_all (p : List Nd → Option (Nat × Nat)) (hp : ∀ l x, p l = some x → ∀ n ∈ l.take x.1, innerP n = true ∨ leafP n = true) : ∀ (m : Nat) (l : List Nd) (x : Nat × Nat), pmany p m l = some x → ∀ n ∈ l.take x.1, innerP n = true ∨ leafP n = true
 | 0, l, x, h, n, hn => by
  simp only [pmany, Option.some.injEq] at h
  rw [← h] at hn
  simp at hn
 | m + 1, l, x, h, n, hn => by
  simp only [pmany] at h
  obtain ⟨a, ha, h⟩ := Option.bind_eq_some_iff.1 h
  obtain ⟨b, hb, h⟩ := Option.bind_eq_some_iff.1 h
  simp only [Option.some.injEq] at h
  rw [← h] at hn
  have hn : n ∈ l.take (a.1 + b.1) := hn
  rw [List.take_add] at hn
  rcases List.mem_append.1 hn with e | e
  ·exact hp l a ha n e
  ·exact pmany_all p hp m _ b hb n e
theorem pnode_all : ∀ (f : Nat) (l : List Nd) (x : Nat × Nat), pnode f l = some x → ∀ n ∈ l.take x.1, innerP n = true ∨ leafP n = true
 | 0, l, x, h => by simp [pnode] at h
 | f + 1, [], x, h => by simp [pnode] at h
 | f + 1, n :: rest, x, h => by
  simp only [pnode] at h
  intro m hm
  split at h
  ·rename_i hin
   obtain ⟨a, ha, h⟩ := Option.bind_eq_some_iff.1 h
   simp only [Option.some.injEq] at h
   rw [← h, List.take_succ_cons] at hm
   rcases List.mem_cons.1 hm with e | e
   ·rw [e]; exact .inl hin
   ·exact pmany_all (pnode f) (pnode_all f) _ _ a ha m e
  ·split at h
   ·rename_i hl
    simp only [Option.some.injEq] at h
    rw [← h] at hm
    simp at hm
    rw [hm]; exact .inr hl
   ·cases h
theorem FilterP_mem {l : List Nd} (h : FilterP l = true) : l.length ≤ 20 ∧ ∀ n ∈ l, innerP n = true ∨ leafP n = true := by
 unfold FilterP at h
 simp only [Bool.and_eq_true, decide_eq_true_eq] at h
 refine ⟨h.1, ?_⟩
 have h2 := h.2
 cases hn : pnode 20 l with
 | none => rw [hn] at h2; cases h2
 | some x =>
  rw [hn] at h2
  simp only [Bool.and_eq_true, decide_eq_true_eq] at h2
  have := pnode_all 20 l x hn
  rwa [List.take_of_length_le (by omega)] at this
theorem inner_op {n : Nd} (h : innerP n = true) : n.f0 = 1 ∨ n.f0 = 2 ∨ n.f0 = 3 := by
 unfold innerP at h
 simp only [Bool.and_eq_true, Bool.or_eq_true, decide_eq_true_eq] at h
 omega
theorem leaf_op {n : Nd} (h : leafP n = true) : 4 ≤ n.f0 ∧ n.f0 ≤ 8 := by
 unfold leafP at h
 simp only [Bool.and_eq_true, Bool.or_eq_true, decide_eq_true_eq] at h
 omega
def isLeaf (n : Nd) : Bool := decide (n.f0 > 3)
def attrsOf (l : List Nd) : List ByteArray := (l.filter isLeaf).map (·.f1)
theorem attrsOf_cons (n : Nd) (l : List Nd) : attrsOf (n :: l) = if isLeaf n = true then n.f1 :: attrsOf l else attrsOf l := by
 unfold attrsOf
 rw [List.filter_cons]
 split <;> rfl
theorem attrsOf_length (l : List Nd) : (attrsOf l).length ≤ l.length := by
 unfold attrsOf
 rw [List.length_map]
 exact List.length_filter_le _ _
theorem impl_filterAttrs_l0 (l : List Nd) (hl : l.length ≤ 20) : ∀ (d k : Nat) (x : List ByteArray) (i : Int), 0 ≤ i → i + d = l.length → d < k → x.length ≤ i →
  Gh.l0 k x l (l.length : Int) i = some (Gr.u (x ++ attrsOf (l.drop i.toNat)))
 | 0, k, x, i, h0, hi, hk, hx => by
  obtain ⟨k, rfl⟩ : ∃ q, k = q + 1 := ⟨k - 1, by omega⟩
  rw [Gh.l0, if_neg (by omega), List.drop_of_length_le (by omega)]
  unfold Gr.f
  rw [if_pos (by simp; omega)]
  simp [attrsOf]
 | d + 1, k, x, i, h0, hi, hk, hx => by
  obtain ⟨k, rfl⟩ : ∃ q, k = q + 1 := ⟨k - 1, by omega⟩
  have hw : wrap64 (i + 1) = i + 1 := w64 (by omega) (by omega)
  rw [Gh.l0, if_pos (by omega), if_pos h0, if_pos (by omega), hw, nd_drop l i h0 (by omega), attrsOf_cons, show i.toNat + 1 = (i + 1).toNat by omega]
  by_cases h3 : (rd_T64 l i).f0 > 3
  ·have e : isLeaf (rd_T64 l i) = true := decide_eq_true h3
   rw [if_pos h3, if_pos (by omega), if_pos e, impl_filterAttrs_l0 l hl d k _ (i + 1) (by omega) (by omega) (by omega) (by simp; omega)]
   simp
  ·have e : isLeaf (rd_T64 l i) = false := decide_eq_false h3
   rw [if_neg h3, if_neg (by rw [e]; simp), impl_filterAttrs_l0 l hl d k _ (i + 1) (by omega) (by omega) (by omega) (by omega)]
def AttrsF (l : List Nd) : List ByteArray := if FilterP l = true then Gr.u (attrsOf l) else []
theorem impl_FilterAttrs_f (l : List Nd) (k : Nat) (hk : 710 ≤ k) : Ga.f k l = some (AttrsF l) := by
 unfold Ga.f AttrsF Gh.f
 rw [impl_FilterRight_f l k hk, Option.bind_some]
 by_cases h : FilterP l = true
 ·have hl := (FilterP_mem h).1
  rw [if_pos h, if_pos h, impl_filterAttrs_l0 l hl l.length k [] 0 (by omega) (by omega) (by omega) (by simp)]
  rfl
 ·rw [if_neg h, if_neg h]
theorem put_putS : ∀ (out : List ByteArray) (a : ByteArray), Gw.put out a = putS out a
 | [], a => rfl
 | y :: ys, a => by
  have ih := put_putS ys a
  unfold Gw.put at ih ⊢
  rw [putS, Gw.pos]
  by_cases hb : Op.bytesLess y.toList a.toList = true
  ·rw [if_pos hb, if_pos hb, ← ih]
   have hr : rdOf ByteArray.empty (y :: ys) ((Gw.pos ys a + 1 : Nat) : Int) = rdOf ByteArray.empty ys ((Gw.pos ys a : Nat) : Int) := by
    unfold rdOf
    rw [Int.toNat_natCast, Int.toNat_natCast]; rfl
   rw [hr]
   by_cases c : Gw.pos ys a < ys.length ∧ (rdOf ByteArray.empty ys ((Gw.pos ys a : Nat) : Int)).toList = a.toList
   ·rw [if_pos c, if_pos ⟨by rw [List.length_cons]; omega, c.2⟩]
   ·rw [if_neg c, if_neg (fun h => c ⟨by have := h.1; rw [List.length_cons] at this; omega, h.2⟩)]
    rfl
  ·rw [if_neg hb, if_neg hb]
   have hr : rdOf ByteArray.empty (y :: ys) ((0 : Nat) : Int) = y := rfl
   rw [hr]
   by_cases c : y.toList = a.toList
   ·rw [if_pos c, if_pos ⟨by simp, c⟩]
   ·rw [if_neg c, if_neg (fun h => c h.2)]
    rfl
theorem go_attrs : ∀ (l : List Nd), (∀ n ∈ l, innerP n = true ∨ leafP n = true) → ∀ out, Gw.go l out = putAll out (attrsOf l)
 | [], _, out => rfl
 | n :: l, hn, out => by
  have ih := go_attrs l (fun m hm => hn m (List.mem_cons_of_mem _ hm))
  rw [Gw.go, attrsOf_cons]
  unfold isLeaf
  rcases hn n List.mem_cons_self with h | h
  ·have := inner_op h
   rw [if_pos this, ih, decide_eq_false (by omega), if_neg (by simp)]
  ·have := leaf_op h
   rw [if_neg (by omega), ih, decide_eq_true (by omega), if_pos rfl, put_putS]
   rfl
theorem spec_FilterAttrs_f (l : List Nd) (k : Nat) (hk : 5000 ≤ k) : Gw.f k l = some (AttrsF l) := by
 unfold Gw.f AttrsF
 by_cases h4 : (l.length : Int) > 400
 ·have : ¬ (FilterP l = true) := fun h => by have := (FilterP_mem h).1; omega
  rw [if_pos h4, if_neg this]
 ·rw [if_neg h4, spec_FilterRight_f l _ (by omega), Option.bind_some]
  by_cases h : FilterP l = true
  ·rw [if_pos h, if_pos h, go_attrs l (FilterP_mem h).2, u_putAll]
  ·rw [if_neg h, if_neg h]
theorem AttrsF_SS (l : List Nd) : SS (AttrsF l) := by
 unfold AttrsF
 split
 ·rw [u_putAll]; exact putAll_SS _ _ List.Pairwise.nil
 ·exact List.Pairwise.nil
theorem AttrsF_length (l : List Nd) : (AttrsF l).length ≤ 20 := by
 unfold AttrsF
 split
 ·rename_i h
  have h1 := (FilterP_mem h).1
  have h2 := attrsOf_length l
  have h3 := putAll_length (attrsOf l) []
  rw [u_putAll]
  simp at h3
  omega
 ·simp
theorem lwNodes_f (l : List Nd) (hl : (l.length : Int) ≤ 4611686018427387904) (k : Nat) (hk : l.length < k) : Gu.f k l l = some true := by
 unfold Gu.f
 rw [if_pos rfl]
 refine skip_loop true l.length hl 0 (fun k i => Gu.l0 k l l i) (fun k i _ h0 hi => ?_) (fun k i _ h0 hi => ?_) l.length k 0 (by omega) (by omega) (by omega)
 ·show Gu.l0 (k + 1) l l i = Gu.l0 k l l (wrap64 (i + 1))
  rw [Gu.l0, if_pos hi, if_pos h0, if_pos hi]
  simp
 ·show Gu.l0 (k + 1) l l i = _
  rw [Gu.l0, if_neg (by omega)]
theorem lwTexts_f (l : List ByteArray) (hl : (l.length : Int) ≤ 4611686018427387904) (k : Nat) (hk : l.length < k) : Gv.f k l l = some true := by
 unfold Gv.f
 rw [if_pos rfl]
 refine skip_loop true l.length hl 0 (fun k i => Gv.l0 k l l i) (fun k i _ h0 hi => ?_) (fun k i _ h0 hi => ?_) l.length k 0 (by omega) (by omega) (by omega)
 ·show Gv.l0 (k + 1) l l i = Gv.l0 k l l (wrap64 (i + 1))
  rw [Gv.l0, if_pos hi, if_pos h0, if_pos hi, if_pos rfl]
 ·show Gv.l0 (k + 1) l l i = _
  rw [Gv.l0, if_neg (by omega)]
theorem FilterRead_tells (t : ByteArray) : ∃ (l : List Nd) (c : Int), l.length ≤ 20 ∧ (∀ k, 1000000 ≤ k → Gx.f k t = some (l, c) ∧ Gb.f k t = some (l, c)) ∧ (c = 0 → TextP l = t) := by
 by_cases hl : (t.size : Int) > 8000
 ·refine ⟨[], 2, by simp, fun k hk => ⟨?_, ?_⟩, fun h => by cases h⟩
  ·unfold Gx.f; rw [if_pos hl]
  ·unfold Gb.f; rw [isLong_f _ _ (by omega), decide_eq_true (p := t.size > 8000) (by omega), Option.bind_some, if_pos rfl]
 ·by_cases h : ∃ l, FilterP l = true ∧ TextP l = t
  ·obtain ⟨l, hF, rfl⟩ := h
   exact ⟨l, 0, (FilterP_some hF).1, fun k hk => ⟨spec_FilterRead_at l hF k hk, impl_FilterRead_at l hF k hk⟩, fun _ => rfl⟩
  ·have hno : ∀ l, FilterP l = true → TextP l ≠ t := fun l hF e => h ⟨l, hF, e⟩
   exact ⟨[], 3, by simp, fun k hk => ⟨spec_FilterRead_no t (by omega) hno k hk, impl_FilterRead_no t (by omega) hno k hk⟩, fun h => by cases h⟩
theorem SS_rises (l : List ByteArray) (hl : l.length ≤ 1000) (h : SS l) (i : Int) (h1 : 1 ≤ i) (h2 : i < l.length) : Op.bytesLess (rdOf ByteArray.empty l (wrap64 (i - 1))).toList (rdOf ByteArray.empty l i).toList = true := by
 rw [w64 (x := i - 1) (by omega) (by omega)]
 have hr : ∀ j : Int, 0 ≤ j → (hj : j < l.length) → rdOf ByteArray.empty l j = l[j.toNat]'(by omega) := fun j h0 hj => by
  unfold rdOf
  rw [List.getD_eq_getElem?_getD, List.getElem?_eq_getElem (by omega)]; rfl
 rw [hr _ (by omega) (by omega), hr i (by omega) h2]
 exact Lt_iff.2 (List.pairwise_iff_getElem.1 h _ _ _ _ (by omega))
theorem wf_u8 {n : Int} (h : (Lit.int .u8 n).wf = true) : 0 ≤ n ∧ n ≤ 255 := by
 simpa [Lit.wf, IntKind.min, IntKind.max, IntKind.bits, IntKind.signed] using h
theorem FnFilter : Gt.Pure := by
 intro l0 l1 h0 h1
 refine ⟨1000000, ⟨by omega, fun x hx => wf_u8 (h0.2 x hx), fun x hx => wf_u8 (h1.2 x hx)⟩, fun f hf => ?_, fun u => ?_, fun f hf => ?_⟩
 ·have hsz : (TextP f).size ≤ 100000 := by
   by_cases h : FilterP f = true
   ·have := (FilterP_size h).1; omega
   ·unfold TextP; rw [if_neg h]; exact Nat.zero_le _
  refine ⟨TextP f, FilterP f, impl_FilterText_f f _ (by omega), spec_FilterText_f f _ (by omega), hsz, impl_FilterRight_f f _ (by omega), spec_FilterRight_f f _ (by omega), lwNodes_f f (by omega) _ (by omega), fun hne => ?_⟩
  by_cases h : FilterP f = true
  ·exact ⟨0, impl_FilterRead_at f h _ (by omega)⟩
  ·exact absurd (by unfold TextP; rw [if_neg h, Go.Lib.toList_data]) hne
 ·obtain ⟨l, c, hl, h, hc⟩ := FilterRead_tells u
  obtain ⟨hs, hi⟩ := h 1000000 (by omega)
  exact ⟨l, c, hi, hs, lwNodes_f l (by omega) _ (by omega), fun e => by rw [impl_FilterText_f l _ (by omega), hc e]⟩
 ·have hl := AttrsF_length f
  exact ⟨AttrsF f, impl_FilterAttrs_f f _ (by omega), spec_FilterAttrs_f f _ (by omega), by omega, lwTexts_f _ (by omega) _ (by omega), SS_rises _ (by omega) (AttrsF_SS f)⟩
end Go.Proofs.YtmkeigielncpjaaGreatDoor.Pure
