-- Laid by this session's own program out of the translation; Lean checks it.
import Derived.Test.YtdlbcamnimdfjaaGreatDoorQFnExactTreeNewx0
import Derived.Test.YtdlbcamnimdfjaaGreatDoorQFnExactTreeNewx5
import Derived.Shelf.Sort.Plain
import Derived.Shelf.Slices.In.SortNone
import Derived.Shelf.Slices.CompactS
import Derived.Sort.OwnSorted
import Derived.Lib.OwnBridge
import Derived.Lib.AppendZeros
import Derived.Test.YtdlbcamnimdfjaaGreatDoorLaySort
import Derived.Test.YtdlbcamnimdfjaaGreatDoorLayCompact
import Derived.Test.YtdlbcamnimdfjaaGreatDoorLayTrim
namespace Go.Proofs.YtdlbcamnimdfjaaGreatDoor.PFnExactTreeNew
open Go.RowKit Go.Proofs.YtdlbcamnimdfjaaGreatDoorW.PrintWords Go.Proofs.YtdlbcamnimdfjaaGreatDoorW.PrintLast Go.Proofs.YtdlbcamnimdfjaaGreatDoorW.PrintMore
attribute [local go_sem] max2_int min2_int max_two min_two max_three min_three max_four min_four   -- for this text's walks alone
set_option linter.unusedVariables false
set_option linter.unusedSimpArgs false

/-! ### impl_copySchema: function 24 -/
/-- An owned row of classes whose lists lie apart, each in a block of its own (tg tells whose a block is; what is yet to come is the row's). -/
def impl_copySchema.Deep (w : World) (base : Nat) (tg : Nat → Nat × Nat) (v : Value) (xs : List (S48)) : Prop :=
  (∀ k, w.heap.size ≤ k → tg k = (0, 0)) ∧ ∃ rows : List (List Value), rows.length = xs.length ∧ Kd.R (Kd.raw 4) 48 w base (fun k => tg k = (0, 0)) v rows ∧
    ∀ (j : Nat) (x : S48), xs[j]? = some x → ∃ u1 u2 u3, rows[j]? = some [.string x.f0, u1, u2, u3] ∧ Kd.R Kd.string 9 w base (fun k => tg k = (j + 1, 1)) u1 x.f1 ∧ Kd.R Kd.string 9 w base (fun k => tg k = (j + 1, 2)) u2 x.f2 ∧ Kd.R Kd.string 9 w base (fun k => tg k = (j + 1, 3)) u3 x.f3
theorem impl_copySchema.Deep_below {w w1 : World} {base : Nat} {tg : Nat → Nat × Nat} {v : Value} {xs : List (S48)} (h : impl_copySchema.Deep w base tg v xs) (hb : Below w.heap.size w w1) : impl_copySchema.Deep w1 base tg v xs := by
  obtain ⟨h0, rows, hl, hr, he⟩ := h
  refine ⟨fun k hk => h0 k (Nat.le_trans hb.size hk), rows, hl, Kd.R_below hr hb, fun j x hx => ?_⟩
  obtain ⟨u1, u2, u3, e, g1, g2, g3⟩ := he j x hx
  exact ⟨u1, u2, u3, e, Kd.R_below g1 hb, Kd.R_below g2 hb, Kd.R_below g3 hb⟩
/-- Three new blocks are given to the next class. -/
def impl_copySchema.retag (tg : Nat → Nat × Nat) (n : Nat) (u1 u2 u3 : Value) (k : Nat) : Nat × Nat :=
  if some k = u1.ownBlock then (n, 1) else if some k = u2.ownBlock then (n, 2) else if some k = u3.ownBlock then (n, 3) else tg k
theorem impl_copySchema.retag_old {tg : Nat → Nat × Nat} {n : Nat} {u1 u2 u3 : Value} {k b : Nat} (h1 : ∀ k, u1.ownBlock = some k → b ≤ k) (h2 : ∀ k, u2.ownBlock = some k → b ≤ k) (h3 : ∀ k, u3.ownBlock = some k → b ≤ k) (hk : k < b) : impl_copySchema.retag tg n u1 u2 u3 k = tg k := by
  unfold impl_copySchema.retag
  rw [if_neg (fun e => by have := h1 k e.symm; omega), if_neg (fun e => by have := h2 k e.symm; omega), if_neg (fun e => by have := h3 k e.symm; omega)]
theorem impl_copySchema.Deep_new {w w1 : World} {base : Nat} {tg : Nat → Nat × Nat} {v u1 u2 u3 : Value} {xs : List (S48)} {l1 l2 l3 : List ByteArray} (h : impl_copySchema.Deep w base tg v xs) (hbs : base ≤ w.heap.size) (hb : Below w.heap.size w w1)
    (g1 : Kd.R Kd.string 9 w1 w.heap.size (fun k => some k ≠ u2.ownBlock ∧ some k ≠ u3.ownBlock) u1 l1) (g2 : Kd.R Kd.string 9 w1 w.heap.size (fun k => some k ≠ u1.ownBlock ∧ some k ≠ u3.ownBlock) u2 l2) (g3 : Kd.R Kd.string 9 w1 w.heap.size (fun k => some k ≠ u1.ownBlock ∧ some k ≠ u2.ownBlock) u3 l3) :
    impl_copySchema.Deep w1 base (impl_copySchema.retag tg (xs.length + 1) u1 u2 u3) v xs ∧ Kd.R Kd.string 9 w1 base (fun k => impl_copySchema.retag tg (xs.length + 1) u1 u2 u3 k = (xs.length + 1, 1)) u1 l1 ∧ Kd.R Kd.string 9 w1 base (fun k => impl_copySchema.retag tg (xs.length + 1) u1 u2 u3 k = (xs.length + 1, 2)) u2 l2 ∧ Kd.R Kd.string 9 w1 base (fun k => impl_copySchema.retag tg (xs.length + 1) u1 u2 u3 k = (xs.length + 1, 3)) u3 l3 := by
  obtain ⟨h0, rows, hl, hr, he⟩ := h
  have b1 := (Kd.R_bound g1).1
  have b2 := (Kd.R_bound g2).1
  have b3 := (Kd.R_bound g3).1
  have o1 : ∀ k, u1.ownBlock = some k → w.heap.size ≤ k := fun k e => (b1 k e).2.1
  have o2 : ∀ k, u2.ownBlock = some k → w.heap.size ≤ k := fun k e => (b2 k e).2.1
  have o3 : ∀ k, u3.ownBlock = some k → w.heap.size ≤ k := fun k e => (b3 k e).2.1
  have keep : ∀ {α : Type} {d : Kd α} {e : Nat} {u : Value} {l : List α} (c : Nat × Nat), Kd.R d e w base (fun k => tg k = c) u l → Kd.R d e w1 base (fun k => impl_copySchema.retag tg (xs.length + 1) u1 u2 u3 k = c) u l := fun c hx =>
    Kd.R_below (Kd.R_mono (Kd.R_bound hx) (fun k hk => by rw [impl_copySchema.retag_old o1 o2 o3 hk.2.2.1]; exact hk.1)) hb
  refine ⟨⟨fun k hk => ?_, rows, hl, keep _ hr, fun j x hx => ?_⟩, ?_, ?_, ?_⟩
  · unfold impl_copySchema.retag
    have s1 : ∀ k, u1.ownBlock = some k → k < w1.heap.size := fun k e => (b1 k e).2.2.1
    have s2 : ∀ k, u2.ownBlock = some k → k < w1.heap.size := fun k e => (b2 k e).2.2.1
    have s3 : ∀ k, u3.ownBlock = some k → k < w1.heap.size := fun k e => (b3 k e).2.2.1
    rw [if_neg (fun e => by have := s1 k e.symm; omega), if_neg (fun e => by have := s2 k e.symm; omega), if_neg (fun e => by have := s3 k e.symm; omega)]
    exact h0 k (Nat.le_trans hb.size hk)
  · obtain ⟨v1, v2, v3, e, f1, f2, f3⟩ := he j x hx
    exact ⟨v1, v2, v3, e, keep _ f1, keep _ f2, keep _ f3⟩
  · refine Kd.R_lower (Kd.R_mono (Kd.R_tight2 rfl g1) (fun k hk => ?_)) hbs
    unfold impl_copySchema.retag
    rw [if_pos hk.1]
  · refine Kd.R_lower (Kd.R_mono (Kd.R_tight2 rfl g2) (fun k hk => ?_)) hbs
    unfold impl_copySchema.retag
    rw [if_neg hk.2.1, if_pos hk.1]
  · refine Kd.R_lower (Kd.R_mono (Kd.R_tight2 rfl g3) (fun k hk => ?_)) hbs
    unfold impl_copySchema.retag
    rw [if_neg hk.2.1, if_neg hk.2.2, if_pos hk.1]
/-- Behind an append of one more class. -/
theorem impl_copySchema.Deep_push {W w1 : World} {base : Nat} {tg : Nat → Nat × Nat} {v v1 u1 u2 u3 : Value} {xs : List (S48)} {x : S48} {rows : List (List Value)} (h0 : ∀ k, W.heap.size ≤ k → tg k = (0, 0)) (hl : rows.length = xs.length)
    (hr : Kd.R (Kd.raw 4) 48 W base (fun k => tg k = (0, 0)) v rows)
    (he : ∀ (j : Nat) (x : S48), xs[j]? = some x → ∃ u1 u2 u3, rows[j]? = some [.string x.f0, u1, u2, u3] ∧ Kd.R Kd.string 9 W base (fun k => tg k = (j + 1, 1)) u1 x.f1 ∧ Kd.R Kd.string 9 W base (fun k => tg k = (j + 1, 2)) u2 x.f2 ∧ Kd.R Kd.string 9 W base (fun k => tg k = (j + 1, 3)) u3 x.f3)
    (f1 : Kd.R Kd.string 9 W base (fun k => tg k = (xs.length + 1, 1)) u1 x.f1) (f2 : Kd.R Kd.string 9 W base (fun k => tg k = (xs.length + 1, 2)) u2 x.f2) (f3 : Kd.R Kd.string 9 W base (fun k => tg k = (xs.length + 1, 3)) u3 x.f3)
    (hr1 : Kd.R (Kd.raw 4) 48 w1 base (fun k => tg k = (0, 0)) v1 (rows ++ [[.string x.f0, u1, u2, u3]])) (hg : W.grownBy w1 v.ownBlock) : impl_copySchema.Deep w1 base tg v1 (xs ++ [x]) := by
  have mv : ∀ {u : Value} {l : List ByteArray} (n i : Nat), Kd.R Kd.string 9 W base (fun k => tg k = (n + 1, i)) u l → Kd.R Kd.string 9 w1 base (fun k => tg k = (n + 1, i)) u l := fun n i hx => Kd.R_grown hx hg (fun k hk e => by
    have h2 := hr.1 k e.symm
    dsimp only at h2 hk
    rw [h2] at hk
    simp at hk)
  refine ⟨fun k hk => h0 k (Nat.le_trans hg.size hk), rows ++ [[.string x.f0, u1, u2, u3]], by simp [hl], hr1, fun j y hy => ?_⟩
  rcases Nat.lt_or_ge j xs.length with hj | hj
  · rw [List.getElem?_append_left hj] at hy
    obtain ⟨v1, v2, v3, e, g1, g2, g3⟩ := he j y hy
    exact ⟨v1, v2, v3, by rw [List.getElem?_append_left (by omega)]; exact e, mv _ _ g1, mv _ _ g2, mv _ _ g3⟩
  · rw [List.getElem?_append_right hj] at hy
    have hj2 : j = xs.length := by
      rcases Nat.eq_or_lt_of_le hj with h | h
      · exact h.symm
      · rw [List.getElem?_eq_none (by simp; omega)] at hy; cases hy
    subst hj2
    simp at hy
    subst hy
    exact ⟨u1, u2, u3, by rw [List.getElem?_append_right (by omega), hl]; simp, mv _ _ f1, mv _ _ f2, mv _ _ f3⟩
/-- What is older than the row's blocks is written. -/
theorem impl_copySchema.Deep_step {w w1 : World} {base : Nat} {tg : Nat → Nat × Nat} {v : Value} {xs : List (S48)} (h : impl_copySchema.Deep w base tg v xs) (hz : w.heap.size ≤ w1.heap.size) (hm : ∀ k, base ≤ k → k < w.heap.size → w1.heap[k]? = w.heap[k]?) : impl_copySchema.Deep w1 base tg v xs := by
  obtain ⟨h0, rows, hl, hr, he⟩ := h
  have mv : ∀ {α : Type} {d : Kd α} {e : Nat} {ok : Nat → Prop} {u : Value} {l : List α}, Kd.R d e w base ok u l → Kd.R d e w1 base ok u l := fun hx => Kd.R_mono (Kd.R_step (Kd.R_bound hx) (fun k hk hlt => hm k hk.2.1 hlt)) (fun _ hk => hk.1)
  refine ⟨fun k hk => h0 k (Nat.le_trans hz hk), rows, hl, mv hr, fun j x hx => ?_⟩
  obtain ⟨u1, u2, u3, e, g1, g2, g3⟩ := he j x hx
  exact ⟨u1, u2, u3, e, mv g1, mv g2, mv g3⟩
theorem impl_copySchema.Deep_lower {w : World} {base b : Nat} {tg : Nat → Nat × Nat} {v : Value} {xs : List (S48)} (h : impl_copySchema.Deep w base tg v xs) (hb : b ≤ base) : impl_copySchema.Deep w b tg v xs := by
  obtain ⟨h0, rows, hl, hr, he⟩ := h
  refine ⟨h0, rows, hl, Kd.R_lower hr hb, fun j x hx => ?_⟩
  obtain ⟨u1, u2, u3, e, g1, g2, g3⟩ := he j x hx
  exact ⟨u1, u2, u3, e, Kd.R_lower g1 hb, Kd.R_lower g2 hb, Kd.R_lower g3 hb⟩
/-- The name of one class is written. -/
theorem impl_copySchema.Deep_name {w : World} {base : Nat} {tg : Nat → Nat × Nat} {g n c : Nat} {xs : List (S48)} (h : impl_copySchema.Deep w base tg (.slice (some ⟨g, 0, none⟩) n c) xs) {j : Nat} {x : S48} (hx : xs[j]? = some x) (t : ByteArray) :
    impl_copySchema.Deep (w.setCell ⟨g, j * 4, none⟩ (.string t)) base tg (.slice (some ⟨g, 0, none⟩) n c) (xs.set j { x with f0 := t }) := by
  obtain ⟨h0, rows, hl, hr, he⟩ := h
  obtain ⟨hj, hjx⟩ := List.getElem?_eq_some_iff.1 hx
  obtain ⟨v1, v2, v3, hrow, f1, f2, f3⟩ := he j x hx
  have hn := (Kd.R_reads' hr).1
  have hcell : ∀ i u, ([.string x.f0, v1, v2, v3] : List Value)[i]? = some u → w.cell? ⟨g, (j : Int).toNat * 4 + i, none⟩ = some u := by
    intro i u hu
    have hC := (Kd.R_reads' hr).2.2
    obtain ⟨ad, e, hp⟩ := hC.2.2 (by omega)
    cases e
    obtain ⟨cs, hcl, hk, hcc⟩ := hp j _ hrow
    have hk1 : cs = [.string x.f0, v1, v2, v3] := hk.1
    subst hk1
    have h3 := hcc i u hu
    rw [add_plain, show (Kd.raw 4).sz = 4 from rfl] at h3
    simpa using h3
  have hone : ∀ u ∈ ([.string t, v1, v2, v3] : List Value), u.oneCell' = true := by
    have h3 := one_of_R_ f1
    have h4 := one_of_R_ f2
    have h5 := one_of_R_ f3
    intro u hu
    simp at hu
    rcases hu with rfl | rfl | rfl | rfl
    · rfl
    · exact h3
    · exact h4
    · exact h5
  obtain ⟨h2, h3⟩ := Kd.R_seg hr (j : Int) (by omega) (by omega) (c := [.string x.f0, v1, v2, v3]) (seg := [.string t]) (j := 0) (x' := [.string t, v1, v2, v3]) (okp := fun _ => False) rfl hcell (show 0 + 1 ≤ 4 by omega) ⟨rfl, rfl, hone⟩ (fun _ hk => hk.elim)
  have hw : w.setCells g ((j : Int).toNat * 4 + 0) [.string t] = w.setCell ⟨g, j * 4, none⟩ (.string t) := by
    simp [World.setCells]
  rw [show (Kd.raw 4).sz = 4 from rfl, hw] at h2 h3
  have hg0 := hr.1 g rfl
  have mv : ∀ {u : Value} {l : List ByteArray} (m i : Nat), Kd.R Kd.string 9 w base (fun k => tg k = (m + 1, i)) u l → Kd.R Kd.string 9 (w.setCell ⟨g, j * 4, none⟩ (.string t)) base (fun k => tg k = (m + 1, i)) u l := fun m i hu => Kd.R_grown hu h3 (fun k hk e => by
    cases e
    dsimp only at hk hg0
    rw [hg0] at hk
    simp at hk)
  refine ⟨fun k hk => h0 k (Nat.le_trans h3.size hk), rows.set j [.string t, v1, v2, v3], by simp [hl], by simpa using h2, fun i y hy => ?_⟩
  rw [List.getElem?_set] at hy
  by_cases hij : j = i
  · subst hij
    rw [if_pos rfl, if_pos hj] at hy
    cases hy
    exact ⟨v1, v2, v3, by rw [List.getElem?_set, if_pos rfl, if_pos (by omega)], mv _ _ f1, mv _ _ f2, mv _ _ f3⟩
  · rw [if_neg hij] at hy
    obtain ⟨a1, a2, a3, e, e1, e2, e3⟩ := he i y hy
    exact ⟨a1, a2, a3, by rw [List.getElem?_set, if_neg hij]; exact e, mv _ _ e1, mv _ _ e2, mv _ _ e3⟩
/-- List 1 of one class is written over. -/
theorem impl_copySchema.Deep_list1 {w : World} {base : Nat} {tg : Nat → Nat × Nat} {v : Value} {xs : List (S48)} (h : impl_copySchema.Deep w base tg v xs) {j : Nat} {x : S48} (hx : xs[j]? = some x) :
    ∃ u : Value, Kd.R Kd.string 9 w base (fun k => tg k = (j + 1, 1)) u x.f1 ∧ (∀ (w1 : World) (l : List ByteArray), Kept w w1 (fun k => tg k = (j + 1, 1)) → Kd.R Kd.string 9 w1 base (fun k => (tg k = (j + 1, 1) ∨ w.heap.size ≤ k)) u l → l.length = x.f1.length → impl_copySchema.Deep w1 base tg v (xs.set j { x with f1 := l })) ∧ (∀ (g n c : Nat), v = .slice (some ⟨g, 0, none⟩) n c → w.cell? ⟨g, j * 4 + 1, none⟩ = some u) := by
  obtain ⟨h0, rows, hl, hr, he⟩ := h
  obtain ⟨hj, hjx⟩ := List.getElem?_eq_some_iff.1 hx
  obtain ⟨v1, v2, v3, hrow, f1, f2, f3⟩ := he j x hx
  refine ⟨v1, f1, fun w1 l hk hn hlen => ?_, fun g n c hv => ?_⟩
  · have mv : ∀ {u : Value} {l : List ByteArray} (p : Nat × Nat), p ≠ (j + 1, 1) → Kd.R Kd.string 9 w base (fun k => tg k = p) u l → Kd.R Kd.string 9 w1 base (fun k => tg k = p) u l := fun p hp hu => Kd.R_kept hu hk (fun k h1 h2 => hp (h1.symm.trans h2))
    have hown := f1.1
    have nf : Kd.R Kd.string 9 w1 base (fun k => tg k = (j + 1, 1)) v1 l := Kd.R_mono (Kd.R_tight rfl hn) (fun k e => hown k e.symm)
    refine ⟨fun k hk2 => h0 k (Nat.le_trans hk.1 hk2), rows, by simp [hl], Kd.R_kept hr hk (fun k h1 h2 => by (try dsimp only at h1 h2); rw [h1] at h2; simp at h2), fun i y hy => ?_⟩
    rw [List.getElem?_set] at hy
    by_cases hij : j = i
    · subst hij
      rw [if_pos rfl, if_pos hj] at hy
      cases hy
      exact ⟨v1, v2, v3, hrow, nf, mv _ (by simp) f2, mv _ (by simp) f3⟩
    · rw [if_neg hij] at hy
      obtain ⟨a1, a2, a3, e, e1, e2, e3⟩ := he i y hy
      exact ⟨a1, a2, a3, e, mv _ (by first | (simp; done) | (simp; omega)) e1, mv _ (by first | (simp; done) | (simp; omega)) e2, mv _ (by first | (simp; done) | (simp; omega)) e3⟩
  · subst hv
    obtain ⟨ad, e, hp⟩ := (Kd.R_reads' hr).2.2.2.2 (by omega)
    cases e
    obtain ⟨cs, hcl, hk, hcc⟩ := hp j _ hrow
    have hk1 : cs = [.string x.f0, v1, v2, v3] := hk.1
    subst hk1
    have h3 := hcc 1 v1 rfl
    rw [add_plain, show (Kd.raw 4).sz = 4 from rfl] at h3
    simpa using h3
/-- List 2 of one class is written over. -/
theorem impl_copySchema.Deep_list2 {w : World} {base : Nat} {tg : Nat → Nat × Nat} {v : Value} {xs : List (S48)} (h : impl_copySchema.Deep w base tg v xs) {j : Nat} {x : S48} (hx : xs[j]? = some x) :
    ∃ u : Value, Kd.R Kd.string 9 w base (fun k => tg k = (j + 1, 2)) u x.f2 ∧ (∀ (w1 : World) (l : List ByteArray), Kept w w1 (fun k => tg k = (j + 1, 2)) → Kd.R Kd.string 9 w1 base (fun k => (tg k = (j + 1, 2) ∨ w.heap.size ≤ k)) u l → l.length = x.f2.length → impl_copySchema.Deep w1 base tg v (xs.set j { x with f2 := l })) ∧ (∀ (g n c : Nat), v = .slice (some ⟨g, 0, none⟩) n c → w.cell? ⟨g, j * 4 + 2, none⟩ = some u) := by
  obtain ⟨h0, rows, hl, hr, he⟩ := h
  obtain ⟨hj, hjx⟩ := List.getElem?_eq_some_iff.1 hx
  obtain ⟨v1, v2, v3, hrow, f1, f2, f3⟩ := he j x hx
  refine ⟨v2, f2, fun w1 l hk hn hlen => ?_, fun g n c hv => ?_⟩
  · have mv : ∀ {u : Value} {l : List ByteArray} (p : Nat × Nat), p ≠ (j + 1, 2) → Kd.R Kd.string 9 w base (fun k => tg k = p) u l → Kd.R Kd.string 9 w1 base (fun k => tg k = p) u l := fun p hp hu => Kd.R_kept hu hk (fun k h1 h2 => hp (h1.symm.trans h2))
    have hown := f2.1
    have nf : Kd.R Kd.string 9 w1 base (fun k => tg k = (j + 1, 2)) v2 l := Kd.R_mono (Kd.R_tight rfl hn) (fun k e => hown k e.symm)
    refine ⟨fun k hk2 => h0 k (Nat.le_trans hk.1 hk2), rows, by simp [hl], Kd.R_kept hr hk (fun k h1 h2 => by (try dsimp only at h1 h2); rw [h1] at h2; simp at h2), fun i y hy => ?_⟩
    rw [List.getElem?_set] at hy
    by_cases hij : j = i
    · subst hij
      rw [if_pos rfl, if_pos hj] at hy
      cases hy
      exact ⟨v1, v2, v3, hrow, mv _ (by simp) f1, nf, mv _ (by simp) f3⟩
    · rw [if_neg hij] at hy
      obtain ⟨a1, a2, a3, e, e1, e2, e3⟩ := he i y hy
      exact ⟨a1, a2, a3, e, mv _ (by first | (simp; done) | (simp; omega)) e1, mv _ (by first | (simp; done) | (simp; omega)) e2, mv _ (by first | (simp; done) | (simp; omega)) e3⟩
  · subst hv
    obtain ⟨ad, e, hp⟩ := (Kd.R_reads' hr).2.2.2.2 (by omega)
    cases e
    obtain ⟨cs, hcl, hk, hcc⟩ := hp j _ hrow
    have hk1 : cs = [.string x.f0, v1, v2, v3] := hk.1
    subst hk1
    have h3 := hcc 2 v2 rfl
    rw [add_plain, show (Kd.raw 4).sz = 4 from rfl] at h3
    simpa using h3
/-- List 3 of one class is written over. -/
theorem impl_copySchema.Deep_list3 {w : World} {base : Nat} {tg : Nat → Nat × Nat} {v : Value} {xs : List (S48)} (h : impl_copySchema.Deep w base tg v xs) {j : Nat} {x : S48} (hx : xs[j]? = some x) :
    ∃ u : Value, Kd.R Kd.string 9 w base (fun k => tg k = (j + 1, 3)) u x.f3 ∧ (∀ (w1 : World) (l : List ByteArray), Kept w w1 (fun k => tg k = (j + 1, 3)) → Kd.R Kd.string 9 w1 base (fun k => (tg k = (j + 1, 3) ∨ w.heap.size ≤ k)) u l → l.length = x.f3.length → impl_copySchema.Deep w1 base tg v (xs.set j { x with f3 := l })) ∧ (∀ (g n c : Nat), v = .slice (some ⟨g, 0, none⟩) n c → w.cell? ⟨g, j * 4 + 3, none⟩ = some u) := by
  obtain ⟨h0, rows, hl, hr, he⟩ := h
  obtain ⟨hj, hjx⟩ := List.getElem?_eq_some_iff.1 hx
  obtain ⟨v1, v2, v3, hrow, f1, f2, f3⟩ := he j x hx
  refine ⟨v3, f3, fun w1 l hk hn hlen => ?_, fun g n c hv => ?_⟩
  · have mv : ∀ {u : Value} {l : List ByteArray} (p : Nat × Nat), p ≠ (j + 1, 3) → Kd.R Kd.string 9 w base (fun k => tg k = p) u l → Kd.R Kd.string 9 w1 base (fun k => tg k = p) u l := fun p hp hu => Kd.R_kept hu hk (fun k h1 h2 => hp (h1.symm.trans h2))
    have hown := f3.1
    have nf : Kd.R Kd.string 9 w1 base (fun k => tg k = (j + 1, 3)) v3 l := Kd.R_mono (Kd.R_tight rfl hn) (fun k e => hown k e.symm)
    refine ⟨fun k hk2 => h0 k (Nat.le_trans hk.1 hk2), rows, by simp [hl], Kd.R_kept hr hk (fun k h1 h2 => by (try dsimp only at h1 h2); rw [h1] at h2; simp at h2), fun i y hy => ?_⟩
    rw [List.getElem?_set] at hy
    by_cases hij : j = i
    · subst hij
      rw [if_pos rfl, if_pos hj] at hy
      cases hy
      exact ⟨v1, v2, v3, hrow, mv _ (by simp) f1, mv _ (by simp) f2, nf⟩
    · rw [if_neg hij] at hy
      obtain ⟨a1, a2, a3, e, e1, e2, e3⟩ := he i y hy
      exact ⟨a1, a2, a3, e, mv _ (by first | (simp; done) | (simp; omega)) e1, mv _ (by first | (simp; done) | (simp; omega)) e2, mv _ (by first | (simp; done) | (simp; omega)) e3⟩
  · subst hv
    obtain ⟨ad, e, hp⟩ := (Kd.R_reads' hr).2.2.2.2 (by omega)
    cases e
    obtain ⟨cs, hcl, hk, hcc⟩ := hp j _ hrow
    have hk1 : cs = [.string x.f0, v1, v2, v3] := hk.1
    subst hk1
    have h3 := hcc 3 v3 rfl
    rw [add_plain, show (Kd.raw 4).sz = 4 from rfl] at h3
    simpa using h3
/-- It is read as classes. -/
theorem impl_copySchema.Deep_C {w : World} {base : Nat} {tg : Nat → Nat × Nat} {v : Value} {xs : List (S48)} (h : impl_copySchema.Deep w base tg v xs) : ∃ A c, v = .slice A xs.length c ∧ xs.length ≤ c ∧ Kd.C k48 w A xs.length xs := by
  obtain ⟨h0, rows, hl, hr, he⟩ := h
  obtain ⟨A, c, rfl⟩ := Kd.R_slice hr
  obtain ⟨_, hc, hC⟩ := Kd.R_reads' hr
  rw [hl] at hc
  refine ⟨A, c, by rw [hl], hc, rfl, by rw [← hl]; exact hC.2.1, fun hn => ?_⟩
  obtain ⟨ad, e, hp⟩ := hC.2.2 (by omega)
  refine ⟨ad, e, fun j p hj => ?_⟩
  obtain ⟨u1, u2, u3, hrow, f1, f2, f3⟩ := he j p hj
  obtain ⟨cs, hcl, hk, hcc⟩ := hp j _ hrow
  have hk1 : cs = [.string p.f0, u1, u2, u3] := hk.1
  subst hk1
  obtain ⟨A1, c1, rfl⟩ := Kd.R_slice f1
  obtain ⟨A2, c2, rfl⟩ := Kd.R_slice f2
  obtain ⟨A3, c3, rfl⟩ := Kd.R_slice f3
  exact ⟨_, hcl, k48_mk w p (Kd.R_reads' f1).2.1 (Kd.R_reads' f1).2.2 (Kd.R_reads' f2).2.1 (Kd.R_reads' f2).2.2 (Kd.R_reads' f3).2.1 (Kd.R_reads' f3).2.2, hcc⟩
/-- A literal of one class is read as it is. -/
theorem impl_copySchema.lit {w : World} {e : TypeId} {x : S48} {cs : List Value} (hx : k48.K w x cs) (hl : cs.length = 4) : Kd.C k48 (w.alloc (.cells cs.toArray e)) (some ⟨w.heap.size, 0, none⟩) [x].length [x] := by
  have ho := World.ownsRow_lit (base := 0) (e := e) (size := 4) w cs.toArray 1 (Nat.zero_le _) (by decide) (by simpa using hl)
  have hr2 : Reps (k48.K (w.alloc (.cells cs.toArray e))) 4 [x] cs := by
    have h := Reps.snoc (Reps.none (k48.K (w.alloc (.cells cs.toArray e))) 4) (k48.K_below (below_alloc (Below.refl _ _) _) hx) hl
    simpa using h
  obtain ⟨A, c, he, hR⟩ := own_reads_row (by simpa using ho) hr2 rfl
  cases he
  exact hR
def impl_copySchema.cp : List (S48) → List (S48) → Option (List (S48))
  | [], acc => some acc
  | x :: xs, acc => (impl_classOf.f [x] x.f0).bind fun c => if acc.length < 1000000 then impl_copySchema.cp xs (acc ++ [⟨c.1, c.2.1, c.2.2.1, c.2.2.2.1⟩]) else none
def impl_copySchema.f (l0 : List (S48)) : Option (List (S48)) := impl_copySchema.cp l0 []
set_option maxHeartbeats 8000000 in
set_option maxRecDepth 100000 in
theorem impl_copySchema.deep (A0 : Option Addr) (c0 : Nat) (l0 : List (S48)) (r : List (S48)) (w : World) (hr0 : Kd.C k48 w A0 l0.length l0) (h : impl_copySchema.f l0 = some r) :
    Calls Tryz.prog 24 #[.slice A0 l0.length c0] w fun e w' => ∃ v0_ : Value, e = .returned (v0_) ∧ (∃ tg : Nat → Nat × Nat, impl_copySchema.Deep w' w.heap.size tg v0_ r) ∧ Below w.heap.size w w' := by
  have hu := Tryz.underlying48
  have HR0 := Aside0.mk hr0
  have HB := Aside0.mk (Below.refl w.heap.size w)
  have H' := Aside0.mk (show impl_copySchema.cp l0 [] = some r from h)
  clear hr0 h
  go_enter Tryz.func24, Tryz.ntmps24
  go_wp2_with ((with_reducible refine gate_dst (N := 8) rfl ?_); refine Kd.R_lit (Kd.raw 4) _ 48 ?hg (N := 8) ?hd (xs := ([] : List (List Value))) (inner := []) (ok := fun _ => True) (okp := fun _ => True) ?hr ?hp (fun _ hk => hk) trivial (Below.refl _ _) (Nat.le_refl _) (by simp) ?_; (case hd => rfl); (case hg => rfl); (case hr => first | (go_simp; done) | (go_simp; rfl)); (case hp => exact (Reps.none _ _)); intro v1 w2 ho hb hg_ hnew_; clear hg_ hnew_; have HD : Aside0 (impl_copySchema.Deep w2 w.heap.size (fun _ => (0, 0)) v1 []) := ⟨⟨fun _ _ => rfl, [], rfl, Kd.R_mono (Kd.R_lower ho (below_size HB.out)) (fun _ _ => rfl), fun j x hx => by simp at hx⟩⟩; have n1_ := Aside0.mk (below_step HB.out hb); clear HB hb ho; have HB := n1_; clear n1_)
  go_loopg [3, 11] l0.length (fun kq v3 v11 w' => ∃ (j : Nat) (acc : List (S48)) (tg : Nat → Nat × Nat), v11 = .int .i64 (j : Int) ∧ Aside0 (impl_copySchema.cp (l0.drop j) acc = some r) ∧ Aside0 (j ≤ l0.length) ∧ Aside0 (l0.length - j ≤ kq) ∧ Aside0 (impl_copySchema.Deep w' w.heap.size tg v3 acc) ∧ Aside0 (Below w.heap.size w w'))
  case atStart => exact ⟨0, [], fun _ => (0, 0), rfl, H', ⟨Nat.zero_le _⟩, ⟨by omega⟩, HD, HB⟩
  case round =>
    clear H' HD
    obtain ⟨j, acc, tg, rfl, HA, HJ, HK, HD, HB⟩ := hrel
    by_cases c1 : (j : Int) < (l0.length : Int)
    · have c1b0 : decide ((j : Int) < (l0.length : Int)) = true := decide_eq_true c1
      have c1b1 : decide (j < l0.length) = true := decide_eq_true (by omega)
      have hj : j < l0.length := by omega
      have p1 : 0 ≤ (j : Int) := by omega
      obtain ⟨ad1, B1, b1, B2, b2, B3, b3, e1, hx0, hx1, hx2, hx3, m1, g1, m2, g2, m3, g3⟩ := at_T48 HR0.out (j : Int) p1 c1
      cases e1
      simp only [Int.toNat_natCast] at hx0 hx1 hx2 hx3
      have hel : l0.drop j = rd_T48 l0 (j : Int) :: l0.drop (j + 1) := by
        rw [List.drop_eq_getElem_cons hj]
        congr 1
        unfold rd_T48
        rw [List.getD_eq_getElem?_getD, show (j : Int).toNat = j from rfl, List.getElem?_eq_getElem hj]; rfl
      have H := HA.out
      clear HA
      rw [hel] at H
      obtain ⟨y, hy⟩ : ∃ y, rd_T48 l0 (j : Int) = y := ⟨_, rfl⟩
      rw [hy] at H hx0 hx1 hx2 hx3 m1 m2 m3 g1 g2 g3
      simp only [impl_copySchema.cp] at H
      obtain ⟨⟨d1, d2, d3, d4, d5⟩, AC0, H⟩ := Option.bind_eq_some_iff.1 H
      by_cases cl : acc.length < 1000000
      case neg => rw [if_neg cl] at H; cases H
      rw [if_pos cl] at H
      have AC := Aside0.mk AC0
      have HN := Aside0.mk H
      have HL := Aside0.mk cl
      have HJ2 := Aside0.mk hj
      have G1 := Aside0.mk g1
      have G2 := Aside0.mk g2
      have G3 := Aside0.mk g3
      have M1 := Aside0.mk m1
      have M2 := Aside0.mk m2
      have M3 := Aside0.mk m3
      replace hx0 := (HB.out.cell (World.block_lt_of_cell? w _ hx0)).trans hx0
      replace hx1 := (HB.out.cell (World.block_lt_of_cell? w _ hx1)).trans hx1
      replace hx2 := (HB.out.cell (World.block_lt_of_cell? w _ hx2)).trans hx2
      replace hx3 := (HB.out.cell (World.block_lt_of_cell? w _ hx3)).trans hx3
      have c1i := eq_true c1
      clear AC0 H cl hel hy hj g1 g2 g3 m1 m2 m3 c1
      have HP := Aside0.mk (Below.refl wr.heap.size wr)
      go_upto_region 5 with ((with_reducible refine gate_dst (N := 5) rfl ?_); refine box_event ?hg (N := 5) ?hd (cs := #[.string (⟨#[]⟩ : ByteArray), .slice none 0 0, .slice none 0 0, .slice none 0 0]) (t := 48) ?hr ?_; (case hd => rfl); (case hg => rfl); (case hr => first | (go_simp; done) | (go_simp; rfl)); intro g5 hg w4 hbox hb; have BKg5 := Aside0.mk hbox; have GEg5 := Aside0.mk (show w.heap.size ≤ g5 by rw [hg]; exact below_size HB.out); have GAg5 := Aside0.mk (show wr.heap.size ≤ g5 by rw [hg]; exact below_size HP.out); have n0_ := Aside0.mk (below_step HB.out hb); have n1_ := Aside0.mk (below_step HP.out hb); clear HB HP hb hbox hg; have HB := n0_; have HP := n1_; clear n0_ n1_; have hqg50 : w4.cell? ⟨g5, 0, none⟩ = some (.string (⟨#[]⟩ : ByteArray)) := (blk_cell BKg5.out 0).trans rfl; have hfg50 := blk_frozen BKg5.out 0; have hqg51 : w4.cell? ⟨g5, 1, none⟩ = some (.slice none 0 0) := (blk_cell BKg5.out 1).trans rfl; have hfg51 := blk_frozen BKg5.out 1; have hqg52 : w4.cell? ⟨g5, 2, none⟩ = some (.slice none 0 0) := (blk_cell BKg5.out 2).trans rfl; have hfg52 := blk_frozen BKg5.out 2; have hqg53 : w4.cell? ⟨g5, 3, none⟩ = some (.slice none 0 0) := (blk_cell BKg5.out 3).trans rfl; have hfg53 := blk_frozen BKg5.out 3)
      clear hqg50 hfg50 hqg51 hfg51 hqg52 hfg52 hqg53 hfg53
      have n0_ : Aside0 (Below w.heap.size w (World.setCell (World.setCell (World.setCell (World.setCell w4 ⟨g5, 0, none⟩ (.string y.f0)) ⟨g5, 1, none⟩ (.slice B1 y.f1.length b1)) ⟨g5, 2, none⟩ (.slice B2 y.f2.length b2)) ⟨g5, 3, none⟩ (.slice B3 y.f3.length b3))) := ⟨by repeat (first | (with_reducible first | exact HB.out | refine below_set ?_ GEg5.out) | exact HB.out)⟩
      have n1_ : Aside0 (Below wr.heap.size wr (World.setCell (World.setCell (World.setCell (World.setCell w4 ⟨g5, 0, none⟩ (.string y.f0)) ⟨g5, 1, none⟩ (.slice B1 y.f1.length b1)) ⟨g5, 2, none⟩ (.slice B2 y.f2.length b2)) ⟨g5, 3, none⟩ (.slice B3 y.f3.length b3))) := ⟨by repeat (first | (with_reducible first | exact HP.out | refine below_set ?_ GAg5.out) | exact HP.out)⟩
      have n2_ : Aside0 ((World.heap (World.setCell (World.setCell (World.setCell (World.setCell w4 ⟨g5, 0, none⟩ (.string y.f0)) ⟨g5, 1, none⟩ (.slice B1 y.f1.length b1)) ⟨g5, 2, none⟩ (.slice B2 y.f2.length b2)) ⟨g5, 3, none⟩ (.slice B3 y.f3.length b3)))[g5]? = some (.cells #[.string y.f0, .slice B1 y.f1.length b1, .slice B2 y.f2.length b2, .slice B3 y.f3.length b3] 48 (0, 0))) := ⟨by refine blk_put (cs := #[.string y.f0, .slice B1 y.f1.length b1, .slice B2 y.f2.length b2, .slice none 0 0]) ?_ 3 _ rfl; refine blk_put (cs := #[.string y.f0, .slice B1 y.f1.length b1, .slice none 0 0, .slice none 0 0]) ?_ 2 _ rfl; refine blk_put (cs := #[.string y.f0, .slice none 0 0, .slice none 0 0, .slice none 0 0]) ?_ 1 _ rfl; refine blk_put (cs := #[.string (⟨#[]⟩ : ByteArray), .slice none 0 0, .slice none 0 0, .slice none 0 0]) ?_ 0 _ rfl; exact BKg5.out⟩
      clear HB HP BKg5
      have HB := n0_
      have HP := n1_
      have BKg5 := n2_
      clear n0_ n1_ n2_
      generalize World.setCell (World.setCell (World.setCell (World.setCell w4 _ _) _ _) _ _) _ _ = w5 at HB HP BKg5 ⊢
      have hqg50 : w5.cell? ⟨g5, 0, none⟩ = some (.string y.f0) := (blk_cell BKg5.out 0).trans rfl
      have hfg50 := blk_frozen BKg5.out 0
      have hqg51 : w5.cell? ⟨g5, 1, none⟩ = some (.slice B1 y.f1.length b1) := (blk_cell BKg5.out 1).trans rfl
      have hfg51 := blk_frozen BKg5.out 1
      have hqg52 : w5.cell? ⟨g5, 2, none⟩ = some (.slice B2 y.f2.length b2) := (blk_cell BKg5.out 2).trans rfl
      have hfg52 := blk_frozen BKg5.out 2
      have hqg53 : w5.cell? ⟨g5, 3, none⟩ = some (.slice B3 y.f3.length b3) := (blk_cell BKg5.out 3).trans rfl
      have hfg53 := blk_frozen BKg5.out 3
      have HC : Aside0 (Kd.C k48 (World.alloc w5 (.cells #[.string y.f0, .slice B1 y.f1.length b1, .slice B2 y.f2.length b2, .slice B3 y.f3.length b3] 48)) (some ⟨w5.heap.size, 0, none⟩) [y].length [y]) := ⟨impl_copySchema.lit (k48_mk w5 y M1.out (Kd.C_below G1.out HB.out) M2.out (Kd.C_below G2.out HB.out) M3.out (Kd.C_below G3.out HB.out)) rfl⟩
      have hqa0 : (World.alloc w5 (.cells #[.string y.f0, .slice B1 y.f1.length b1, .slice B2 y.f2.length b2, .slice B3 y.f3.length b3] 48)).cell? ⟨g5, 0, none⟩ = some (.string y.f0) := (World.cell?_alloc_lt _ _ _ (World.block_lt_of_cell? _ _ hqg50)).trans hqg50
      go_upto_region 6 with (first | (go_at_call 45; refine (show Calls Tryz.prog 45 #[.slice (some ⟨w5.heap.size, 0, none⟩) 1 1, .string y.f0] (World.alloc w5 (.cells #[.string y.f0, .slice B1 y.f1.length b1, .slice B2 y.f2.length b2, .slice B3 y.f3.length b3] 48)) _ from impl_classOf.calls (some ⟨w5.heap.size, 0, none⟩) 1 [y] y.f0 d1 d2 d3 d4 d5 _ HC.out (by simp) AC.out).mono ?_; rintro e w6 ⟨u1, u2, u3, rfl, ho1, ho2, ho3, hb⟩; have hdn := impl_copySchema.Deep_new (impl_copySchema.Deep_below HD.out (below_alloc HP.out _)) (below_size (below_alloc HB.out (.cells #[.string y.f0, .slice B1 y.f1.length b1, .slice B2 y.f2.length b2, .slice B3 y.f3.length b3] 48))) hb ho1 ho2 ho3; have n0_ := Aside0.mk (below_step (below_alloc HB.out _) hb); have HE := Aside0.mk hdn; have HP2 := Aside0.mk (Below.refl w6.heap.size w6); obtain ⟨A1, q1, e1_⟩ := Kd.R_slice ho1; obtain ⟨A2, q2, e2_⟩ := Kd.R_slice ho2; obtain ⟨A3, q3, e3_⟩ := Kd.R_slice ho3; subst e1_ e2_ e3_; clear HB HP HD hb hdn ho1 ho2 ho3; have HB := n0_; have HP := HP2; clear n0_ HP2) | ((with_reducible refine gate_dst (N := 6) rfl ?_); refine box_event ?hg (N := 6) ?hd (cs := #[.string (⟨#[]⟩ : ByteArray), .slice none 0 0, .slice none 0 0, .slice none 0 0]) (t := 48) ?hr ?_; (case hd => rfl); (case hg => rfl); (case hr => first | (go_simp; done) | (go_simp; rfl)); intro g6 hg w7 hbox hb; have BKg6 := Aside0.mk hbox; have GEg6 := Aside0.mk (show w.heap.size ≤ g6 by rw [hg]; exact below_size HB.out); have GAg6 := Aside0.mk (show w6.heap.size ≤ g6 by rw [hg]; exact below_size HP.out); have n0_ := Aside0.mk (below_step HB.out hb); have n1_ := Aside0.mk (below_step HP.out hb); clear HB HP hb hbox hg; have HB := n0_; have HP := n1_; clear n0_ n1_; have hqg60 : w7.cell? ⟨g6, 0, none⟩ = some (.string (⟨#[]⟩ : ByteArray)) := (blk_cell BKg6.out 0).trans rfl; have hfg60 := blk_frozen BKg6.out 0; have hqg61 : w7.cell? ⟨g6, 1, none⟩ = some (.slice none 0 0) := (blk_cell BKg6.out 1).trans rfl; have hfg61 := blk_frozen BKg6.out 1; have hqg62 : w7.cell? ⟨g6, 2, none⟩ = some (.slice none 0 0) := (blk_cell BKg6.out 2).trans rfl; have hfg62 := blk_frozen BKg6.out 2; have hqg63 : w7.cell? ⟨g6, 3, none⟩ = some (.slice none 0 0) := (blk_cell BKg6.out 3).trans rfl; have hfg63 := blk_frozen BKg6.out 3))
      clear hqg50 hqg51 hqg52 hqg53 hfg50 hfg51 hfg52 hfg53
      clear hqg60 hfg60 hqg61 hfg61 hqg62 hfg62 hqg63 hfg63
      have n0_ : Aside0 (Below w.heap.size w (World.setCell (World.setCell (World.setCell (World.setCell w7 ⟨g6, 0, none⟩ (.string d1)) ⟨g6, 1, none⟩ (.slice A1 d2.length q1)) ⟨g6, 2, none⟩ (.slice A2 d3.length q2)) ⟨g6, 3, none⟩ (.slice A3 d4.length q3))) := ⟨by repeat (first | (with_reducible first | exact HB.out | refine below_set ?_ GEg6.out) | exact HB.out)⟩
      have n1_ : Aside0 (Below w6.heap.size w6 (World.setCell (World.setCell (World.setCell (World.setCell w7 ⟨g6, 0, none⟩ (.string d1)) ⟨g6, 1, none⟩ (.slice A1 d2.length q1)) ⟨g6, 2, none⟩ (.slice A2 d3.length q2)) ⟨g6, 3, none⟩ (.slice A3 d4.length q3))) := ⟨by repeat (first | (with_reducible first | exact HP.out | refine below_set ?_ GAg6.out) | exact HP.out)⟩
      have n2_ : Aside0 ((World.heap (World.setCell (World.setCell (World.setCell (World.setCell w7 ⟨g6, 0, none⟩ (.string d1)) ⟨g6, 1, none⟩ (.slice A1 d2.length q1)) ⟨g6, 2, none⟩ (.slice A2 d3.length q2)) ⟨g6, 3, none⟩ (.slice A3 d4.length q3)))[g6]? = some (.cells #[.string d1, .slice A1 d2.length q1, .slice A2 d3.length q2, .slice A3 d4.length q3] 48 (0, 0))) := ⟨by refine blk_put (cs := #[.string d1, .slice A1 d2.length q1, .slice A2 d3.length q2, .slice none 0 0]) ?_ 3 _ rfl; refine blk_put (cs := #[.string d1, .slice A1 d2.length q1, .slice none 0 0, .slice none 0 0]) ?_ 2 _ rfl; refine blk_put (cs := #[.string d1, .slice none 0 0, .slice none 0 0, .slice none 0 0]) ?_ 1 _ rfl; refine blk_put (cs := #[.string (⟨#[]⟩ : ByteArray), .slice none 0 0, .slice none 0 0, .slice none 0 0]) ?_ 0 _ rfl; exact BKg6.out⟩
      clear HB HP BKg6
      have HB := n0_
      have HP := n1_
      have BKg6 := n2_
      clear n0_ n1_ n2_
      generalize World.setCell (World.setCell (World.setCell (World.setCell w7 _ _) _ _) _ _) _ _ = w8 at HB HP BKg6 ⊢
      have hqg60 : w8.cell? ⟨g6, 0, none⟩ = some (.string d1) := (blk_cell BKg6.out 0).trans rfl
      have hfg60 := blk_frozen BKg6.out 0
      have hqg61 : w8.cell? ⟨g6, 1, none⟩ = some (.slice A1 d2.length q1) := (blk_cell BKg6.out 1).trans rfl
      have hfg61 := blk_frozen BKg6.out 1
      have hqg62 : w8.cell? ⟨g6, 2, none⟩ = some (.slice A2 d3.length q2) := (blk_cell BKg6.out 2).trans rfl
      have hfg62 := blk_frozen BKg6.out 2
      have hqg63 : w8.cell? ⟨g6, 3, none⟩ = some (.slice A3 d4.length q3) := (blk_cell BKg6.out 3).trans rfl
      have hfg63 := blk_frozen BKg6.out 3
      obtain ⟨hd0, hf1, hf2, hf3⟩ := HE.out
      obtain ⟨hz0, rows, hrl, hrr, hre⟩ := impl_copySchema.Deep_below hd0 HP.out
      have F1 := Aside0.mk (Kd.R_below hf1 HP.out)
      have F2 := Aside0.mk (Kd.R_below hf2 HP.out)
      have F3 := Aside0.mk (Kd.R_below hf3 HP.out)
      have Z0 := Aside0.mk hz0
      have RL := Aside0.mk hrl
      have RR := Aside0.mk hrr
      have RE := Aside0.mk hre
      obtain ⟨tg2, htg⟩ : ∃ t, impl_copySchema.retag tg (acc.length + 1) (.slice A1 d2.length q1) (.slice A2 d3.length q2) (.slice A3 d4.length q3) = t := ⟨_, rfl⟩
      rw [htg] at F1 F2 F3 Z0 RR RE
      clear hd0 hf1 hf2 hf3 hz0 hrl hrr hre HE htg
      go_wp2_with ((with_reducible refine gate_builtin (b := .append) (xs := #[.tmp 23, .tmp 25]) rfl ?_); at_builtin; refine Kd.R_append (Kd.raw 4) (w0 := w) w.heap.size rfl (.tmp 23) (.tmp 25) 24 48 (.agg #[.string (⟨#[]⟩ : ByteArray), .slice none 0 0, .slice none 0 0, .slice none 0 0]) 88 rfl Tryz.underlying24 info48 rfl (by decide) (by omega) _ rows [.string d1, .slice A1 d2.length q1, .slice A2 d3.length q2, .slice A3 d4.length q3] [.string d1, .slice A1 d2.length q1, .slice A2 d3.length q2, .slice A3 d4.length q3] (fun k => tg2 k = (0, 0)) (fun _ => False) rfl rfl ?aP (fun _ hk => hk.elim) ?aF ?aO ?aB ?aS ?aL ?_; (case aP => exact ⟨rfl, rfl, by simp [Value.oneCell']⟩); (case aB => exact HB.out); (case aF => exact Z0.out); (case aO => exact RR.out); (case aS => exact below_size HB.out); (case aL => have := HL.out; have := RL.out; omega); intro v9 w9 ho hb hg hat; have HD := Aside0.mk (impl_copySchema.Deep_push (x := ⟨d1, d2, d3, d4⟩) Z0.out RL.out RR.out RE.out F1.out F2.out F3.out ho hg); have n0_ := Aside0.mk hb; clear HB HP ho hb hg hat; have HB := n0_; clear n0_)
      go_roundg (l0.length - (j + 1))
      case measure => have := HK.out; have := HJ2.out; omega
      case rel => exact ⟨j + 1, _, tg2, by have hb := HR0.out.2.1; have := HJ2.out; first | rfl | go_num | (congr 1; unfold wrap64; omega), HN, ⟨HJ2.out⟩, ⟨Nat.le_refl _⟩, HD, HB⟩
    · have c1b0 : decide ((j : Int) < (l0.length : Int)) = false := decide_eq_false c1
      have c1b1 : decide (j < l0.length) = false := decide_eq_false (by omega)
      have H := HA.out
      rw [List.drop_of_length_le (by omega)] at H
      simp only [impl_copySchema.cp] at H
      obtain rfl := Option.some.inj H
      clear c1
      go_wp2
      go_ret
      exact ⟨_, rfl, ⟨tg, HD.out⟩, HB.out⟩


/-! ### impl_union: function 69 -/
/-- The names of a list, in order, each once. -/
def impl_union.u (l : List ByteArray) : List ByteArray := (Lib.compact ((l.map (·.data.toList)).mergeSort fun x y => decide (x ≤ y))).map fun b => (⟨b.toArray⟩ : ByteArray)
def impl_union.f (l0 : List (List ByteArray)) : Option (List ByteArray) := if l0.flatten.length < 4398046511104 then some (impl_union.u l0.flatten) else none
theorem impl_union.u_back (l : List (List UInt8)) : (l.map fun b => (⟨b.toArray⟩ : ByteArray)).map Value.string = l.map Go.Proofs.encStr := by
  rw [List.map_map]; rfl
theorem impl_union.own_of (w : World) (g cap base : Nat) (cur : Array Value) (h : w.heap[g]? = some (.cells cur 9 (0, 0))) (hb : base ≤ g) (hc : cap ≤ 9223372036854775807) (hs : cur.size = cap) : Kd.R Kd.string 9 w base (fun _ => True) (.slice (some ⟨g, 0, none⟩) 0 cap) [] :=
  ⟨fun _ _ => trivial, [], ⟨rfl, .inr ⟨g, cap, cur, rfl, hb, h, Nat.zero_le _, hc, (by show cur.size = cap * 1; omega), by simp⟩⟩, Reps.none _ _⟩
set_option maxHeartbeats 8000000 in
set_option maxRecDepth 100000 in
theorem impl_union.grow (n : Nat) (hn : n < 4398046511104) (w : World) :
    Calls Tryz.prog 92 #[.slice none 0 0, .int .i64 (n : Int)] w fun e w' => ∃ v0_ : Value, e = .returned v0_ ∧ Kd.R Kd.string 9 w' w.heap.size (fun _ => True) v0_ [] ∧ Below w.heap.size w w' := by
  rcases Nat.eq_zero_or_pos n with h0 | h0
  · subst h0
    go_enter Tryz.func92, Tryz.ntmps92
    go_wp2
    go_ret
    exact ⟨_, rfl, Kd.R_nil _ _ _ _ _, Below.refl _ _⟩
  · have c1 : decide ((n : Int) < 0) = false := decide_eq_false (by omega)
    have c2 : decide ((n : Int) > 0) = true := decide_eq_true (by omega)
    have c3 : decide (0 < (n : Int)) = true := decide_eq_true (by omega)
    have c4 : decide (0 < n) = true := decide_eq_true (by omega)
    have c5 : wrap64 (n : Int) = (n : Int) := by unfold wrap64; omega
    have hr := fun (W : World) (ty : TypeId) => Go.Lib.run_append_nil_zeros (P := Tryz.prog) W 43 3 ty 9 _ _ .i64 .i64 Tryz.underlying43 Tryz.underlying3 (by kernel_rfl : Tryz.prog.info? 9 = some Tryz.t9) rfl n h0 (by decide) (by omega) (by show n * 16 ≤ _; omega)
    have HRun := Aside0.mk hr
    clear hr
    go_enter Tryz.func92, Tryz.ntmps92
    go_wp2_with ((with_reducible refine gate_builtin (b := .append) (xs := #[.tmp 20, .tmp 21]) rfl ?_); at_builtin; refine Go.Lib.wpList_append_run _ rfl (.tmp 20) (.tmp 21) 43 3 rfl _ _ rfl rfl _ _ (HRun.out _ _) ?_)
    go_ret
    have hc := grownCap_ge w n 0 9
    exact ⟨_, rfl, Kd.R_drew (impl_union.own_of _ _ (grownCap w n 0 9) _ (Builtin.zeroCells #[Value.string ⟨#[]⟩] n ++ Builtin.zeroCells #[Value.string ⟨#[]⟩] (grownCap w n 0 9 - n)) (Go.heap_alloc_new _ _) (Nat.le_refl _) (grownCap_le_maxLen w n 0 9 (by show n ≤ 9223372036854775807; omega)) (by rw [Array.size_append, Go.size_zeroCells, Go.size_zeroCells]; show n * 1 + (grownCap w n 0 9 - n) * 1 = _; omega)), below_drew (below_alloc (Below.refl _ _) _)⟩
def impl_union.fl (xs : List (List ByteArray)) (j : Nat) : List ByteArray := (xs.take j).flatten
def impl_union.rdL (xs : List (List ByteArray)) (i : Int) : List ByteArray := xs.getD i.toNat []
theorem impl_union.at_ss {w : World} {A : Option Addr} {n : Nat} {xs : List (List ByteArray)} (h : Kd.C (Kd.slice 9 Kd.string) w A n xs) (i : Int) (h0 : 0 ≤ i) (h1 : i < n) :
    ∃ ad B c, A = some ad ∧ w.cell? (ad.add i.toNat) = some (.slice B (impl_union.rdL xs i).length c) ∧ (impl_union.rdL xs i).length ≤ c ∧ Kd.C Kd.string w B (impl_union.rdL xs i).length (impl_union.rdL xs i) := by
  obtain ⟨ad, cs, e, hl, ⟨B, c, rfl, hc, hr⟩, hcell⟩ := ReadsRow.get_ h [] i h0 h1
  refine ⟨ad, B, c, e, ?_, hc, hr⟩
  have := hcell 0 _ rfl
  rwa [show i.toNat * (Kd.slice 9 Kd.string).sz + 0 = i.toNat from Nat.mul_one _] at this
theorem impl_union.take_step {xs : List (List ByteArray)} {j : Nat} (hj : j < xs.length) : impl_union.fl xs (j + 1) = impl_union.fl xs j ++ impl_union.rdL xs (j : Int) := by
  unfold impl_union.fl
  rw [List.take_succ_eq_append_getElem hj, List.flatten_append]
  congr 1
  unfold impl_union.rdL
  rw [List.getD_eq_getElem?_getD, show (j : Int).toNat = j from rfl, List.getElem?_eq_getElem hj]
  simp
theorem impl_union.take_le (xs : List (List ByteArray)) (j : Nat) : (impl_union.fl xs j).length ≤ xs.flatten.length := by
  unfold impl_union.fl
  conv => rhs; rw [← List.take_append_drop j xs, List.flatten_append, List.length_append]
  omega
set_option maxHeartbeats 8000000 in
set_option maxRecDepth 100000 in
theorem impl_union.concat (A0 : Option Addr) (c0 : Nat) (l0 : List (List ByteArray)) (w : World) (hr0 : Kd.C (Kd.slice 9 Kd.string) w A0 l0.length l0) (hn : l0.flatten.length < 4398046511104) :
    Calls Tryz.prog 67 #[.slice A0 l0.length c0] w fun e w' => ∃ v0_ : Value, e = .returned v0_ ∧ Kd.R Kd.string 9 w' w.heap.size (fun _ => True) v0_ l0.flatten ∧ Below w.heap.size w w' := by
  have HR0 := Aside0.mk hr0
  have HN := Aside0.mk hn
  clear hr0 hn
  have HB := Aside0.mk (Below.refl w.heap.size w)
  go_enter Tryz.func67, Tryz.ntmps67
  go_wp2
  go_loopg [3, 11] l0.length (fun kq v3 v11 w' => ∃ j : Nat, v11 = .int .i64 (j : Int) ∧ v3 = .int .i64 ((impl_union.fl l0 j).length : Int) ∧ Aside0 (j ≤ l0.length) ∧ Aside0 (l0.length - j ≤ kq) ∧ Aside0 (Below w.heap.size w w'))
  case atStart => exact ⟨0, rfl, rfl, ⟨Nat.zero_le _⟩, ⟨by omega⟩, HB⟩
  case round =>
    obtain ⟨j, rfl, rfl, HJ, HK, HB⟩ := hrel
    have hj2 := impl_union.take_le l0 (j + 1)
    by_cases c1 : (j : Int) < (l0.length : Int)
    · have c1b0 : decide ((j : Int) < (l0.length : Int)) = true := decide_eq_true c1
      have c1b1 : decide (j < l0.length) = true := decide_eq_true (by omega)
      have hj : j < l0.length := by omega
      have p1 : 0 ≤ (j : Int) := by omega
      obtain ⟨ad1, B1, b1, e1, hx1, hl1, hr1⟩ := impl_union.at_ss HR0.out (j : Int) p1 c1
      cases e1
      replace hx1 := (HB.out.cell (World.block_lt_of_cell? w _ hx1)).trans hx1
      simp only [Int.toNat_natCast] at hx1
      have hst := congrArg List.length (impl_union.take_step hj)
      rw [List.length_append] at hst
      have hN := HN.out
      have hw : wrap64 (((impl_union.fl l0 j).length : Int) + ((impl_union.rdL l0 (j : Int)).length : Int)) = ((impl_union.fl l0 (j + 1)).length : Int) := by unfold wrap64; omega
      have hw0 : decide (((impl_union.fl l0 (j + 1)).length : Int) < 0) = false := decide_eq_false (by omega)
      clear hr1 hl1 hst hN hj2
      have c1i := eq_true c1
      have HJ2 := Aside0.mk hj
      clear hj c1
      go_wp2
      go_roundg (l0.length - (j + 1))
      case measure => have := HK.out; have := HJ2.out; omega
      case rel => exact ⟨j + 1, by have hb := HR0.out.2.1; have := HJ2.out; first | rfl | go_num | (congr 1; unfold wrap64; omega), by first | rfl | exact congrArg _ hw, ⟨HJ2.out⟩, ⟨Nat.le_refl _⟩, HB⟩
    · have c1b0 : decide ((j : Int) < (l0.length : Int)) = false := decide_eq_false c1
      have c1b1 : decide (j < l0.length) = false := decide_eq_false (by omega)
      have hje : j = l0.length := by have := HJ.out; omega
      subst hje
      clear c1 hj2
      have hgrow := fun W => impl_union.grow (impl_union.fl l0 l0.length).length (by have := impl_union.take_le l0 l0.length; have := HN.out; omega) W
      go_wp2_with (go_at_call 92; refine (hgrow _).mono ?_; rintro e w3 ⟨v0, rfl, ho, hb⟩; have n0_ := Aside0.mk (Kd.R_lower ho (below_size HB.out)); have n1_ := Aside0.mk (below_step HB.out hb); clear HB; have HO := n0_; have HB := n1_; clear n0_ n1_ ho hb)
      go_loopg [6, 27] l0.length (fun kq v6 v27 w' => ∃ j : Nat, v27 = .int .i64 (j : Int) ∧ Aside0 (Kd.R Kd.string 9 w' w.heap.size (fun _ => True) v6 (impl_union.fl l0 j)) ∧ Aside0 (j ≤ l0.length) ∧ Aside0 (l0.length - j ≤ kq) ∧ Aside0 (Below w.heap.size w w'))
      case atStart => exact ⟨0, rfl, HO, ⟨Nat.zero_le _⟩, ⟨by omega⟩, HB⟩
      case round =>
        clear HO
        rename_i gk2 wr2 _ _ _ _ _
        obtain ⟨j, rfl, HO, HJ, HK, HB⟩ := hrel
        have hj2 := impl_union.take_le l0 (j + 1)
        by_cases c1 : (j : Int) < (l0.length : Int)
        · have c1b0 : decide ((j : Int) < (l0.length : Int)) = true := decide_eq_true c1
          have c1b1 : decide (j < l0.length) = true := decide_eq_true (by omega)
          have hj : j < l0.length := by omega
          have p1 : 0 ≤ (j : Int) := by omega
          obtain ⟨ad1, B1, b1, e1, hx1, hl1, hr1⟩ := impl_union.at_ss HR0.out (j : Int) p1 c1
          cases e1
          replace hx1 := (HB.out.cell (World.block_lt_of_cell? w _ hx1)).trans hx1
          simp only [Int.toNat_natCast] at hx1
          have hst := impl_union.take_step hj
          have hlen : (impl_union.fl l0 j).length + (impl_union.rdL l0 (j : Int)).length < 4398046511104 := by
            have h1 := congrArg List.length hst
            rw [List.length_append] at h1
            have := HN.out
            omega
          have HS := Aside0.mk hst
          have HL := Aside0.mk hlen
          have HR1 := Aside0.mk hr1
          clear hr1 hl1 hst hlen hj2
          have c1i := eq_true c1
          have HJ2 := Aside0.mk hj
          clear hj c1
          go_wp2_with ((with_reducible refine gate_builtin (b := .append) (xs := #[.tmp 31, .tmp 32]) rfl ?_); at_builtin; refine Kd.R_append_rows Kd.string (w0 := w) w.heap.size rfl (.tmp 31) (.tmp 32) 43 9 (.string ⟨#[]⟩) 16 rfl Tryz.underlying43 info9 rfl (by decide) (by omega) _ (impl_union.fl l0 j) (impl_union.rdL l0 (j : Int)) _ _ _ (fun _ => True) (fun _ => False) rfl rfl ?aO ?aR (fun _ _ h => h) (fun _ h => h.elim) ?aF ?aB ?aS ?aL ?_; (case aR => exact Kd.C_below HR1.out HB.out); (case aB => exact HB.out); (case aF => exact (fun _ _ => trivial)); (case aO => exact HO.out); (case aS => exact below_size HB.out); (case aL => have := HL.out; omega); intro v1 w6 ho hb hg hat; rw [← HS.out] at ho; have n0_ := Aside0.mk hb; have n1_ := Aside0.mk ho; clear HB; clear HO; have HB := n0_; have HO := n1_; clear n0_ n1_; clear ho hb hg hat)
          go_roundg (l0.length - (j + 1))
          case measure => have := HK.out; have := HJ2.out; omega
          case rel => exact ⟨j + 1, by have hb := HR0.out.2.1; have := HJ2.out; first | rfl | go_num | (congr 1; unfold wrap64; omega), HO, ⟨HJ2.out⟩, ⟨Nat.le_refl _⟩, HB⟩
        · have c1b0 : decide ((j : Int) < (l0.length : Int)) = false := decide_eq_false c1
          have c1b1 : decide (j < l0.length) = false := decide_eq_false (by omega)
          have hje : j = l0.length := by have := HJ.out; omega
          subst hje
          clear c1 hj2
          go_wp2
          go_ret
          exact ⟨_, rfl, by have h_ := HO.out; unfold impl_union.fl at h_; rwa [List.take_length] at h_, HB.out⟩
/-- What the sort and the compaction leave, as a row of the call's own. -/
theorem impl_union.left {w w1 : World} {g cap nn q : Nat} {os : Array Obj} {ss : List (List UInt8)} (hown : w1.ownsRow w.heap.size 9 1 (.slice (some ⟨g, 0, none⟩) ss.length cap) ss.length (ss.map Go.Proofs.encStr)) (hbel : Below w.heap.size w w1) (hbg : w.heap.size ≤ g) :
    let c := Lib.compact (ss.mergeSort fun x y => decide (x ≤ y))
    let w3 := Go.Sort.putRow Go.Proofs.encStr (Go.Sort.ahead (Go.Sort.grow (Go.Sort.putRow Go.Proofs.encStr (Go.Sort.ahead w1 nn) g 0 (ss.mergeSort fun x y => decide (x ≤ y)).toArray) os) q) g 0 (c ++ List.replicate (ss.length - c.length) []).toArray
    w3.ownsRow w.heap.size 9 1 (.slice (some ⟨g, 0, none⟩) c.length cap) c.length (c.map Go.Proofs.encStr) ∧ Below w.heap.size w w3 := by
  intro c w3
  have hl2 : (ss.mergeSort fun x y => decide (x ≤ y)).length = ss.length := List.length_mergeSort ss
  have hle : c.length ≤ (ss.mergeSort fun x y => decide (x ≤ y)).length := Lib.compact_length_le (ss.mergeSort fun x y => decide (x ≤ y))
  rcases hown.2 with ⟨h0, _⟩ | ⟨g', cap', cur, hv, hbase, hb, h1, h2, h3, h4⟩
  · cases h0
  cases hv
  have hs := Go.ownsRow_sorted (n := nn) (os := os) (ts := ss.mergeSort fun x y => decide (x ≤ y)) hl2 hbase hb h1 h2 h3
  have hc := Lib.ownsRow_putRow (q := q) (k := c.length) (ys := c ++ List.replicate (ss.length - c.length) []) hs (by rw [List.length_append, List.length_replicate]; omega) (by omega)
  rw [List.take_left] at hc
  exact ⟨hc, Lib.below_putRow (hbel.grown (Go.grownBy_sorted _) hbel.size (fun j hj => by cases hj; exact hbase)) hbg⟩
theorem impl_union.compact_nil : Lib.compact ([] : List (List UInt8)) = [] := rfl
theorem impl_union.u_nil : impl_union.u [] = [] := by unfold impl_union.u; simp [impl_union.compact_nil]
set_option maxHeartbeats 8000000 in
set_option maxRecDepth 100000 in
theorem impl_union.calls (A0 : Option Addr) (c0 : Nat) (l0 : List (List ByteArray)) (r : List ByteArray) (w : World) (hr0 : Kd.C (Kd.slice 9 Kd.string) w A0 l0.length l0) (hc0 : l0.length ≤ c0) (h : impl_union.f l0 = some r) :
    Calls Tryz.prog 69 #[.slice A0 l0.length c0] w fun e w' => ∃ v0_ : Value, e = .returned (v0_) ∧ Kd.R Kd.string 9 w' w.heap.size (fun _ => True) v0_ r ∧ Below w.heap.size w w' := by
  unfold impl_union.f at h
  by_cases hn : l0.flatten.length < 4398046511104
  case neg => rw [if_neg hn] at h; cases h
  rw [if_pos hn] at h
  obtain rfl := Option.some.inj h
  have hcc := Aside0.mk (impl_union.concat A0 c0 l0 w hr0 hn)
  have HN := Aside0.mk hn
  clear hr0 hc0 h hn
  have HB := Aside0.mk (Below.refl w.heap.size w)
  generalize hxs : l0.flatten = xs at hcc HN ⊢
  clear hxs
  rcases Nat.eq_zero_or_pos xs.length with h0 | h0
  · have hx : xs = [] := List.length_eq_zero_iff.1 h0
    subst hx
    clear h0
    go_enter Tryz.func69, Tryz.ntmps69
    go_wp2_with (first | (go_at_call 67; refine hcc.out.mono ?_; rintro e w1 ⟨v0, rfl, ho, hb⟩; obtain ⟨A, c, rfl⟩ := Kd.R_slice ho; have HO := Aside0.mk ho; have n1_ := Aside0.mk (below_step HB.out hb); clear HB; have HB := n1_; clear n1_ ho hb) | (go_at_call 94; refine (show Calls Tryz.prog 94 _ _ _ from Any.slices_Sort_string_none Tryz.lays190 A c _).mono ?_; rintro e w2 ⟨rfl, rfl⟩) | (go_at_call 95; refine (show Calls Tryz.prog 95 _ _ _ from Any.slices_Compact_string_empty Tryz.lays194 A c _).mono ?_; rintro e w3 ⟨rfl, rfl⟩))
    go_ret
    exact ⟨_, rfl, by rw [impl_union.u_nil]; exact HO.out, HB.out⟩
  · have H0 := Aside0.mk h0
    clear h0
    obtain ⟨zs, hzs⟩ : ∃ z_ : List (List UInt8), z_ = xs.map (·.data.toList) := ⟨_, rfl⟩
    have hzl : zs.length = xs.length := by rw [hzs, List.length_map]
    have hze : encs Value.string xs = zs.map Go.Proofs.encStr := by rw [hzs, Go.Lib.map_encStr]; rfl
    have HZ := Aside0.mk hzs
    have HZL := Aside0.mk hzl
    have HZE := Aside0.mk hze
    clear hzs hzl hze
    go_enter Tryz.func69, Tryz.ntmps69
    go_wp2_with (first
      | (go_at_call 67; refine hcc.out.mono ?_; rintro e w1 ⟨v0, rfl, ho, hb⟩
         obtain ⟨g, cap, rfl, hbg, hgl, _⟩ := Kd.R_form ho H0.out
         have hown := Kd.own_of_R ho
         rw [HZE.out, ← HZL.out] at hown
         obtain ⟨g', cap', e', _, _, hncap, hcm, hlen, hH⟩ := Go.Lib.holds_of_ownsRow hown (by intro h_; cases h_)
         cases e'
         have hsort := Any.slices_Sort_string Tryz.lays190 g 0 cap zs w1 hH hgl (by have := HN.out; have := HZL.out; omega)
         rw [HZL.out] at hsort
         have X := Aside0.mk (And.intro hown (And.intro hb (And.intro hbg (And.intro hgl (And.intro hncap (And.intro hcm hH))))))
         have HS := Aside0.mk hsort
         clear hown hb hbg hgl hncap hcm hH hsort ho hlen)
      | (go_at_call 94; refine (show Calls Tryz.prog 94 _ _ _ from HS.out).mono ?_; rintro e w2 ⟨rfl, nn, os, rfl⟩
         have hl2 : (zs.mergeSort fun x y => decide (x ≤ y)).length = xs.length := by rw [List.length_mergeSort]; exact HZL.out
         have hH2 : Go.Sort.Holds Go.Proofs.encStr (Go.Sort.grow (Go.Sort.putRow Go.Proofs.encStr (Go.Sort.ahead w1 nn) g 0 (zs.mergeSort fun x y => decide (x ≤ y)).toArray) os) g 0 (zs.mergeSort fun x y => decide (x ≤ y)).toArray :=
           Go.Sort.holds_grow Go.Proofs.encStr _ os g 0 _ (by simpa [Go.Sort.putRow, Go.Sort.mapBlock, Go.Sort.ahead] using X.out.2.2.2.1) (Go.Sort.holds_putRow Go.Proofs.encStr _ g 0 _ _ (Go.Sort.holds_ahead Go.Proofs.encStr w1 nn g 0 _ X.out.2.2.2.2.2.2) (by simp))
         have hcomp := Any.slices_Compact_string Tryz.lays194 g 0 cap (zs.mergeSort fun x y => decide (x ≤ y)) _ hH2 (by have := HN.out; omega) (by have := X.out.2.2.2.2.1; have := HZL.out; omega)
         rw [hl2] at hcomp
         have HC := Aside0.mk hcomp
         clear hl2 hH2 hcomp)
      | (go_at_call 95; refine (show Calls Tryz.prog 95 _ _ _ from HC.out).mono ?_; rintro e w3 ⟨rfl, q, rfl⟩))
    go_ret
    have hfin := impl_union.left (nn := nn) (q := q) (os := os) X.out.1 X.out.2.1 X.out.2.2.1
    rw [HZL.out] at hfin
    have hl3 : (impl_union.u xs).length = (Lib.compact (zs.mergeSort fun x y => decide (x ≤ y))).length := by unfold impl_union.u; rw [List.length_map, HZ.out]
    exact ⟨_, rfl, Kd.R_of_own (by rw [hl3]; have h_ := hfin.1; rw [HZ.out] at h_ ⊢; unfold impl_union.u encs; rw [impl_union.u_back]; exact h_) (fun _ _ => trivial), hfin.2⟩


/-! ### strings_Trim: function 93 -/
/-- strings.Trim, where the cutset is of ASCII bytes and both are no longer than a string can be: by the shelf's contract. -/
def strings_Trim.f (a0 : ByteArray) (a1 : ByteArray) : Option (ByteArray) := if a0.size ≤ 9223372036854775807 ∧ a1.size < 4294967281 ∧ a1.data.toList.all (fun b => decide (b.toNat < 128)) = true then some ⟨(Lib.trimS a0.data.toList a1.data.toList).toArray⟩ else none
theorem strings_Trim.calls (a0 : ByteArray) (a1 : ByteArray) (r : ByteArray) (w : World) (h : strings_Trim.f a0 a1 = some r) :
    Calls Tryz.prog 93 #[.string a0, .string a1] w fun e w' => e = .returned (.string r) ∧ Below w.heap.size w w' := by
  unfold strings_Trim.f at h
  by_cases c : a0.size ≤ 9223372036854775807 ∧ a1.size < 4294967281 ∧ a1.data.toList.all (fun b => decide (b.toNat < 128)) = true
  · rw [if_pos c] at h
    obtain rfl := Option.some.inj h
    exact Any.strings_Trim_laid Tryz.lays160 (by kernel_rfl) a0 a1 w c.1 c.2.1 (ascii_of_all c.2.2)
  · rw [if_neg c] at h
    exact absurd h (by simp)


/-! ### impl_NameRight: function 68 -/
def impl_NameRight.f (a0 : ByteArray) : Option (Bool) := if (a0.size : Int) ≥ 1 then (if (a0.size : Int) ≤ 20 then (if 0 < (a0.size : Int) then (if (bt a0 0) ≥ 97 then (if (bt a0 0) ≤ 122 then ((strings_Trim.f a0 (⟨#[97, 98, 99, 100, 101, 102, 103, 104, 105, 106, 107, 108, 109, 110, 111, 112, 113, 114, 115, 116, 117, 118, 119, 120, 121, 122, 48, 49, 50, 51, 52, 53, 54, 55, 56, 57, 95]⟩ : ByteArray)).bind fun t210 => (some (t210.toList == ([] : List UInt8)))) else (some false)) else (some false)) else (none)) else (some false)) else (some false)
set_option maxHeartbeats 8000000 in
set_option maxRecDepth 100000 in
theorem impl_NameRight.calls (a0 : ByteArray) (r : Bool) (w : World) (h : impl_NameRight.f a0 = some r) :
    Calls Tryz.prog 68 #[.string a0] w fun e w' => e = .returned (.bool r) ∧ Below w.heap.size w w' := by
  have HB := Aside0.mk (Below.refl w.heap.size w)
  have H : (if (a0.size : Int) ≥ 1 then (if (a0.size : Int) ≤ 20 then (if 0 < (a0.size : Int) then (if (bt a0 0) ≥ 97 then (if (bt a0 0) ≤ 122 then ((strings_Trim.f a0 (⟨#[97, 98, 99, 100, 101, 102, 103, 104, 105, 106, 107, 108, 109, 110, 111, 112, 113, 114, 115, 116, 117, 118, 119, 120, 121, 122, 48, 49, 50, 51, 52, 53, 54, 55, 56, 57, 95]⟩ : ByteArray)).bind fun t210 => (some (t210.toList == ([] : List UInt8)))) else (some false)) else (some false)) else (none)) else (some false)) else (some false)) = some r := h
  clear h
  by_cases c2 : (a0.size : Int) ≥ 1
  · rw [if_pos c2] at H
    have c2b0 : decide (1 ≤ (a0.size : Int)) = true := decide_eq_true c2
    have c2b1 : decide (1 ≤ a0.size) = true := decide_eq_true (by omega)
    clear c2
    by_cases c3 : (a0.size : Int) ≤ 20
    · rw [if_pos c3] at H
      have c3b0 : decide ((a0.size : Int) ≤ 20) = true := decide_eq_true c3
      have c3b1 : decide (a0.size ≤ 20) = true := decide_eq_true (by omega)
      clear c3
      by_cases c4 : 0 < (a0.size : Int)
      · rw [if_pos c4] at H
        have c4b0 : decide (0 < (a0.size : Int)) = true := decide_eq_true c4
        have c4b1 : decide (0 < a0.size) = true := decide_eq_true (by omega)
        clear c4
        by_cases c6 : (bt a0 0) ≥ 97
        · rw [if_pos c6] at H
          have c6b0 : decide (97 ≤ (bt a0 0)) = true := decide_eq_true c6
          clear c6
          by_cases c8 : (bt a0 0) ≤ 122
          · rw [if_pos c8] at H
            have c8b0 : decide ((bt a0 0) ≤ 122) = true := decide_eq_true c8
            clear c8
            replace H := Option.bind_eq_some_iff.mp H
            obtain ⟨t210, A90, H⟩ := H
            replace H : (some (t210.toList == ([] : List UInt8))) = some r := H
            have A9 := Aside0.mk A90
            clear A90
            obtain rfl := Option.some.inj H
            have p5 : 0 ≤ (0 : Int) := (by omega)
            have q5 : 0 < a0.size := (by have : (0 : Int) < (a0.size : Int) := of_decide_eq_true (by first | (with_reducible assumption) | assumption); omega)
            have hx5 : ∀ h : 0 < a0.size, ((a0[0]'h).toNat : Int) = bt a0 0 := bt_at a0 0
            clear p5
            have qi5 : (0 < (a0.size : Int)) = True := eq_true (of_decide_eq_true (by first | (with_reducible assumption) | assumption))
            replace q5 := eq_true q5
            have p7 : 0 ≤ (0 : Int) := (by omega)
            have q7 : 0 < a0.size := (by have : (0 : Int) < (a0.size : Int) := of_decide_eq_true (by first | (with_reducible assumption) | assumption); omega)
            have hx7 : ∀ h : 0 < a0.size, ((a0[0]'h).toNat : Int) = bt a0 0 := bt_at a0 0
            clear p7
            have qi7 : (0 < (a0.size : Int)) = True := eq_true (of_decide_eq_true (by first | (with_reducible assumption) | assumption))
            replace q7 := eq_true q7
            go_enter Tryz.func68, Tryz.ntmps68
            go_wp2_with (first | (go_at_call 93; (with_reducible refine (strings_Trim.calls a0 (⟨#[97, 98, 99, 100, 101, 102, 103, 104, 105, 106, 107, 108, 109, 110, 111, 112, 113, 114, 115, 116, 117, 118, 119, 120, 121, 122, 48, 49, 50, 51, 52, 53, 54, 55, 56, 57, 95]⟩ : ByteArray) t210 _ A9.out).mono ?_); rintro e w10 ⟨rfl, hb⟩; have n0_ := Aside0.mk (below_step (by repeat (first | (with_reducible first | exact HB.out | apply below_alloc | apply pw_below_drewN | apply below_drew1) | exact HB.out)) hb); clear HB; have HB := n0_; clear n0_; (try clear hb); (try clear hb2); (try clear hk); (try clear hi)))
            go_ret
            exact ⟨by first | rfl | (simp only [bne_nil_, beq_nil_]; rfl) | (simp [errW_none, errW_some] <;> rfl) | (simp [*, errW_none, errW_some] <;> rfl), by repeat (first | (with_reducible first | exact HB.out | apply below_alloc | apply pw_below_drewN | apply below_drew1) | exact HB.out)⟩
          · rw [if_neg c8] at H
            have c8b0 : decide ((bt a0 0) ≤ 122) = false := decide_eq_false c8
            clear c8
            obtain rfl := Option.some.inj H
            have p5 : 0 ≤ (0 : Int) := (by omega)
            have q5 : 0 < a0.size := (by have : (0 : Int) < (a0.size : Int) := of_decide_eq_true (by first | (with_reducible assumption) | assumption); omega)
            have hx5 : ∀ h : 0 < a0.size, ((a0[0]'h).toNat : Int) = bt a0 0 := bt_at a0 0
            clear p5
            have qi5 : (0 < (a0.size : Int)) = True := eq_true (of_decide_eq_true (by first | (with_reducible assumption) | assumption))
            replace q5 := eq_true q5
            have p7 : 0 ≤ (0 : Int) := (by omega)
            have q7 : 0 < a0.size := (by have : (0 : Int) < (a0.size : Int) := of_decide_eq_true (by first | (with_reducible assumption) | assumption); omega)
            have hx7 : ∀ h : 0 < a0.size, ((a0[0]'h).toNat : Int) = bt a0 0 := bt_at a0 0
            clear p7
            have qi7 : (0 < (a0.size : Int)) = True := eq_true (of_decide_eq_true (by first | (with_reducible assumption) | assumption))
            replace q7 := eq_true q7
            go_enter Tryz.func68, Tryz.ntmps68
            go_wp2
            go_ret
            exact ⟨by first | rfl | (simp only [bne_nil_, beq_nil_]; rfl) | (simp [errW_none, errW_some] <;> rfl) | (simp [*, errW_none, errW_some] <;> rfl), by repeat (first | (with_reducible first | exact HB.out | apply below_alloc | apply pw_below_drewN | apply below_drew1) | exact HB.out)⟩
        · rw [if_neg c6] at H
          have c6b0 : decide (97 ≤ (bt a0 0)) = false := decide_eq_false c6
          clear c6
          obtain rfl := Option.some.inj H
          have p5 : 0 ≤ (0 : Int) := (by omega)
          have q5 : 0 < a0.size := (by have : (0 : Int) < (a0.size : Int) := of_decide_eq_true (by first | (with_reducible assumption) | assumption); omega)
          have hx5 : ∀ h : 0 < a0.size, ((a0[0]'h).toNat : Int) = bt a0 0 := bt_at a0 0
          clear p5
          have qi5 : (0 < (a0.size : Int)) = True := eq_true (of_decide_eq_true (by first | (with_reducible assumption) | assumption))
          replace q5 := eq_true q5
          go_enter Tryz.func68, Tryz.ntmps68
          go_wp2
          go_ret
          exact ⟨by first | rfl | (simp only [bne_nil_, beq_nil_]; rfl) | (simp [errW_none, errW_some] <;> rfl) | (simp [*, errW_none, errW_some] <;> rfl), by repeat (first | (with_reducible first | exact HB.out | apply below_alloc | apply pw_below_drewN | apply below_drew1) | exact HB.out)⟩
      · rw [if_neg c4] at H
        exact absurd H (by simp)
    · rw [if_neg c3] at H
      have c3b0 : decide ((a0.size : Int) ≤ 20) = false := decide_eq_false c3
      have c3b1 : decide (a0.size ≤ 20) = false := decide_eq_false (by omega)
      clear c3
      obtain rfl := Option.some.inj H
      go_enter Tryz.func68, Tryz.ntmps68
      go_wp2
      go_ret
      exact ⟨by first | rfl | (simp only [bne_nil_, beq_nil_]; rfl) | (simp [errW_none, errW_some] <;> rfl) | (simp [*, errW_none, errW_some] <;> rfl), by repeat (first | (with_reducible first | exact HB.out | apply below_alloc | apply pw_below_drewN | apply below_drew1) | exact HB.out)⟩
  · rw [if_neg c2] at H
    have c2b0 : decide (1 ≤ (a0.size : Int)) = false := decide_eq_false c2
    have c2b1 : decide (1 ≤ a0.size) = false := decide_eq_false (by omega)
    clear c2
    obtain rfl := Option.some.inj H
    go_enter Tryz.func68, Tryz.ntmps68
    go_wp2
    go_ret
    exact ⟨by first | rfl | (simp only [bne_nil_, beq_nil_]; rfl) | (simp [errW_none, errW_some] <;> rfl) | (simp [*, errW_none, errW_some] <;> rfl), by repeat (first | (with_reducible first | exact HB.out | apply below_alloc | apply pw_below_drewN | apply below_drew1) | exact HB.out)⟩

/-! ### impl_areNames: function 66 -/
def impl_areNames.l0 : Nat → List ByteArray → List ByteArray → Int → Int → Option (Bool)
  | 0, _, _, _, _ => none
  | k + 1, x0, x5, x6, x7 => if x7 < x6 then (if 0 ≤ x7 then (if x7 < (x5.length : Int) then ((impl_NameRight.f (rdOf ByteArray.empty x5 x7)).bind fun t212 => (if t212 = true then (if x7 > 0 then (if 0 ≤ (wrap64 (x7 - 1)) then (if (wrap64 (x7 - 1)) < (x0.length : Int) then (if ((Op.bytesLess ((rdOf ByteArray.empty x0 (wrap64 (x7 - 1))).toList) ((rdOf ByteArray.empty x5 x7).toList)) = true) then (impl_areNames.l0 k x0 x5 x6 (wrap64 (x7 + 1))) else (some false)) else (none)) else (none)) else (impl_areNames.l0 k x0 x5 x6 (wrap64 (x7 + 1)))) else (some false))) else (none)) else (none)) else (some true)
def impl_areNames.f (k : Nat) (l0 : List ByteArray) : Option (Bool) := impl_areNames.l0 k l0 l0 (l0.length : Int) 0
theorem impl_areNames.mono_l : ∀ k, (∀ y0 y1 y2 y3, LeO (impl_areNames.l0 k y0 y1 y2 y3) (impl_areNames.l0 (k + 1) y0 y1 y2 y3))
  | 0 => fun _ _ _ _ r h => by simp [impl_areNames.l0] at h
  | k + 1 => by
    have ih0 := impl_areNames.mono_l k
    · intro y0 y1 y2 y3
      unfold impl_areNames.l0
      repeat' first
      | (with_reducible exact ih0 _ _ _ _)
      | (with_reducible exact LeO.refl _)
      | (with_reducible exact LeO.none _)
      | (with_reducible refine LeO.ite ?_ ?_)
      | (with_reducible refine LeO.bind ?_ (fun _ => ?_))
      | exact ih0 _ _ _ _
      | exact LeO.none _
      | refine LeO.ite ?_ ?_
      | refine LeO.bind ?_ (fun _ => ?_)
theorem impl_areNames.mono : ∀ a0 k, LeO (impl_areNames.f k a0) (impl_areNames.f (k + 1) a0) := by
  intro a0 k
  have ih0 := impl_areNames.mono_l k
  unfold impl_areNames.f
  repeat' first
      | (with_reducible exact ih0 _ _ _ _)
      | (with_reducible exact LeO.refl _)
      | (with_reducible exact LeO.none _)
      | (with_reducible refine LeO.ite ?_ ?_)
      | (with_reducible refine LeO.bind ?_ (fun _ => ?_))
      | exact ih0 _ _ _ _
      | exact LeO.none _
      | refine LeO.ite ?_ ?_
      | refine LeO.bind ?_ (fun _ => ?_)
set_option maxHeartbeats 8000000 in
set_option maxRecDepth 100000 in
theorem impl_areNames.calls (k : Nat) (A0 : Option Addr) (c0 : Nat) (l0 : List ByteArray) (r : Bool) (w : World) (hr0 : Kd.C Kd.string w A0 l0.length l0) (hc0 : l0.length ≤ c0) (h : impl_areNames.f k l0 = some r) :
    Calls Tryz.prog 66 #[.slice A0 l0.length c0] w fun e w' => e = .returned (.bool r) ∧ Below w.heap.size w w' := by
  have HR0 := Aside0.mk hr0
  have HC0 := Aside0.mk hc0
  clear hr0 hc0
  have HB := Aside0.mk (Below.refl w.heap.size w)
  have H : (impl_areNames.l0 k l0 l0 (l0.length : Int) 0) = some r := h
  clear h
  have H' := Aside0.mk H
  clear H
  go_enter Tryz.func66, Tryz.ntmps66
  go_wp2
  go_loopg [7] k (fun kq v7 w' => ∃ (x7_1 : Int), v7 = .int .i64 x7_1 ∧ Aside0 (impl_areNames.l0 kq l0 l0 (l0.length : Int) x7_1 = some r) ∧ Aside0 (kq ≤ k) ∧ Aside0 (Below w.heap.size w w'))
  case atStart => exact ⟨(0), (by first | rfl | (simp; done) | (simp [*]; done)), H', ⟨Nat.le_refl _⟩, ⟨by repeat (first | (with_reducible first | exact HB.out | apply below_alloc | apply pw_below_drewN | apply below_drew1) | exact HB.out)⟩⟩
  case round =>
    clear H'
    obtain ⟨x7_1, rfl, HA, HK1, HB⟩ := hrel
    cases gk with
    | zero => exact absurd HA.out (by simp [impl_areNames.l0])
    | succ k1 =>
      have H := HA.out
      clear HA
      simp only [impl_areNames.l0] at H
      by_cases c2 : x7_1 < (l0.length : Int)
      · rw [if_pos c2] at H
        have c2b0 : decide (x7_1 < (l0.length : Int)) = true := decide_eq_true c2
        clear c2
        by_cases c3 : 0 ≤ x7_1
        · rw [if_pos c3] at H
          have c3b0 : decide (0 ≤ x7_1) = true := decide_eq_true c3
          clear c3
          by_cases c4 : x7_1 < (l0.length : Int)
          · rw [if_pos c4] at H
            have c4b0 : decide (x7_1 < (l0.length : Int)) = true := decide_eq_true c4
            clear c4
            replace H := Option.bind_eq_some_iff.mp H
            obtain ⟨t212, A50, H⟩ := H
            replace H : (if t212 = true then (if x7_1 > 0 then (if 0 ≤ (wrap64 (x7_1 - 1)) then (if (wrap64 (x7_1 - 1)) < (l0.length : Int) then (if ((Op.bytesLess ((rdOf ByteArray.empty l0 (wrap64 (x7_1 - 1))).toList) ((rdOf ByteArray.empty l0 x7_1).toList)) = true) then (impl_areNames.l0 k1 l0 l0 (l0.length : Int) (wrap64 (x7_1 + 1))) else (some false)) else (none)) else (none)) else (impl_areNames.l0 k1 l0 l0 (l0.length : Int) (wrap64 (x7_1 + 1)))) else (some false)) = some r := H
            have A5 := Aside0.mk A50
            clear A50
            by_cases c6 : t212 = true
            · subst c6
              have H1 : (if x7_1 > 0 then (if 0 ≤ (wrap64 (x7_1 - 1)) then (if (wrap64 (x7_1 - 1)) < (l0.length : Int) then (if ((Op.bytesLess ((rdOf ByteArray.empty l0 (wrap64 (x7_1 - 1))).toList) ((rdOf ByteArray.empty l0 x7_1).toList)) = true) then (impl_areNames.l0 k1 l0 l0 (l0.length : Int) (wrap64 (x7_1 + 1))) else (some false)) else (none)) else (none)) else (impl_areNames.l0 k1 l0 l0 (l0.length : Int) (wrap64 (x7_1 + 1)))) = some r := by rw [if_pos rfl] at H; exact H
              clear H
              have H := H1
              clear H1
              by_cases c7 : x7_1 > 0
              · rw [if_pos c7] at H
                have c7b0 : decide (0 < x7_1) = true := decide_eq_true c7
                clear c7
                obtain ⟨ji8, hji8⟩ : ∃ j_ : Int, (wrap64 (x7_1 - 1)) = j_ := ⟨_, rfl⟩
                replace H : (if 0 ≤ (ji8) then (if (ji8) < (l0.length : Int) then (if ((Op.bytesLess ((rdOf ByteArray.empty l0 (ji8)).toList) ((rdOf ByteArray.empty l0 x7_1).toList)) = true) then (impl_areNames.l0 k1 l0 l0 (l0.length : Int) (wrap64 (x7_1 + 1))) else (some false)) else (none)) else (none)) = some r := by first | (rw [hji8] at H; exact H) | (simp only [hji8] at H ⊢; exact H)
                (try rw [hji8] at A5)
                have hji8w : (IntKind.i64.wrap (x7_1 - 1)) = ji8 := (i64_w _).trans hji8
                by_cases c9 : 0 ≤ (ji8)
                · rw [if_pos c9] at H
                  have c9b0 : decide (0 ≤ (ji8)) = true := decide_eq_true c9
                  clear c9
                  by_cases c10 : (ji8) < (l0.length : Int)
                  · rw [if_pos c10] at H
                    have c10b0 : decide ((ji8) < (l0.length : Int)) = true := decide_eq_true c10
                    clear c10
                    by_cases c11 : ((Op.bytesLess ((rdOf ByteArray.empty l0 (ji8)).toList) ((rdOf ByteArray.empty l0 x7_1).toList)) = true)
                    · rw [if_pos c11] at H
                      have c11b0 : (Op.bytesLess ((rdOf ByteArray.empty l0 (ji8)).toList) ((rdOf ByteArray.empty l0 x7_1).toList)) = true := c11
                      clear c11
                      have H' := Aside0.mk H
                      clear H
                      have p211 : 0 ≤ (x7_1 : Int) := of_decide_eq_true (by first | (with_reducible assumption) | assumption)
                      have q211 : x7_1 < (l0.length : Int) := of_decide_eq_true (by first | (with_reducible assumption) | assumption)
                      obtain ⟨ad211, e211, hx211_0⟩ := Kd.at_string HR0.out x7_1 p211 q211
                      cases e211
                      replace hx211_0 := (HB.out.cell (World.block_lt_of_cell? w _ hx211_0)).trans hx211_0
                      replace p211 := eq_true p211
                      replace q211 := eq_true q211
                      go_wp2_with (first | ((with_reducible refine gate_callee (f := 68) rfl ?_); refine goesL_ (some 13) rfl rfl Tryz.func68 (by kernel_rfl) rfl #[.string (rdOf ByteArray.empty l0 x7_1)] rfl (by (try simp only [List.map_toArray, List.map_cons, List.map_nil]); first | done | rfl | (simp only [List.length_drop, List.length_take]; rfl)) ?_; (with_reducible refine (impl_NameRight.calls (rdOf ByteArray.empty l0 x7_1) true _ A5.out).mono ?_); rintro e w12 ⟨rfl, hb⟩; refine ⟨_, rfl, ?_⟩; have n0_ := Aside0.mk (below_step (by repeat (first | (with_reducible first | exact HB.out | apply below_alloc | apply pw_below_drewN | apply below_drew1) | exact HB.out)) hb); clear HB; have HB := n0_; clear n0_; (try clear hb); (try clear hb2); (try clear hk); (try clear hi); have p213 : 0 ≤ ((ji8) : Int) := of_decide_eq_true (by first | (with_reducible assumption) | assumption); have q213 : (ji8) < (l0.length : Int) := of_decide_eq_true (by first | (with_reducible assumption) | assumption); obtain ⟨ad213, e213, hx213_0⟩ := Kd.at_string HR0.out (ji8) p213 q213; obtain rfl : ad211 = ad213 := (by injection e213); replace hx213_0 := (HB.out.cell (World.block_lt_of_cell? w _ hx213_0)).trans hx213_0; replace p213 := eq_true p213; replace q213 := eq_true q213))
                      go_roundg k1
                      case measure => have := HK1.out; omega
                      case rel => exact ⟨(wrap64 (x7_1 + 1)), (by first | rfl | (simp; done) | (simp [*]; done)), H', ⟨by have := HK1.out; omega⟩, ⟨by repeat (first | (with_reducible first | exact HB.out | apply below_alloc | apply pw_below_drewN | apply below_drew1) | exact HB.out)⟩⟩
                    · rw [if_neg c11] at H
                      have c11b0 : (Op.bytesLess ((rdOf ByteArray.empty l0 (ji8)).toList) ((rdOf ByteArray.empty l0 x7_1).toList)) = false := by simpa using c11
                      clear c11
                      obtain rfl := Option.some.inj H
                      have p211 : 0 ≤ (x7_1 : Int) := of_decide_eq_true (by first | (with_reducible assumption) | assumption)
                      have q211 : x7_1 < (l0.length : Int) := of_decide_eq_true (by first | (with_reducible assumption) | assumption)
                      obtain ⟨ad211, e211, hx211_0⟩ := Kd.at_string HR0.out x7_1 p211 q211
                      cases e211
                      replace hx211_0 := (HB.out.cell (World.block_lt_of_cell? w _ hx211_0)).trans hx211_0
                      replace p211 := eq_true p211
                      replace q211 := eq_true q211
                      go_wp2_with (first | ((with_reducible refine gate_callee (f := 68) rfl ?_); refine goesL_ (some 13) rfl rfl Tryz.func68 (by kernel_rfl) rfl #[.string (rdOf ByteArray.empty l0 x7_1)] rfl (by (try simp only [List.map_toArray, List.map_cons, List.map_nil]); first | done | rfl | (simp only [List.length_drop, List.length_take]; rfl)) ?_; (with_reducible refine (impl_NameRight.calls (rdOf ByteArray.empty l0 x7_1) true _ A5.out).mono ?_); rintro e w13 ⟨rfl, hb⟩; refine ⟨_, rfl, ?_⟩; have n0_ := Aside0.mk (below_step (by repeat (first | (with_reducible first | exact HB.out | apply below_alloc | apply pw_below_drewN | apply below_drew1) | exact HB.out)) hb); clear HB; have HB := n0_; clear n0_; (try clear hb); (try clear hb2); (try clear hk); (try clear hi); have p213 : 0 ≤ ((ji8) : Int) := of_decide_eq_true (by first | (with_reducible assumption) | assumption); have q213 : (ji8) < (l0.length : Int) := of_decide_eq_true (by first | (with_reducible assumption) | assumption); obtain ⟨ad213, e213, hx213_0⟩ := Kd.at_string HR0.out (ji8) p213 q213; obtain rfl : ad211 = ad213 := (by injection e213); replace hx213_0 := (HB.out.cell (World.block_lt_of_cell? w _ hx213_0)).trans hx213_0; replace p213 := eq_true p213; replace q213 := eq_true q213))
                      go_ret
                      exact ⟨by first | rfl | (simp only [bne_nil_, beq_nil_]; rfl) | (simp [errW_none, errW_some] <;> rfl) | (simp only [← hji8]; first | rfl | (simp [errW_none, errW_some] <;> rfl)) | (simp [*, errW_none, errW_some] <;> rfl), by repeat (first | (with_reducible first | exact HB.out | apply below_alloc | apply pw_below_drewN | apply below_drew1) | exact HB.out)⟩
                  · rw [if_neg c10] at H
                    exact absurd H (by simp)
                · rw [if_neg c9] at H
                  exact absurd H (by simp)
              · rw [if_neg c7] at H
                have c7b0 : decide (0 < x7_1) = false := decide_eq_false c7
                clear c7
                have H' := Aside0.mk H
                clear H
                have p211 : 0 ≤ (x7_1 : Int) := of_decide_eq_true (by first | (with_reducible assumption) | assumption)
                have q211 : x7_1 < (l0.length : Int) := of_decide_eq_true (by first | (with_reducible assumption) | assumption)
                obtain ⟨ad211, e211, hx211_0⟩ := Kd.at_string HR0.out x7_1 p211 q211
                cases e211
                replace hx211_0 := (HB.out.cell (World.block_lt_of_cell? w _ hx211_0)).trans hx211_0
                replace p211 := eq_true p211
                replace q211 := eq_true q211
                go_wp2_with (first | ((with_reducible refine gate_callee (f := 68) rfl ?_); refine goesL_ (some 13) rfl rfl Tryz.func68 (by kernel_rfl) rfl #[.string (rdOf ByteArray.empty l0 x7_1)] rfl (by (try simp only [List.map_toArray, List.map_cons, List.map_nil]); first | done | rfl | (simp only [List.length_drop, List.length_take]; rfl)) ?_; (with_reducible refine (impl_NameRight.calls (rdOf ByteArray.empty l0 x7_1) true _ A5.out).mono ?_); rintro e w14 ⟨rfl, hb⟩; refine ⟨_, rfl, ?_⟩; have n0_ := Aside0.mk (below_step (by repeat (first | (with_reducible first | exact HB.out | apply below_alloc | apply pw_below_drewN | apply below_drew1) | exact HB.out)) hb); clear HB; have HB := n0_; clear n0_; (try clear hb); (try clear hb2); (try clear hk); (try clear hi)))
                go_roundg k1
                case measure => have := HK1.out; omega
                case rel => exact ⟨(wrap64 (x7_1 + 1)), (by first | rfl | (simp; done) | (simp [*]; done)), H', ⟨by have := HK1.out; omega⟩, ⟨by repeat (first | (with_reducible first | exact HB.out | apply below_alloc | apply pw_below_drewN | apply below_drew1) | exact HB.out)⟩⟩
            · replace c6 := Bool.eq_false_iff.mpr c6
              subst c6
              have H1 : (some false) = some r := by rw [if_neg (show ¬ (false = true) by decide)] at H; exact H
              clear H
              have H := H1
              clear H1
              obtain rfl := Option.some.inj H
              have p211 : 0 ≤ (x7_1 : Int) := of_decide_eq_true (by first | (with_reducible assumption) | assumption)
              have q211 : x7_1 < (l0.length : Int) := of_decide_eq_true (by first | (with_reducible assumption) | assumption)
              obtain ⟨ad211, e211, hx211_0⟩ := Kd.at_string HR0.out x7_1 p211 q211
              cases e211
              replace hx211_0 := (HB.out.cell (World.block_lt_of_cell? w _ hx211_0)).trans hx211_0
              replace p211 := eq_true p211
              replace q211 := eq_true q211
              go_wp2_with (first | ((with_reducible refine gate_callee (f := 68) rfl ?_); refine goesL_ (some 13) rfl rfl Tryz.func68 (by kernel_rfl) rfl #[.string (rdOf ByteArray.empty l0 x7_1)] rfl (by (try simp only [List.map_toArray, List.map_cons, List.map_nil]); first | done | rfl | (simp only [List.length_drop, List.length_take]; rfl)) ?_; (with_reducible refine (impl_NameRight.calls (rdOf ByteArray.empty l0 x7_1) false _ A5.out).mono ?_); rintro e w15 ⟨rfl, hb⟩; refine ⟨_, rfl, ?_⟩; have n0_ := Aside0.mk (below_step (by repeat (first | (with_reducible first | exact HB.out | apply below_alloc | apply pw_below_drewN | apply below_drew1) | exact HB.out)) hb); clear HB; have HB := n0_; clear n0_; (try clear hb); (try clear hb2); (try clear hk); (try clear hi)))
              go_ret
              exact ⟨by first | rfl | (simp only [bne_nil_, beq_nil_]; rfl) | (simp [errW_none, errW_some] <;> rfl) | (simp [*, errW_none, errW_some] <;> rfl), by repeat (first | (with_reducible first | exact HB.out | apply below_alloc | apply pw_below_drewN | apply below_drew1) | exact HB.out)⟩
          · rw [if_neg c4] at H
            exact absurd H (by simp)
        · rw [if_neg c3] at H
          exact absurd H (by simp)
      · rw [if_neg c2] at H
        have c2b0 : decide (x7_1 < (l0.length : Int)) = false := decide_eq_false c2
        clear c2
        obtain rfl := Option.some.inj H
        go_wp2
        go_ret
        exact ⟨by first | rfl | (simp only [bne_nil_, beq_nil_]; rfl) | (simp [errW_none, errW_some] <;> rfl) | (simp [*, errW_none, errW_some] <;> rfl), by repeat (first | (with_reducible first | exact HB.out | apply below_alloc | apply pw_below_drewN | apply below_drew1) | exact HB.out)⟩

end Go.Proofs.YtdlbcamnimdfjaaGreatDoor.PFnExactTreeNew
