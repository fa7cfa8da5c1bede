-- Laid by this session's own program out of the translation; Lean checks it.
import Derived.Test.YticbafilcicdjaaPFnExactBerGetx0
import Derived.Test.YticbafilcicdjaaPFnExactBerGetx3
namespace Go.Proofs.Yticbafilcicdjaa.PFnExactBerGet
open Go.RowKit Go.Proofs.YticbafilcicdjaaW.PrintWords Go.Proofs.YticbafilcicdjaaW.PrintLast Go.Proofs.YticbafilcicdjaaW.PrintMore
attribute [local go_sem] max2_int min2_int max_two min_two max_three min_three max_four min_four   -- for this text's walks alone
set_option linter.unusedVariables false
set_option linter.unusedSimpArgs false

/-! ### impl_berGet: function 50 -/
mutual
def impl_berGet.j0 : Nat → ByteArray → Int → Option (Int × ByteArray × Int × Int)
  | 0, _, _ => none
  | k + 1, x0, x1 => if 0 ≤ x1 then (if x1 ≤ (x0.size : Int) then (if (x0.extract (x1 : Int).toNat x0.size).toList = ([] : List UInt8) then (some (0, (⟨#[]⟩ : ByteArray), 0, 4)) else (if 0 < ((x0.extract (x1 : Int).toNat x0.size).size : Int) then ((impl_isTag.f (wrap64 (bt (x0.extract (x1 : Int).toNat x0.size) 0))).bind fun t123 => (if t123 = true then (if ((x0.extract (x1 : Int).toNat x0.size).size : Int) < 2 then (some (0, (⟨#[]⟩ : ByteArray), 0, 4)) else (if 1 < ((x0.extract (x1 : Int).toNat x0.size).size : Int) then (if (wrap64 (bt (x0.extract (x1 : Int).toNat x0.size) 1)) ≥ 128 then (if (wrap64 (bt (x0.extract (x1 : Int).toNat x0.size) 1)) = 129 then (impl_berGet.j1 k x1 (x0.extract (x1 : Int).toNat x0.size) (wrap64 (bt (x0.extract (x1 : Int).toNat x0.size) 1)) false) else (impl_berGet.j1 k x1 (x0.extract (x1 : Int).toNat x0.size) (wrap64 (bt (x0.extract (x1 : Int).toNat x0.size) 1)) ((wrap64 (bt (x0.extract (x1 : Int).toNat x0.size) 1)) != 130))) else (impl_berGet.j3 k x1 (x0.extract (x1 : Int).toNat x0.size) 2 (wrap64 (bt (x0.extract (x1 : Int).toNat x0.size) 1)))) else (none))) else (some (0, (⟨#[]⟩ : ByteArray), 0, 3)))) else (none))) else (none)) else (none)
def impl_berGet.j3 : Nat → Int → ByteArray → Int → Int → Option (Int × ByteArray × Int × Int)
  | 0, _, _, _, _ => none
  | k + 1, x1, x5, x6, x7 => if x7 > 4000 then (impl_berGet.j4 k x1 x5 x6 x7 true) else ((impl_berLength.f x7).bind fun t124 => (if 1 ≤ x6 then (if x6 ≤ (x5.size : Int) then (impl_berGet.j4 k x1 x5 x6 x7 (t124.toList != (x5.extract 1 (x6 : Int).toNat).toList)) else (none)) else (none)))
def impl_berGet.j4 : Nat → Int → ByteArray → Int → Int → Bool → Option (Int × ByteArray × Int × Int)
  | 0, _, _, _, _, _ => none
  | k + 1, x1, x5, x6, x7, x63 => if x63 = true then (some (0, (⟨#[]⟩ : ByteArray), 0, 3)) else (if (x5.size : Int) < (wrap64 (x6 + x7)) then (some (0, (⟨#[]⟩ : ByteArray), 0, 4)) else (if 0 < (x5.size : Int) then (if 0 ≤ x6 then (if x6 ≤ (wrap64 (x6 + x7)) then (if (wrap64 (x6 + x7)) ≤ (x5.size : Int) then (some (wrap64 (bt x5 0), x5.extract (x6 : Int).toNat ((wrap64 (x6 + x7)) : Int).toNat, wrap64 (x1 + (wrap64 (x6 + x7))), 0)) else (none)) else (none)) else (none)) else (none)))
def impl_berGet.j1 : Nat → Int → ByteArray → Int → Bool → Option (Int × ByteArray × Int × Int)
  | 0, _, _, _, _ => none
  | k + 1, x1, x5, x7, x41 => if x41 = true then (some (0, (⟨#[]⟩ : ByteArray), 0, 3)) else (if (x5.size : Int) < (wrap64 ((wrap64 (2 + x7)) - 128)) then (some (0, (⟨#[]⟩ : ByteArray), 0, 4)) else (impl_berGet.l0 k x1 x5 (wrap64 ((wrap64 (2 + x7)) - 128)) 0 2))
def impl_berGet.l0 : Nat → Int → ByteArray → Int → Int → Int → Option (Int × ByteArray × Int × Int)
  | 0, _, _, _, _, _ => none
  | k + 1, x1, x5, x6, x7, x8 => if x8 < x6 then (if 0 ≤ x8 then (if x8 < (x5.size : Int) then (impl_berGet.l0 k x1 x5 x6 (Go.bits .or .i64 (wrap64 (x7 * 256)) (wrap64 (bt x5 x8))) (wrap64 (x8 + 1))) else (none)) else (none)) else (impl_berGet.j3 k x1 x5 x6 x7)
end
def impl_berGet.f (k : Nat) (a0 : ByteArray) (a1 : Int) : Option (Int × ByteArray × Int × Int) := if a1 > (a0.size : Int) then (impl_berGet.j0 k a0 (a0.size : Int)) else (impl_berGet.j0 k a0 a1)
theorem impl_berGet.mono_l : ∀ k, (∀ y0 y1, LeO (impl_berGet.j0 k y0 y1) (impl_berGet.j0 (k + 1) y0 y1)) ∧ (∀ y0 y1 y2 y3, LeO (impl_berGet.j3 k y0 y1 y2 y3) (impl_berGet.j3 (k + 1) y0 y1 y2 y3)) ∧ (∀ y0 y1 y2 y3 y4, LeO (impl_berGet.j4 k y0 y1 y2 y3 y4) (impl_berGet.j4 (k + 1) y0 y1 y2 y3 y4)) ∧ (∀ y0 y1 y2 y3, LeO (impl_berGet.j1 k y0 y1 y2 y3) (impl_berGet.j1 (k + 1) y0 y1 y2 y3)) ∧ (∀ y0 y1 y2 y3 y4, LeO (impl_berGet.l0 k y0 y1 y2 y3 y4) (impl_berGet.l0 (k + 1) y0 y1 y2 y3 y4))
  | 0 => ⟨fun _ _ r h => by simp [impl_berGet.j0] at h, fun _ _ _ _ r h => by simp [impl_berGet.j3] at h, fun _ _ _ _ _ r h => by simp [impl_berGet.j4] at h, fun _ _ _ _ r h => by simp [impl_berGet.j1] at h, fun _ _ _ _ _ r h => by simp [impl_berGet.l0] at h⟩
  | k + 1 => by
    obtain ⟨ih0, ih1, ih2, ih3, ih4⟩ := impl_berGet.mono_l k
    refine ⟨?_, ?_, ?_, ?_, ?_⟩
    · intro y0 y1
      unfold impl_berGet.j0
      repeat' first
      | (with_reducible exact ih0 _ _)
      | (with_reducible exact ih1 _ _ _ _)
      | (with_reducible exact ih2 _ _ _ _ _)
      | (with_reducible exact ih3 _ _ _ _)
      | (with_reducible exact ih4 _ _ _ _ _)
      | (with_reducible exact LeO.refl _)
      | (with_reducible exact LeO.none _)
      | (with_reducible refine LeO.ite ?_ ?_)
      | (with_reducible refine LeO.bind ?_ (fun _ => ?_))
      | exact ih0 _ _
      | exact ih1 _ _ _ _
      | exact ih2 _ _ _ _ _
      | exact ih3 _ _ _ _
      | exact ih4 _ _ _ _ _
      | exact LeO.none _
      | refine LeO.ite ?_ ?_
      | refine LeO.bind ?_ (fun _ => ?_)
    · intro y0 y1 y2 y3
      unfold impl_berGet.j3
      repeat' first
      | (with_reducible exact ih0 _ _)
      | (with_reducible exact ih1 _ _ _ _)
      | (with_reducible exact ih2 _ _ _ _ _)
      | (with_reducible exact ih3 _ _ _ _)
      | (with_reducible exact ih4 _ _ _ _ _)
      | (with_reducible exact LeO.refl _)
      | (with_reducible exact LeO.none _)
      | (with_reducible refine LeO.ite ?_ ?_)
      | (with_reducible refine LeO.bind ?_ (fun _ => ?_))
      | exact ih0 _ _
      | exact ih1 _ _ _ _
      | exact ih2 _ _ _ _ _
      | exact ih3 _ _ _ _
      | exact ih4 _ _ _ _ _
      | exact LeO.none _
      | refine LeO.ite ?_ ?_
      | refine LeO.bind ?_ (fun _ => ?_)
    · intro y0 y1 y2 y3 y4
      unfold impl_berGet.j4
      repeat' first
      | (with_reducible exact ih0 _ _)
      | (with_reducible exact ih1 _ _ _ _)
      | (with_reducible exact ih2 _ _ _ _ _)
      | (with_reducible exact ih3 _ _ _ _)
      | (with_reducible exact ih4 _ _ _ _ _)
      | (with_reducible exact LeO.refl _)
      | (with_reducible exact LeO.none _)
      | (with_reducible refine LeO.ite ?_ ?_)
      | (with_reducible refine LeO.bind ?_ (fun _ => ?_))
      | exact ih0 _ _
      | exact ih1 _ _ _ _
      | exact ih2 _ _ _ _ _
      | exact ih3 _ _ _ _
      | exact ih4 _ _ _ _ _
      | exact LeO.none _
      | refine LeO.ite ?_ ?_
      | refine LeO.bind ?_ (fun _ => ?_)
    · intro y0 y1 y2 y3
      unfold impl_berGet.j1
      repeat' first
      | (with_reducible exact ih0 _ _)
      | (with_reducible exact ih1 _ _ _ _)
      | (with_reducible exact ih2 _ _ _ _ _)
      | (with_reducible exact ih3 _ _ _ _)
      | (with_reducible exact ih4 _ _ _ _ _)
      | (with_reducible exact LeO.refl _)
      | (with_reducible exact LeO.none _)
      | (with_reducible refine LeO.ite ?_ ?_)
      | (with_reducible refine LeO.bind ?_ (fun _ => ?_))
      | exact ih0 _ _
      | exact ih1 _ _ _ _
      | exact ih2 _ _ _ _ _
      | exact ih3 _ _ _ _
      | exact ih4 _ _ _ _ _
      | exact LeO.none _
      | refine LeO.ite ?_ ?_
      | refine LeO.bind ?_ (fun _ => ?_)
    · intro y0 y1 y2 y3 y4
      unfold impl_berGet.l0
      repeat' first
      | (with_reducible exact ih0 _ _)
      | (with_reducible exact ih1 _ _ _ _)
      | (with_reducible exact ih2 _ _ _ _ _)
      | (with_reducible exact ih3 _ _ _ _)
      | (with_reducible exact ih4 _ _ _ _ _)
      | (with_reducible exact LeO.refl _)
      | (with_reducible exact LeO.none _)
      | (with_reducible refine LeO.ite ?_ ?_)
      | (with_reducible refine LeO.bind ?_ (fun _ => ?_))
      | exact ih0 _ _
      | exact ih1 _ _ _ _
      | exact ih2 _ _ _ _ _
      | exact ih3 _ _ _ _
      | exact ih4 _ _ _ _ _
      | exact LeO.none _
      | refine LeO.ite ?_ ?_
      | refine LeO.bind ?_ (fun _ => ?_)
theorem impl_berGet.mono : ∀ a0 a1 k, LeO (impl_berGet.f k a0 a1) (impl_berGet.f (k + 1) a0 a1) := by
  intro a0 a1 k
  obtain ⟨ih0, ih1, ih2, ih3, ih4⟩ := impl_berGet.mono_l k
  unfold impl_berGet.f
  repeat' first
      | (with_reducible exact ih0 _ _)
      | (with_reducible exact ih1 _ _ _ _)
      | (with_reducible exact ih2 _ _ _ _ _)
      | (with_reducible exact ih3 _ _ _ _)
      | (with_reducible exact ih4 _ _ _ _ _)
      | (with_reducible exact LeO.refl _)
      | (with_reducible exact LeO.none _)
      | (with_reducible refine LeO.ite ?_ ?_)
      | (with_reducible refine LeO.bind ?_ (fun _ => ?_))
      | exact ih0 _ _
      | exact ih1 _ _ _ _
      | exact ih2 _ _ _ _ _
      | exact ih3 _ _ _ _
      | exact ih4 _ _ _ _ _
      | exact LeO.none _
      | refine LeO.ite ?_ ?_
      | refine LeO.bind ?_ (fun _ => ?_)
def impl_berGet.T21 : Bool × List (List Nat × List Nat) := (true, [([], []), ([0], [0]), ([1], [1]), ([2], [2]), ([3, 2, 2], [2, 3]), ([2], [2]), ([2], [2]), ([5, 6, 2], [2, 5, 6]), ([4, 7, 2], [2, 4, 7]), ([2, 8], [2, 8]), ([9, 4], [9])])
def impl_berGet.B21 : List Nat := [0, 1, 3, 7, 15, 7, 7, 103, 255, 511, 1023]
theorem impl_berGet.tab21 : rtab .any (opsOf Try.f50 21) = impl_berGet.T21 := by kernel_rfl
theorem impl_berGet.bits21 : waitsOk impl_berGet.T21.2 impl_berGet.B21 = true := by kernel_rfl
def impl_berGet.T25 : Bool × List (List Nat × List Nat) := (true, [([], []), ([0], [0]), ([1], [1]), ([], []), ([], []), ([], []), ([], []), ([5, 6], [5, 6]), ([3, 4, 7], [3, 4, 7]), ([2, 8], [2, 8]), ([], []), ([], []), ([], []), ([11, 12], [11, 12]), ([10, 13], [10, 13]), ([9, 14], [9, 14]), ([15, 0, 1, 2, 3, 4, 5, 6, 7, 8, 9, 10, 11, 12, 13, 14, 15], [15])])
def impl_berGet.B25 : List Nat := [0, 1, 3, 0, 0, 0, 0, 96, 248, 511, 0, 0, 0, 6144, 15360, 32767, 65535]
theorem impl_berGet.tab25 : rtab .any (opsOf Try.f50 25) = impl_berGet.T25 := by kernel_rfl
theorem impl_berGet.bits25 : waitsOk impl_berGet.T25.2 impl_berGet.B25 = true := by kernel_rfl
set_option maxHeartbeats 8000000 in
set_option maxRecDepth 100000 in
theorem impl_berGet.calls (k : Nat) (a0 : ByteArray) (a1 : Int) (r1 : Int) (r2 : ByteArray) (r3 : Int) (r4 : Int) (w : World) (h : impl_berGet.f k a0 a1 = some (r1, r2, r3, r4)) :
    Calls Try.prog 50 #[.string a0, .int .i64 a1] w fun e w' => e = .returned (.agg #[.int .i64 r1, .string r2, .int .i64 r3, .int .i64 r4]) ∧ Below w.heap.size w w' := by
  have hu39 := Try.underlying39
  have hu37 := Try.underlying37
  have HB := Aside0.mk (Below.refl w.heap.size w)
  have H : (if a1 > (a0.size : Int) then (impl_berGet.j0 k a0 (a0.size : Int)) else (impl_berGet.j0 k a0 a1)) = some (r1, r2, r3, r4) := h
  clear h
  have HC3 := Aside0.mk H
  clear H
  go_enter Try.func50, Try.ntmps50
  go_upto_if 12 with (first | ((with_reducible refine gate_dst (N := 4) rfl ?_); refine box_event ?hg (N := 4) ?hd (cs := #[.int .i64 0, .string (⟨#[]⟩ : ByteArray), .int .i64 0, .int .i64 0]) (t := 39) ?hr ?_; (case hd => rfl); (case hg => rfl); (case hr => first | (go_simp; done) | (go_simp; rfl)); intro gb122 hg w4 hbox hb; have n0_ := Aside0.mk (below_step (by repeat (first | (with_reducible first | exact HB.out | apply below_alloc | apply pw_below_drewN | apply below_drew1) | exact HB.out)) hb); have n1_ := Aside0.mk (hbox); have n2_ := Aside0.mk ((by rw [hg]; exact (below_size (by repeat (first | (with_reducible first | exact HB.out | apply below_alloc | apply pw_below_drewN | apply below_drew1) | exact HB.out))) : w.heap.size ≤ gb122)); have n3_ := Aside0.mk ((by rw [hg]; exact (below_size (by repeat (first | (with_reducible first | exact HB.out | apply below_alloc | apply pw_below_drewN | apply below_drew1) | exact HB.out))) : w.heap.size ≤ gb122)); clear HB; have HB := n0_; have BK122 := n1_; have GW122 := n2_; have GE122 := n3_; clear n0_ n1_ n2_ n3_; clear hb hbox hg))
  (try simp only [Act.put, List.setIfInBounds_toArray, List.set_cons_zero, List.set_cons_succ])
  go_cut [1] (fun v1 wc => ∃ (kq : Nat) (x1_2 : Int), v1 = .int .i64 x1_2 ∧ Aside0 (impl_berGet.j0 kq a0 x1_2 = some (r1, r2, r3, r4)) ∧ Aside0 (kq ≤ k) ∧ Aside0 (wc.heap[gb122]? = some (.cells #[.int .i64 0, .string (⟨#[]⟩ : ByteArray), .int .i64 0, .int .i64 0] 39 (0, 0))) ∧ Aside0 (Below w.heap.size w wc))
  case first =>
    have H := HC3.out
    clear HC3
    by_cases c5 : a1 > (a0.size : Int)
    · rw [if_pos c5] at H
      have c5b0 : decide ((a0.size : Int) < a1) = true := decide_eq_true c5
      clear c5
      (first | rw [c5b0] | (simp only [i64_w, i32_w]; rw [c5b0]) | skip)
      have H' := Aside0.mk H
      clear H
      go_wp2
      go_meet
      case rel => exact ⟨_, ((a0.size : Int)), (by first | rfl | (simp; done) | (simp [*]; done)), H', ⟨by first | omega | exact Nat.le_refl _⟩, ⟨by (with_reducible repeat (first | refine blk_drewN ?_ _ | refine blk_drew ?_ | refine blk_alloc ?_ _)); exact BK122.out⟩, ⟨by repeat (first | (with_reducible first | exact HB.out | apply below_alloc | apply pw_below_drewN | apply below_drew1 | refine below_set ?_ GE122.out) | exact HB.out)⟩⟩
    · rw [if_neg c5] at H
      have c5b0 : decide ((a0.size : Int) < a1) = false := decide_eq_false c5
      clear c5
      (first | rw [c5b0] | (simp only [i64_w, i32_w]; rw [c5b0]) | skip)
      have H' := Aside0.mk H
      clear H
      go_wp2
      go_meet
      case rel => exact ⟨_, (a1), (by first | rfl | (simp; done) | (simp [*]; done)), H', ⟨by first | omega | exact Nat.le_refl _⟩, ⟨by (with_reducible repeat (first | refine blk_drewN ?_ _ | refine blk_drew ?_ | refine blk_alloc ?_ _)); exact BK122.out⟩, ⟨by repeat (first | (with_reducible first | exact HB.out | apply below_alloc | apply pw_below_drewN | apply below_drew1 | refine below_set ?_ GE122.out) | exact HB.out)⟩⟩
  case rest =>
    clear HC3
    try clear p2
    try clear c5
    try clear c5b0
    obtain ⟨kq, x1_2, rfl, HA, HJ2, BK122, HB⟩ := hcut
    cases kq with
    | zero => exact absurd HA.out (by simp [impl_berGet.j0])
    | succ kj2 =>
      have H := HA.out
      clear HA
      simp only [impl_berGet.j0] at H
      by_cases c6 : 0 ≤ x1_2
      · rw [if_pos c6] at H
        have c6b0 := eq_true c6
        have c6b1 : decide (0 ≤ x1_2) = true := decide_eq_true c6
        clear c6
        by_cases c7 : x1_2 ≤ (a0.size : Int)
        · rw [if_pos c7] at H
          have c7b0 := eq_true c7
          have c7b1 : decide (x1_2 ≤ (a0.size : Int)) = true := decide_eq_true c7
          clear c7
          by_cases c8 : (a0.extract (x1_2 : Int).toNat a0.size).toList = ([] : List UInt8)
          · rw [if_pos c8] at H
            have c8b0 : ((a0.extract (x1_2 : Int).toNat a0.size).toList == ([] : List UInt8)) = true := beq_iff_eq.mpr c8
            (try (have c8m0 := c8b0; simp only [ByteArray.size_extract, ByteArray.size_append, Nat.min_self] at c8m0))
            have c8b1 : ((a0.extract (x1_2 : Int).toNat a0.size).toList != ([] : List UInt8)) = false := bne_eq_false_iff_eq.mpr c8
            (try (have c8m1 := c8b1; simp only [ByteArray.size_extract, ByteArray.size_append, Nat.min_self] at c8m1))
            clear c8
            simp only [Option.some.injEq, Prod.mk.injEq] at H
            obtain ⟨rfl, rfl, rfl, rfl⟩ := H
            have hcz9_0 : wc.cell? ⟨gb122, 0, none⟩ = some (.int .i64 0) := (blk_cell BK122.out 0).trans rfl
            have hcz9_1 : wc.cell? ⟨gb122, 1, none⟩ = some (.string (⟨#[]⟩ : ByteArray)) := (blk_cell BK122.out 1).trans rfl
            have hcz9_2 : wc.cell? ⟨gb122, 2, none⟩ = some (.int .i64 0) := (blk_cell BK122.out 2).trans rfl
            have hcz9_3 : wc.cell? ⟨gb122, 3, none⟩ = some (.int .i64 0) := (blk_cell BK122.out 3).trans rfl
            have hfz9_0 := blk_frozen BK122.out 0
            have hfz9_1 := blk_frozen BK122.out 1
            have hfz9_2 := blk_frozen BK122.out 2
            have hfz9_3 := blk_frozen BK122.out 3
            go_wp2
            refine bodyPost_ret (results_cell_row rfl _ _ gb122 39 #[.int .i64 0, .string (⟨#[]⟩ : ByteArray), .int .i64 0, .int .i64 4] (0, 0) _ rfl (by (with_reducible repeat (first | refine blk_drewN ?_ _ | refine blk_drew ?_ | refine blk_alloc ?_ _)); refine blk_put (cs := #[.int .i64 0, .string (⟨#[]⟩ : ByteArray), .int .i64 0, .int .i64 0]) ?_ 3 _ rfl; (with_reducible repeat (first | refine blk_drewN ?_ _ | refine blk_drew ?_ | refine blk_alloc ?_ _)); refine blk_put (cs := #[.int .i64 0, .string (⟨#[]⟩ : ByteArray), .int .i64 0, .int .i64 0]) ?_ 2 _ rfl; (with_reducible repeat (first | refine blk_drewN ?_ _ | refine blk_drew ?_ | refine blk_alloc ?_ _)); refine blk_put (cs := #[.int .i64 0, .string (⟨#[]⟩ : ByteArray), .int .i64 0, .int .i64 0]) ?_ 1 _ rfl; (with_reducible repeat (first | refine blk_drewN ?_ _ | refine blk_drew ?_ | refine blk_alloc ?_ _)); refine blk_put (cs := #[.int .i64 0, .string (⟨#[]⟩ : ByteArray), .int .i64 0, .int .i64 0]) ?_ 0 _ rfl; (with_reducible repeat (first | refine blk_drewN ?_ _ | refine blk_drew ?_ | refine blk_alloc ?_ _)); exact BK122.out) Try.underlying39 rfl (by kernel_rfl)) rfl ?_
            exact ⟨by first | rfl | (simp [errW_none, errW_some] <;> rfl) | (simp [*, errW_none, errW_some] <;> rfl), by repeat (first | (with_reducible first | exact HB.out | apply below_alloc | apply pw_below_drewN | apply below_drew1 | refine below_set ?_ GE122.out) | exact HB.out)⟩
          · rw [if_neg c8] at H
            have c8b0 : ((a0.extract (x1_2 : Int).toNat a0.size).toList == ([] : List UInt8)) = false := beq_eq_false_iff_ne.mpr c8
            (try (have c8m0 := c8b0; simp only [ByteArray.size_extract, ByteArray.size_append, Nat.min_self] at c8m0))
            have c8b1 : ((a0.extract (x1_2 : Int).toNat a0.size).toList != ([] : List UInt8)) = true := bne_iff_ne.mpr c8
            (try (have c8m1 := c8b1; simp only [ByteArray.size_extract, ByteArray.size_append, Nat.min_self] at c8m1))
            by_cases c10 : 0 < ((a0.extract (x1_2 : Int).toNat a0.size).size : Int)
            · rw [if_pos c10] at H
              have c10b0 : decide (0 < ((a0.extract (x1_2 : Int).toNat a0.size).size : Int)) = true := decide_eq_true c10
              (try (have c10m0 := c10b0; simp only [ByteArray.size_extract, ByteArray.size_append, Nat.min_self] at c10m0))
              have c10b1 : decide (0 < (a0.extract (x1_2 : Int).toNat a0.size).size) = true := decide_eq_true (by omega)
              (try (have c10m1 := c10b1; simp only [ByteArray.size_extract, ByteArray.size_append, Nat.min_self] at c10m1))
              clear c10
              replace H := Option.bind_eq_some_iff.mp H
              obtain ⟨t123, A120, H⟩ := H
              replace H : (if t123 = true then (if ((a0.extract (x1_2 : Int).toNat a0.size).size : Int) < 2 then (some (0, (⟨#[]⟩ : ByteArray), 0, 4)) else (if 1 < ((a0.extract (x1_2 : Int).toNat a0.size).size : Int) then (if (wrap64 (bt (a0.extract (x1_2 : Int).toNat a0.size) 1)) ≥ 128 then (if (wrap64 (bt (a0.extract (x1_2 : Int).toNat a0.size) 1)) = 129 then (impl_berGet.j1 kj2 x1_2 (a0.extract (x1_2 : Int).toNat a0.size) (wrap64 (bt (a0.extract (x1_2 : Int).toNat a0.size) 1)) false) else (impl_berGet.j1 kj2 x1_2 (a0.extract (x1_2 : Int).toNat a0.size) (wrap64 (bt (a0.extract (x1_2 : Int).toNat a0.size) 1)) ((wrap64 (bt (a0.extract (x1_2 : Int).toNat a0.size) 1)) != 130))) else (impl_berGet.j3 kj2 x1_2 (a0.extract (x1_2 : Int).toNat a0.size) 2 (wrap64 (bt (a0.extract (x1_2 : Int).toNat a0.size) 1)))) else (none))) else (some (0, (⟨#[]⟩ : ByteArray), 0, 3))) = some (r1, r2, r3, r4) := H
              have A12 := Aside0.mk A120
              clear A120
              by_cases c13 : t123 = true
              · subst c13
                have H1 : (if ((a0.extract (x1_2 : Int).toNat a0.size).size : Int) < 2 then (some (0, (⟨#[]⟩ : ByteArray), 0, 4)) else (if 1 < ((a0.extract (x1_2 : Int).toNat a0.size).size : Int) then (if (wrap64 (bt (a0.extract (x1_2 : Int).toNat a0.size) 1)) ≥ 128 then (if (wrap64 (bt (a0.extract (x1_2 : Int).toNat a0.size) 1)) = 129 then (impl_berGet.j1 kj2 x1_2 (a0.extract (x1_2 : Int).toNat a0.size) (wrap64 (bt (a0.extract (x1_2 : Int).toNat a0.size) 1)) false) else (impl_berGet.j1 kj2 x1_2 (a0.extract (x1_2 : Int).toNat a0.size) (wrap64 (bt (a0.extract (x1_2 : Int).toNat a0.size) 1)) ((wrap64 (bt (a0.extract (x1_2 : Int).toNat a0.size) 1)) != 130))) else (impl_berGet.j3 kj2 x1_2 (a0.extract (x1_2 : Int).toNat a0.size) 2 (wrap64 (bt (a0.extract (x1_2 : Int).toNat a0.size) 1)))) else (none))) = some (r1, r2, r3, r4) := by rw [if_pos rfl] at H; exact H
                clear H
                have H := H1
                clear H1
                by_cases c14 : ((a0.extract (x1_2 : Int).toNat a0.size).size : Int) < 2
                · rw [if_pos c14] at H
                  have c14b0 : decide (((a0.extract (x1_2 : Int).toNat a0.size).size : Int) < 2) = true := decide_eq_true c14
                  (try (have c14m0 := c14b0; simp only [ByteArray.size_extract, ByteArray.size_append, Nat.min_self] at c14m0))
                  have c14b1 : decide ((a0.extract (x1_2 : Int).toNat a0.size).size < 2) = true := decide_eq_true (by omega)
                  (try (have c14m1 := c14b1; simp only [ByteArray.size_extract, ByteArray.size_append, Nat.min_self] at c14m1))
                  clear c14
                  simp only [Option.some.injEq, Prod.mk.injEq] at H
                  obtain ⟨rfl, rfl, rfl, rfl⟩ := H
                  have p11 : 0 ≤ (0 : Int) := (by omega)
                  have q11 : 0 < (a0.extract (x1_2 : Int).toNat a0.size).size := (by have : (0 : Int) < ((a0.extract (x1_2 : Int).toNat a0.size).size : Int) := of_decide_eq_true (by first | (with_reducible assumption) | assumption); omega)
                  have hx11 : ∀ h : 0 < (a0.extract (x1_2 : Int).toNat a0.size).size, (((a0.extract (x1_2 : Int).toNat a0.size)[0]'h).toNat : Int) = bt (a0.extract (x1_2 : Int).toNat a0.size) 0 := bt_at (a0.extract (x1_2 : Int).toNat a0.size) 0
                  clear p11
                  have qi11 : (0 < ((a0.extract (x1_2 : Int).toNat a0.size).size : Int)) = True := eq_true (of_decide_eq_true (by first | (with_reducible assumption) | assumption))
                  (try (have qm11 := q11; simp only [ByteArray.size_extract, ByteArray.size_append, Nat.min_self] at qm11; replace qm11 := eq_true qm11))
                  (try (have qn11 := qi11; simp only [ByteArray.size_extract, ByteArray.size_append, Nat.min_self] at qn11))
                  replace q11 := eq_true q11
                  go_wp2_with (first | ((with_reducible refine gate_callee (f := 67) rfl ?_); refine goesL_ (some 24) rfl rfl Try.func67 (by kernel_rfl) rfl #[.int .i64 (wrap64 (bt (a0.extract (x1_2 : Int).toNat a0.size) 0))] rfl (by (try simp only [List.map_toArray, List.map_cons, List.map_nil]); first | done | rfl | (simp only [List.length_drop, List.length_take]; rfl)) ?_; (with_reducible refine (impl_isTag.calls (wrap64 (bt (a0.extract (x1_2 : Int).toNat a0.size) 0)) true _ A12.out).mono ?_); rintro e w' ⟨rfl, ⟨nd, rfl⟩⟩; refine ⟨_, rfl, ?_⟩; (try (rw [drewN_self wc]; generalize hq_ : World.drewN wc _ = wc; have n0_ : Aside0 (wc.heap[gb122]? = some (.cells #[.int .i64 0, .string (⟨#[]⟩ : ByteArray), .int .i64 0, .int .i64 0] 39 (0, 0))) := ⟨by rw [← hq_]; exact (by (with_reducible repeat (first | refine blk_drewN ?_ _ | refine blk_drew ?_ | refine blk_alloc ?_ _)); exact BK122.out)⟩; have n1_ : Aside0 (Below w.heap.size w wc) := ⟨by rw [← hq_]; exact (by repeat (first | (with_reducible first | exact HB.out | apply below_alloc | apply pw_below_drewN | apply below_drew1 | refine below_set ?_ GE122.out) | exact HB.out))⟩; clear BK122 HB hq_; have BK122 := n0_; have HB := n1_; clear n0_ n1_)); have hcz15_0 : wc.cell? ⟨gb122, 0, none⟩ = some (.int .i64 0) := (blk_cell BK122.out 0).trans rfl; have hcz15_1 : wc.cell? ⟨gb122, 1, none⟩ = some (.string (⟨#[]⟩ : ByteArray)) := (blk_cell BK122.out 1).trans rfl; have hcz15_2 : wc.cell? ⟨gb122, 2, none⟩ = some (.int .i64 0) := (blk_cell BK122.out 2).trans rfl; have hcz15_3 : wc.cell? ⟨gb122, 3, none⟩ = some (.int .i64 0) := (blk_cell BK122.out 3).trans rfl; have hfz15_0 := blk_frozen BK122.out 0; have hfz15_1 := blk_frozen BK122.out 1; have hfz15_2 := blk_frozen BK122.out 2; have hfz15_3 := blk_frozen BK122.out 3))
                  refine bodyPost_ret (results_cell_row rfl _ _ gb122 39 #[.int .i64 0, .string (⟨#[]⟩ : ByteArray), .int .i64 0, .int .i64 4] (0, 0) _ rfl (by (with_reducible repeat (first | refine blk_drewN ?_ _ | refine blk_drew ?_ | refine blk_alloc ?_ _)); refine blk_put (cs := #[.int .i64 0, .string (⟨#[]⟩ : ByteArray), .int .i64 0, .int .i64 0]) ?_ 3 _ rfl; (with_reducible repeat (first | refine blk_drewN ?_ _ | refine blk_drew ?_ | refine blk_alloc ?_ _)); refine blk_put (cs := #[.int .i64 0, .string (⟨#[]⟩ : ByteArray), .int .i64 0, .int .i64 0]) ?_ 2 _ rfl; (with_reducible repeat (first | refine blk_drewN ?_ _ | refine blk_drew ?_ | refine blk_alloc ?_ _)); refine blk_put (cs := #[.int .i64 0, .string (⟨#[]⟩ : ByteArray), .int .i64 0, .int .i64 0]) ?_ 1 _ rfl; (with_reducible repeat (first | refine blk_drewN ?_ _ | refine blk_drew ?_ | refine blk_alloc ?_ _)); refine blk_put (cs := #[.int .i64 0, .string (⟨#[]⟩ : ByteArray), .int .i64 0, .int .i64 0]) ?_ 0 _ rfl; (with_reducible repeat (first | refine blk_drewN ?_ _ | refine blk_drew ?_ | refine blk_alloc ?_ _)); exact BK122.out) Try.underlying39 rfl (by kernel_rfl)) rfl ?_
                  exact ⟨by first | rfl | (simp [errW_none, errW_some] <;> rfl) | (simp [*, errW_none, errW_some] <;> rfl), by repeat (first | (with_reducible first | exact HB.out | apply below_alloc | apply pw_below_drewN | apply below_drew1 | refine below_set ?_ GE122.out) | exact HB.out)⟩
                · rw [if_neg c14] at H
                  have c14b0 : decide (((a0.extract (x1_2 : Int).toNat a0.size).size : Int) < 2) = false := decide_eq_false c14
                  (try (have c14m0 := c14b0; simp only [ByteArray.size_extract, ByteArray.size_append, Nat.min_self] at c14m0))
                  have c14b1 : decide ((a0.extract (x1_2 : Int).toNat a0.size).size < 2) = false := decide_eq_false (by omega)
                  (try (have c14m1 := c14b1; simp only [ByteArray.size_extract, ByteArray.size_append, Nat.min_self] at c14m1))
                  clear c14
                  by_cases c16 : 1 < ((a0.extract (x1_2 : Int).toNat a0.size).size : Int)
                  · rw [if_pos c16] at H
                    have c16b0 : decide (1 < ((a0.extract (x1_2 : Int).toNat a0.size).size : Int)) = true := decide_eq_true c16
                    (try (have c16m0 := c16b0; simp only [ByteArray.size_extract, ByteArray.size_append, Nat.min_self] at c16m0))
                    have c16b1 : decide (1 < (a0.extract (x1_2 : Int).toNat a0.size).size) = true := decide_eq_true (by omega)
                    (try (have c16m1 := c16b1; simp only [ByteArray.size_extract, ByteArray.size_append, Nat.min_self] at c16m1))
                    clear c16
                    have HC18 := Aside0.mk H
                    clear H
                    have p11 : 0 ≤ (0 : Int) := (by omega)
                    have q11 : 0 < (a0.extract (x1_2 : Int).toNat a0.size).size := (by have : (0 : Int) < ((a0.extract (x1_2 : Int).toNat a0.size).size : Int) := of_decide_eq_true (by first | (with_reducible assumption) | assumption); omega)
                    have hx11 : ∀ h : 0 < (a0.extract (x1_2 : Int).toNat a0.size).size, (((a0.extract (x1_2 : Int).toNat a0.size)[0]'h).toNat : Int) = bt (a0.extract (x1_2 : Int).toNat a0.size) 0 := bt_at (a0.extract (x1_2 : Int).toNat a0.size) 0
                    clear p11
                    have qi11 : (0 < ((a0.extract (x1_2 : Int).toNat a0.size).size : Int)) = True := eq_true (of_decide_eq_true (by first | (with_reducible assumption) | assumption))
                    (try (have qm11 := q11; simp only [ByteArray.size_extract, ByteArray.size_append, Nat.min_self] at qm11; replace qm11 := eq_true qm11))
                    (try (have qn11 := qi11; simp only [ByteArray.size_extract, ByteArray.size_append, Nat.min_self] at qn11))
                    replace q11 := eq_true q11
                    try go_wp2_with (first | ((with_reducible refine gate_callee (f := 67) rfl ?_); refine goesL_ (some 24) rfl rfl Try.func67 (by kernel_rfl) rfl #[.int .i64 (wrap64 (bt (a0.extract (x1_2 : Int).toNat a0.size) 0))] rfl (by (try simp only [List.map_toArray, List.map_cons, List.map_nil]); first | done | rfl | (simp only [List.length_drop, List.length_take]; rfl)) ?_; (with_reducible refine (impl_isTag.calls (wrap64 (bt (a0.extract (x1_2 : Int).toNat a0.size) 0)) true _ A12.out).mono ?_); rintro e w' ⟨rfl, ⟨nd, rfl⟩⟩; refine ⟨_, rfl, ?_⟩))
                    (try (rw [drewN_self wc]; generalize hq_ : World.drewN wc _ = wc; have n0_ : Aside0 (wc.heap[gb122]? = some (.cells #[.int .i64 0, .string (⟨#[]⟩ : ByteArray), .int .i64 0, .int .i64 0] 39 (0, 0))) := ⟨by rw [← hq_]; exact (by (with_reducible repeat (first | refine blk_drewN ?_ _ | refine blk_drew ?_ | refine blk_alloc ?_ _)); exact BK122.out)⟩; have n1_ : Aside0 (Below w.heap.size w wc) := ⟨by rw [← hq_]; exact (by repeat (first | (with_reducible first | exact HB.out | apply below_alloc | apply pw_below_drewN | apply below_drew1 | refine below_set ?_ GE122.out) | exact HB.out))⟩; clear BK122 HB hq_; have BK122 := n0_; have HB := n1_; clear n0_ n1_))
                    have n0_ := Aside0.mk (blk_drew BK122.out)
                    have n1_ := Aside0.mk (below_drew1 HB.out)
                    clear BK122
                    clear HB
                    have BK122 := n0_
                    have HB := n1_
                    clear n0_ n1_
                    have p17 : 0 ≤ (1 : Int) := (by omega)
                    have q17 : 1 < (a0.extract (x1_2 : Int).toNat a0.size).size := (by have : (1 : Int) < ((a0.extract (x1_2 : Int).toNat a0.size).size : Int) := of_decide_eq_true (by first | (with_reducible assumption) | assumption); omega)
                    have hx17 : ∀ h : 1 < (a0.extract (x1_2 : Int).toNat a0.size).size, (((a0.extract (x1_2 : Int).toNat a0.size)[1]'h).toNat : Int) = bt (a0.extract (x1_2 : Int).toNat a0.size) 1 := bt_at (a0.extract (x1_2 : Int).toNat a0.size) 1
                    clear p17
                    have qi17 : (1 < ((a0.extract (x1_2 : Int).toNat a0.size).size : Int)) = True := eq_true (of_decide_eq_true (by first | (with_reducible assumption) | assumption))
                    (try (have qm17 := q17; simp only [ByteArray.size_extract, ByteArray.size_append, Nat.min_self] at qm17; replace qm17 := eq_true qm17))
                    (try (have qn17 := qi17; simp only [ByteArray.size_extract, ByteArray.size_append, Nat.min_self] at qn17))
                    replace q17 := eq_true q17
                    refine start_ (n := 5) (S := fun w' => True) (ds := []) #[false, false, false, false, false] (by kernel_rfl) rfl rfl trivial (fun hHeld => ?_)
                    generalize wc.drew = w19 at BK122 HB hHeld ⊢
                    refine pure_ (i := 0) (N := some 31) (v := ?_) (a' := ?_) #[true, false, false, false, false] rfl rfl (by kernel_rfl) (fun _ _ _ h => h) (Or.inl ⟨by rfl, ?_⟩) ?_ ?_
                    rotate_left
                    · intro w'
                      go_simp
                      with_reducible rfl
                    rotate_left
                    · simp only [Act.put, List.setIfInBounds_toArray, List.set_cons_zero, List.set_cons_succ, i64_w, i32_w]
                      rfl
                    refine pure_ (i := 3) (N := some 6) (v := ?_) (a' := ?_) #[true, false, false, true, false] rfl rfl (by kernel_rfl) (fun _ _ _ h => h) (Or.inl ⟨by rfl, ?_⟩) ?_ ?_
                    rotate_left
                    · intro w'
                      go_simp
                      with_reducible rfl
                    rotate_left
                    · simp only [Act.put, List.setIfInBounds_toArray, List.set_cons_zero, List.set_cons_succ, i64_w, i32_w]
                      rfl
                    refine take_ (i := 1) (N := some 32) (v := ?_) (a' := ?_) #[true, true, false, true, false] rfl rfl (by kernel_rfl) (fun _ _ _ h => h) (Or.inl ⟨by rfl, ?_⟩) hHeld ?_ ?_
                    rotate_left
                    · intro w' _
                      go_simp
                      with_reducible rfl
                    rotate_left
                    · simp only [Act.put, List.setIfInBounds_toArray, List.set_cons_zero, List.set_cons_succ, i64_w, i32_w]
                      rfl
                    refine pure_ (i := 2) (N := some 33) (v := ?_) (a' := ?_) #[true, true, true, true, false] rfl rfl (by kernel_rfl) (fun _ _ _ h => h) (Or.inl ⟨by rfl, ?_⟩) ?_ ?_
                    rotate_left
                    · intro w'
                      go_simp
                      with_reducible rfl
                    rotate_left
                    · simp only [Act.put, List.setIfInBounds_toArray, List.set_cons_zero, List.set_cons_succ, i64_w, i32_w]
                      rfl
                    refine pure_ (i := 4) (N := some 7) (v := ?_) (a' := ?_) #[true, true, true, true, true] rfl rfl (by kernel_rfl) (fun _ _ _ h => h) (Or.inl ⟨by rfl, ?_⟩) ?_ ?_
                    rotate_left
                    · intro w'
                      go_simp
                      with_reducible rfl
                    rotate_left
                    · simp only [Act.put, List.setIfInBounds_toArray, List.set_cons_zero, List.set_cons_succ, i64_w, i32_w]
                      rfl
                    refine done_ (by kernel_rfl) ?_
                    go_upto_if 35 with (fail)
                    go_cut [6, 7] (fun v6 v7 wc => ∃ (kq : Nat) (x6_17 : Int) (x7_17 : Int) (x123000_17 : Int) (x123001_17 : ByteArray) (x123002_17 : Int) (x123003_17 : Int), v6 = .int .i64 x6_17 ∧ v7 = .int .i64 x7_17 ∧ Aside0 (impl_berGet.j3 kq x1_2 (a0.extract (x1_2 : Int).toNat a0.size) x6_17 x7_17 = some (r1, r2, r3, r4)) ∧ Aside0 (kq ≤ kj2) ∧ Aside0 (wc.heap[gb122]? = some (.cells #[.int .i64 x123000_17, .string x123001_17, .int .i64 x123002_17, .int .i64 x123003_17] 39 (0, 0))) ∧ Aside0 (Below w.heap.size w wc))
                    case first =>
                      have H := HC18.out
                      clear HC18
                      by_cases c20 : (wrap64 (bt (a0.extract (x1_2 : Int).toNat a0.size) 1)) ≥ 128
                      · rw [if_pos c20] at H
                        have c20b0 : decide (128 ≤ (wrap64 (bt (a0.extract (x1_2 : Int).toNat a0.size) 1))) = true := decide_eq_true c20
                        (try (have c20m0 := c20b0; simp only [ByteArray.size_extract, ByteArray.size_append, Nat.min_self] at c20m0))
                        clear c20
                        (first | rw [c20b0] | (simp only [i64_w, i32_w]; rw [c20b0]) | skip)
                        have HC21 := Aside0.mk H
                        clear H
                        go_upto_region 12 with (fail)
                        go_cut [41] (fun v41 wc => ∃ (kq : Nat) (x41_20 : Bool), v41 = .bool x41_20 ∧ Aside0 (impl_berGet.j1 kq x1_2 (a0.extract (x1_2 : Int).toNat a0.size) (wrap64 (bt (a0.extract (x1_2 : Int).toNat a0.size) 1)) x41_20 = some (r1, r2, r3, r4)) ∧ Aside0 (kq ≤ kj2) ∧ Aside0 (wc.heap[gb122]? = some (.cells #[.int .i64 0, .string (⟨#[]⟩ : ByteArray), .int .i64 0, .int .i64 0] 39 (0, 0))) ∧ Aside0 (Below w.heap.size w wc))
                        case first =>
                          have H := HC21.out
                          clear HC21
                          by_cases c22 : (wrap64 (bt (a0.extract (x1_2 : Int).toNat a0.size) 1)) = 129
                          · rw [if_pos c22] at H
                            have c22b0 : ((wrap64 (bt (a0.extract (x1_2 : Int).toNat a0.size) 1)) == 129) = true := beq_iff_eq.mpr c22
                            (try (have c22m0 := c22b0; simp only [ByteArray.size_extract, ByteArray.size_append, Nat.min_self] at c22m0))
                            have c22b1 : ((wrap64 (bt (a0.extract (x1_2 : Int).toNat a0.size) 1)) != 129) = false := bne_eq_false_iff_eq.mpr c22
                            (try (have c22m1 := c22b1; simp only [ByteArray.size_extract, ByteArray.size_append, Nat.min_self] at c22m1))
                            clear c22
                            (first | rw [c22b0] | (simp only [i64_w, i32_w]; rw [c22b0]) | skip)
                            have H' := Aside0.mk H
                            clear H
                            go_wp2
                            go_meet
                            case rel => exact ⟨_, (false), (by first | rfl | (simp; done) | (simp [*]; done)), H', ⟨by have := HJ2.out; first | omega | exact Nat.le_refl _⟩, ⟨by (with_reducible repeat (first | refine blk_drewN ?_ _ | refine blk_drew ?_ | refine blk_alloc ?_ _)); exact BK122.out⟩, ⟨by repeat (first | (with_reducible first | exact HB.out | apply below_alloc | apply pw_below_drewN | apply below_drew1 | refine below_set ?_ GE122.out) | exact HB.out)⟩⟩
                          · rw [if_neg c22] at H
                            have c22b0 : ((wrap64 (bt (a0.extract (x1_2 : Int).toNat a0.size) 1)) == 129) = false := beq_eq_false_iff_ne.mpr c22
                            (try (have c22m0 := c22b0; simp only [ByteArray.size_extract, ByteArray.size_append, Nat.min_self] at c22m0))
                            have c22b1 : ((wrap64 (bt (a0.extract (x1_2 : Int).toNat a0.size) 1)) != 129) = true := bne_iff_ne.mpr c22
                            (try (have c22m1 := c22b1; simp only [ByteArray.size_extract, ByteArray.size_append, Nat.min_self] at c22m1))
                            (first | rw [c22b0] | (simp only [i64_w, i32_w]; rw [c22b0]) | skip)
                            have H' := Aside0.mk H
                            clear H
                            go_wp2
                            go_meet
                            case rel => exact ⟨_, (((wrap64 (bt (a0.extract (x1_2 : Int).toNat a0.size) 1)) != 130)), (by first | rfl | (simp; done) | (simp [*]; done)), H', ⟨by have := HJ2.out; first | omega | exact Nat.le_refl _⟩, ⟨by (with_reducible repeat (first | refine blk_drewN ?_ _ | refine blk_drew ?_ | refine blk_alloc ?_ _)); exact BK122.out⟩, ⟨by repeat (first | (with_reducible first | exact HB.out | apply below_alloc | apply pw_below_drewN | apply below_drew1 | refine below_set ?_ GE122.out) | exact HB.out)⟩⟩
                        case rest =>
                          clear HC21
                          try clear c1
                          try clear p1
                          try clear q1
                          try clear hx1
                          try clear qi1
                          try clear c2
                          try clear p2
                          try clear c5
                          try clear c5b0
                          try clear c6
                          try clear c6b0
                          try clear c6b1
                          try clear p6
                          try clear c7
                          try clear c7b0
                          try clear c7b1
                          try clear c8
                          try clear c8b0
                          try clear c8b1
                          try clear c10
                          try clear c10b0
                          try clear c10b1
                          try clear p11
                          try clear q11
                          try clear hx11
                          try clear qi11
                          try clear c13
                          try clear c14
                          try clear c14b0
                          try clear c14b1
                          try clear c16
                          try clear c16b0
                          try clear c16b1
                          try clear p17
                          try clear q17
                          try clear hx17
                          try clear qi17
                          try clear c20
                          try clear c20b0
                          try clear c22
                          try clear c22b0
                          try clear c22b1
                          try clear hcz15_0
                          try clear hcz15_1
                          try clear hcz15_2
                          try clear hcz15_3
                          try clear hcz9_0
                          try clear hcz9_1
                          try clear hcz9_2
                          try clear hcz9_3
                          try clear hfz15_0
                          try clear hfz15_1
                          try clear hfz15_2
                          try clear hfz15_3
                          try clear hfz9_0
                          try clear hfz9_1
                          try clear hfz9_2
                          try clear hfz9_3
                          try clear p11
                          try clear p17
                          try clear p2
                          try clear q11
                          try clear q17
                          obtain ⟨kq, x41_20, rfl, HA, HJ20, BK122, HB⟩ := hcut
                          cases kq with
                          | zero => exact absurd HA.out (by simp [impl_berGet.j1])
                          | succ kj20 =>
                            have H := HA.out
                            clear HA
                            simp only [impl_berGet.j1] at H
                            by_cases c23 : x41_20 = true
                            · subst c23
                              have H1 : (some (0, (⟨#[]⟩ : ByteArray), 0, 3)) = some (r1, r2, r3, r4) := by rw [if_pos rfl] at H; exact H
                              clear H
                              have H := H1
                              clear H1
                              simp only [Option.some.injEq, Prod.mk.injEq] at H
                              obtain ⟨rfl, rfl, rfl, rfl⟩ := H
                              have hcz24_0 : wc.cell? ⟨gb122, 0, none⟩ = some (.int .i64 0) := (blk_cell BK122.out 0).trans rfl
                              have hcz24_1 : wc.cell? ⟨gb122, 1, none⟩ = some (.string (⟨#[]⟩ : ByteArray)) := (blk_cell BK122.out 1).trans rfl
                              have hcz24_2 : wc.cell? ⟨gb122, 2, none⟩ = some (.int .i64 0) := (blk_cell BK122.out 2).trans rfl
                              have hcz24_3 : wc.cell? ⟨gb122, 3, none⟩ = some (.int .i64 0) := (blk_cell BK122.out 3).trans rfl
                              have hfz24_0 := blk_frozen BK122.out 0
                              have hfz24_1 := blk_frozen BK122.out 1
                              have hfz24_2 := blk_frozen BK122.out 2
                              have hfz24_3 := blk_frozen BK122.out 3
                              go_wp2
                              refine bodyPost_ret (results_cell_row rfl _ _ gb122 39 #[.int .i64 0, .string (⟨#[]⟩ : ByteArray), .int .i64 0, .int .i64 3] (0, 0) _ rfl (by (with_reducible repeat (first | refine blk_drewN ?_ _ | refine blk_drew ?_ | refine blk_alloc ?_ _)); refine blk_put (cs := #[.int .i64 0, .string (⟨#[]⟩ : ByteArray), .int .i64 0, .int .i64 0]) ?_ 3 _ rfl; (with_reducible repeat (first | refine blk_drewN ?_ _ | refine blk_drew ?_ | refine blk_alloc ?_ _)); refine blk_put (cs := #[.int .i64 0, .string (⟨#[]⟩ : ByteArray), .int .i64 0, .int .i64 0]) ?_ 2 _ rfl; (with_reducible repeat (first | refine blk_drewN ?_ _ | refine blk_drew ?_ | refine blk_alloc ?_ _)); refine blk_put (cs := #[.int .i64 0, .string (⟨#[]⟩ : ByteArray), .int .i64 0, .int .i64 0]) ?_ 1 _ rfl; (with_reducible repeat (first | refine blk_drewN ?_ _ | refine blk_drew ?_ | refine blk_alloc ?_ _)); refine blk_put (cs := #[.int .i64 0, .string (⟨#[]⟩ : ByteArray), .int .i64 0, .int .i64 0]) ?_ 0 _ rfl; (with_reducible repeat (first | refine blk_drewN ?_ _ | refine blk_drew ?_ | refine blk_alloc ?_ _)); exact BK122.out) Try.underlying39 rfl (by kernel_rfl)) rfl ?_
                              exact ⟨by first | rfl | (simp [errW_none, errW_some] <;> rfl) | (simp [*, errW_none, errW_some] <;> rfl), by repeat (first | (with_reducible first | exact HB.out | apply below_alloc | apply pw_below_drewN | apply below_drew1 | refine below_set ?_ GE122.out) | exact HB.out)⟩
                            · replace c23 := Bool.eq_false_iff.mpr c23
                              subst c23
                              have H1 : (if ((a0.extract (x1_2 : Int).toNat a0.size).size : Int) < (wrap64 ((wrap64 (2 + (wrap64 (bt (a0.extract (x1_2 : Int).toNat a0.size) 1)))) - 128)) then (some (0, (⟨#[]⟩ : ByteArray), 0, 4)) else (impl_berGet.l0 kj20 x1_2 (a0.extract (x1_2 : Int).toNat a0.size) (wrap64 ((wrap64 (2 + (wrap64 (bt (a0.extract (x1_2 : Int).toNat a0.size) 1)))) - 128)) 0 2)) = some (r1, r2, r3, r4) := by rw [if_neg (show ¬ (false = true) by decide)] at H; exact H
                              clear H
                              have H := H1
                              clear H1
                              by_cases c25 : ((a0.extract (x1_2 : Int).toNat a0.size).size : Int) < (wrap64 ((wrap64 (2 + (wrap64 (bt (a0.extract (x1_2 : Int).toNat a0.size) 1)))) - 128))
                              · rw [if_pos c25] at H
                                have c25b0 : decide (((a0.extract (x1_2 : Int).toNat a0.size).size : Int) < (wrap64 ((wrap64 (2 + (wrap64 (bt (a0.extract (x1_2 : Int).toNat a0.size) 1)))) - 128))) = true := decide_eq_true c25
                                (try (have c25m0 := c25b0; simp only [ByteArray.size_extract, ByteArray.size_append, Nat.min_self] at c25m0))
                                clear c25
                                simp only [Option.some.injEq, Prod.mk.injEq] at H
                                obtain ⟨rfl, rfl, rfl, rfl⟩ := H
                                have hcz26_0 : wc.cell? ⟨gb122, 0, none⟩ = some (.int .i64 0) := (blk_cell BK122.out 0).trans rfl
                                have hcz26_1 : wc.cell? ⟨gb122, 1, none⟩ = some (.string (⟨#[]⟩ : ByteArray)) := (blk_cell BK122.out 1).trans rfl
                                have hcz26_2 : wc.cell? ⟨gb122, 2, none⟩ = some (.int .i64 0) := (blk_cell BK122.out 2).trans rfl
                                have hcz26_3 : wc.cell? ⟨gb122, 3, none⟩ = some (.int .i64 0) := (blk_cell BK122.out 3).trans rfl
                                have hfz26_0 := blk_frozen BK122.out 0
                                have hfz26_1 := blk_frozen BK122.out 1
                                have hfz26_2 := blk_frozen BK122.out 2
                                have hfz26_3 := blk_frozen BK122.out 3
                                go_wp2
                                refine bodyPost_ret (results_cell_row rfl _ _ gb122 39 #[.int .i64 0, .string (⟨#[]⟩ : ByteArray), .int .i64 0, .int .i64 4] (0, 0) _ rfl (by (with_reducible repeat (first | refine blk_drewN ?_ _ | refine blk_drew ?_ | refine blk_alloc ?_ _)); refine blk_put (cs := #[.int .i64 0, .string (⟨#[]⟩ : ByteArray), .int .i64 0, .int .i64 0]) ?_ 3 _ rfl; (with_reducible repeat (first | refine blk_drewN ?_ _ | refine blk_drew ?_ | refine blk_alloc ?_ _)); refine blk_put (cs := #[.int .i64 0, .string (⟨#[]⟩ : ByteArray), .int .i64 0, .int .i64 0]) ?_ 2 _ rfl; (with_reducible repeat (first | refine blk_drewN ?_ _ | refine blk_drew ?_ | refine blk_alloc ?_ _)); refine blk_put (cs := #[.int .i64 0, .string (⟨#[]⟩ : ByteArray), .int .i64 0, .int .i64 0]) ?_ 1 _ rfl; (with_reducible repeat (first | refine blk_drewN ?_ _ | refine blk_drew ?_ | refine blk_alloc ?_ _)); refine blk_put (cs := #[.int .i64 0, .string (⟨#[]⟩ : ByteArray), .int .i64 0, .int .i64 0]) ?_ 0 _ rfl; (with_reducible repeat (first | refine blk_drewN ?_ _ | refine blk_drew ?_ | refine blk_alloc ?_ _)); exact BK122.out) Try.underlying39 rfl (by kernel_rfl)) rfl ?_
                                exact ⟨by first | rfl | (simp [errW_none, errW_some] <;> rfl) | (simp [*, errW_none, errW_some] <;> rfl), by repeat (first | (with_reducible first | exact HB.out | apply below_alloc | apply pw_below_drewN | apply below_drew1 | refine below_set ?_ GE122.out) | exact HB.out)⟩
                              · rw [if_neg c25] at H
                                have c25b0 : decide (((a0.extract (x1_2 : Int).toNat a0.size).size : Int) < (wrap64 ((wrap64 (2 + (wrap64 (bt (a0.extract (x1_2 : Int).toNat a0.size) 1)))) - 128))) = false := decide_eq_false c25
                                (try (have c25m0 := c25b0; simp only [ByteArray.size_extract, ByteArray.size_append, Nat.min_self] at c25m0))
                                clear c25
                                have H' := Aside0.mk H
                                clear H
                                go_wp2
                                go_loopg [7, 8] kj20 (fun kq v7 v8 w' => ∃ (x7_3 : Int) (x8_3 : Int), v7 = .int .i64 x7_3 ∧ v8 = .int .i64 x8_3 ∧ Aside0 (impl_berGet.l0 kq x1_2 (a0.extract (x1_2 : Int).toNat a0.size) (wrap64 ((wrap64 (2 + (wrap64 (bt (a0.extract (x1_2 : Int).toNat a0.size) 1)))) - 128)) x7_3 x8_3 = some (r1, r2, r3, r4)) ∧ Aside0 (kq ≤ kj20) ∧ Aside0 (w'.heap[gb122]? = some (.cells #[.int .i64 0, .string (⟨#[]⟩ : ByteArray), .int .i64 0, .int .i64 0] 39 (0, 0))) ∧ Aside0 (Below w.heap.size w w'))
                                case atStart => exact ⟨(0), (2), (by first | rfl | (simp; done) | (simp [*]; done)), (by first | rfl | (simp; done) | (simp [*]; done)), H', ⟨Nat.le_refl _⟩, ⟨by (with_reducible repeat (first | refine blk_drewN ?_ _ | refine blk_drew ?_ | refine blk_alloc ?_ _)); exact BK122.out⟩, ⟨by repeat (first | (with_reducible first | exact HB.out | apply below_alloc | apply pw_below_drewN | apply below_drew1 | refine below_set ?_ GE122.out) | exact HB.out)⟩⟩
                                case round =>
                                  clear H'
                                  try clear c1
                                  try clear p1
                                  try clear q1
                                  try clear hx1
                                  try clear qi1
                                  try clear c2
                                  try clear p2
                                  try clear c5
                                  try clear c5b0
                                  try clear c6
                                  try clear c6b0
                                  try clear c6b1
                                  try clear p6
                                  try clear c7
                                  try clear c7b0
                                  try clear c7b1
                                  try clear c8
                                  try clear c8b0
                                  try clear c8b1
                                  try clear c10
                                  try clear c10b0
                                  try clear c10b1
                                  try clear p11
                                  try clear q11
                                  try clear hx11
                                  try clear qi11
                                  try clear c13
                                  try clear c14
                                  try clear c14b0
                                  try clear c14b1
                                  try clear c16
                                  try clear c16b0
                                  try clear c16b1
                                  try clear p17
                                  try clear q17
                                  try clear hx17
                                  try clear qi17
                                  try clear c20
                                  try clear c20b0
                                  try clear c22
                                  try clear c22b0
                                  try clear c22b1
                                  try clear c23
                                  try clear c25
                                  try clear c25b0
                                  try clear hcz15_0
                                  try clear hcz15_1
                                  try clear hcz15_2
                                  try clear hcz15_3
                                  try clear hcz24_0
                                  try clear hcz24_1
                                  try clear hcz24_2
                                  try clear hcz24_3
                                  try clear hcz26_0
                                  try clear hcz26_1
                                  try clear hcz26_2
                                  try clear hcz26_3
                                  try clear hcz9_0
                                  try clear hcz9_1
                                  try clear hcz9_2
                                  try clear hcz9_3
                                  try clear hfz15_0
                                  try clear hfz15_1
                                  try clear hfz15_2
                                  try clear hfz15_3
                                  try clear hfz24_0
                                  try clear hfz24_1
                                  try clear hfz24_2
                                  try clear hfz24_3
                                  try clear hfz26_0
                                  try clear hfz26_1
                                  try clear hfz26_2
                                  try clear hfz26_3
                                  try clear hfz9_0
                                  try clear hfz9_1
                                  try clear hfz9_2
                                  try clear hfz9_3
                                  try clear p1
                                  try clear p11
                                  try clear p17
                                  try clear p2
                                  try clear p6
                                  try clear q1
                                  try clear q11
                                  try clear q17
                                  obtain ⟨x7_3, x8_3, rfl, rfl, HA, HK3, BK122, HB⟩ := hrel
                                  cases gk with
                                  | zero => exact absurd HA.out (by simp [impl_berGet.l0])
                                  | succ k3 =>
                                    have H := HA.out
                                    clear HA
                                    simp only [impl_berGet.l0] at H
                                    by_cases c27 : x8_3 < (wrap64 ((wrap64 (2 + (wrap64 (bt (a0.extract (x1_2 : Int).toNat a0.size) 1)))) - 128))
                                    · rw [if_pos c27] at H
                                      have c27b0 : decide (x8_3 < (wrap64 ((wrap64 (2 + (wrap64 (bt (a0.extract (x1_2 : Int).toNat a0.size) 1)))) - 128))) = true := decide_eq_true c27
                                      (try (have c27m0 := c27b0; simp only [ByteArray.size_extract, ByteArray.size_append, Nat.min_self] at c27m0))
                                      clear c27
                                      by_cases c28 : 0 ≤ x8_3
                                      · rw [if_pos c28] at H
                                        have c28b0 : decide (0 ≤ x8_3) = true := decide_eq_true c28
                                        clear c28
                                        by_cases c29 : x8_3 < ((a0.extract (x1_2 : Int).toNat a0.size).size : Int)
                                        · rw [if_pos c29] at H
                                          have c29b0 : decide (x8_3 < ((a0.extract (x1_2 : Int).toNat a0.size).size : Int)) = true := decide_eq_true c29
                                          (try (have c29m0 := c29b0; simp only [ByteArray.size_extract, ByteArray.size_append, Nat.min_self] at c29m0))
                                          clear c29
                                          have H' := Aside0.mk H
                                          clear H
                                          have p30 : 0 ≤ (x8_3 : Int) := of_decide_eq_true (by first | (with_reducible assumption) | assumption)
                                          have q30 : x8_3 < ((a0.extract (x1_2 : Int).toNat a0.size).size : Int) := of_decide_eq_true (by first | (with_reducible assumption) | assumption)
                                          have hx30 := bt_at (a0.extract (x1_2 : Int).toNat a0.size) x8_3
                                          replace p30 := eq_true p30
                                          (try (have qm30 := q30; simp only [ByteArray.size_extract, ByteArray.size_append, Nat.min_self] at qm30; replace qm30 := eq_true qm30))
                                          replace q30 := eq_true q30
                                          go_wp2
                                          go_roundg k3
                                          case measure => have := HJ2.out; have := HJ20.out; have := HK3.out; omega
                                          case rel => exact ⟨(Go.bits .or .i64 (wrap64 (x7_3 * 256)) (wrap64 (bt (a0.extract (x1_2 : Int).toNat a0.size) x8_3))), (wrap64 (x8_3 + 1)), (by first | rfl | (simp; done) | (simp [*]; done)), (by first | rfl | (simp; done) | (simp [*]; done)), H', ⟨by have := HJ2.out; have := HJ20.out; have := HK3.out; omega⟩, ⟨by (with_reducible repeat (first | refine blk_drewN ?_ _ | refine blk_drew ?_ | refine blk_alloc ?_ _)); exact BK122.out⟩, ⟨by repeat (first | (with_reducible first | exact HB.out | apply below_alloc | apply pw_below_drewN | apply below_drew1 | refine below_set ?_ GE122.out) | exact HB.out)⟩⟩
                                        · rw [if_neg c29] at H
                                          exact absurd H (by simp)
                                      · rw [if_neg c28] at H
                                        exact absurd H (by simp)
                                    · rw [if_neg c27] at H
                                      have c27b0 : decide (x8_3 < (wrap64 ((wrap64 (2 + (wrap64 (bt (a0.extract (x1_2 : Int).toNat a0.size) 1)))) - 128))) = false := decide_eq_false c27
                                      (try (have c27m0 := c27b0; simp only [ByteArray.size_extract, ByteArray.size_append, Nat.min_self] at c27m0))
                                      clear c27
                                      have H' := Aside0.mk H
                                      clear H
                                      go_wp2
                                      go_meet
                                      case rel => exact ⟨_, ((wrap64 ((wrap64 (2 + (wrap64 (bt (a0.extract (x1_2 : Int).toNat a0.size) 1)))) - 128))), (x7_3), (0), ((⟨#[]⟩ : ByteArray)), (0), (0), (by first | rfl | (simp; done) | (simp [*]; done)), (by first | rfl | (simp; done) | (simp [*]; done)), H', ⟨by have := HJ2.out; have := HJ20.out; have := HK3.out; first | omega | exact Nat.le_refl _⟩, ⟨by (with_reducible repeat (first | refine blk_drewN ?_ _ | refine blk_drew ?_ | refine blk_alloc ?_ _)); exact BK122.out⟩, ⟨by repeat (first | (with_reducible first | exact HB.out | apply below_alloc | apply pw_below_drewN | apply below_drew1 | refine below_set ?_ GE122.out) | exact HB.out)⟩⟩
                      · rw [if_neg c20] at H
                        have c20b0 : decide (128 ≤ (wrap64 (bt (a0.extract (x1_2 : Int).toNat a0.size) 1))) = false := decide_eq_false c20
                        (try (have c20m0 := c20b0; simp only [ByteArray.size_extract, ByteArray.size_append, Nat.min_self] at c20m0))
                        clear c20
                        (first | rw [c20b0] | (simp only [i64_w, i32_w]; rw [c20b0]) | skip)
                        have H' := Aside0.mk H
                        clear H
                        go_wp2
                        go_meet
                        case rel => exact ⟨_, (2), (wrap64 (bt (a0.extract (x1_2 : Int).toNat a0.size) 1)), (0), ((⟨#[]⟩ : ByteArray)), (0), (0), (by first | rfl | (simp; done) | (simp [*]; done)), (by first | rfl | (simp; done) | (simp [*]; done)), H', ⟨by have := HJ2.out; first | omega | exact Nat.le_refl _⟩, ⟨by (with_reducible repeat (first | refine blk_drewN ?_ _ | refine blk_drew ?_ | refine blk_alloc ?_ _)); exact BK122.out⟩, ⟨by repeat (first | (with_reducible first | exact HB.out | apply below_alloc | apply pw_below_drewN | apply below_drew1 | refine below_set ?_ GE122.out) | exact HB.out)⟩⟩
                    case rest =>
                      clear HC18
                      try clear c1
                      try clear p1
                      try clear q1
                      try clear hx1
                      try clear qi1
                      try clear c2
                      try clear p2
                      try clear p3
                      try clear q3
                      try clear hx3
                      try clear c5
                      try clear c5b0
                      try clear c6
                      try clear c6b0
                      try clear c6b1
                      try clear p6
                      try clear c7
                      try clear c7b0
                      try clear c7b1
                      try clear c8
                      try clear c8b0
                      try clear c8b1
                      try clear c10
                      try clear c10b0
                      try clear c10b1
                      try clear p11
                      try clear q11
                      try clear hx11
                      try clear qi11
                      try clear c13
                      try clear c14
                      try clear c14b0
                      try clear c14b1
                      try clear c16
                      try clear c16b0
                      try clear c16b1
                      try clear p17
                      try clear q17
                      try clear hx17
                      try clear qi17
                      try clear c20
                      try clear c20b0
                      try clear c22
                      try clear c22b0
                      try clear c22b1
                      try clear c23
                      try clear c25
                      try clear c25b0
                      try clear c27
                      try clear c27b0
                      try clear c28
                      try clear c28b0
                      try clear c29
                      try clear c29b0
                      try clear p30
                      try clear q30
                      try clear hx30
                      try clear hcz15_0
                      try clear hcz15_1
                      try clear hcz15_2
                      try clear hcz15_3
                      try clear hcz24_0
                      try clear hcz24_1
                      try clear hcz24_2
                      try clear hcz24_3
                      try clear hcz26_0
                      try clear hcz26_1
                      try clear hcz26_2
                      try clear hcz26_3
                      try clear hcz9_0
                      try clear hcz9_1
                      try clear hcz9_2
                      try clear hcz9_3
                      try clear hfz15_0
                      try clear hfz15_1
                      try clear hfz15_2
                      try clear hfz15_3
                      try clear hfz24_0
                      try clear hfz24_1
                      try clear hfz24_2
                      try clear hfz24_3
                      try clear hfz26_0
                      try clear hfz26_1
                      try clear hfz26_2
                      try clear hfz26_3
                      try clear hfz9_0
                      try clear hfz9_1
                      try clear hfz9_2
                      try clear hfz9_3
                      try clear p1
                      try clear p11
                      try clear p17
                      try clear p2
                      try clear p30
                      try clear p6
                      try clear q1
                      try clear q11
                      try clear q17
                      try clear q30
                      obtain ⟨kq, x6_17, x7_17, x123000_17, x123001_17, x123002_17, x123003_17, rfl, rfl, HA, HJ17, BK122, HB⟩ := hcut
                      cases kq with
                      | zero => exact absurd HA.out (by simp [impl_berGet.j3])
                      | succ kj17 =>
                        have H := HA.out
                        clear HA
                        simp only [impl_berGet.j3] at H
                        have HC31 := Aside0.mk H
                        clear H
                        go_upto_region 21 with (fail)
                        go_cut [63] (fun v63 wc => ∃ (kq : Nat) (x63_30 : Bool), v63 = .bool x63_30 ∧ Aside0 (impl_berGet.j4 kq x1_2 (a0.extract (x1_2 : Int).toNat a0.size) x6_17 x7_17 x63_30 = some (r1, r2, r3, r4)) ∧ Aside0 (kq ≤ kj17) ∧ Aside0 (wc.heap[gb122]? = some (.cells #[.int .i64 x123000_17, .string x123001_17, .int .i64 x123002_17, .int .i64 x123003_17] 39 (0, 0))) ∧ Aside0 (Below w.heap.size w wc))
                        case first =>
                          have H := HC31.out
                          clear HC31
                          by_cases c32 : x7_17 > 4000
                          · rw [if_pos c32] at H
                            have c32b0 : decide (4000 < x7_17) = true := decide_eq_true c32
                            clear c32
                            (first | rw [c32b0] | (simp only [i64_w, i32_w]; rw [c32b0]) | skip)
                            have H' := Aside0.mk H
                            clear H
                            try go_wp2
                            have n0_ := Aside0.mk (blk_drew BK122.out)
                            have n1_ := Aside0.mk (below_drew1 HB.out)
                            clear BK122
                            clear HB
                            have BK122 := n0_
                            have HB := n1_
                            clear n0_ n1_
                            refine start_ (n := 11) (S := fun w' => True) (ds := []) #[false, false, false, false, false, false, false, false, false, false, false] (by kernel_rfl) rfl rfl trivial (fun hHeld => ?_); refine with_tabW impl_berGet.tab21 impl_berGet.bits21 (fun HT_ HW_ => ?_)
                            generalize wc.drew = w33 at BK122 HB hHeld ⊢
                            refine pure_ (i := 0) (N := some 64) (v := ?_) (a' := ?_) #[true, false, false, false, false, false, false, false, false, false, false] rfl rfl (any_of HT_.out (by kernel_rfl)) (fun _ _ _ h => h) (Or.inl ⟨by rfl, ?_⟩) ?_ ?_
                            rotate_left
                            · intro w'
                              go_simp
                              with_reducible rfl
                            rotate_left
                            · simp only [Act.put, List.setIfInBounds_toArray, List.set_cons_zero, List.set_cons_succ, i64_w, i32_w]
                              rfl
                            refine pure_ (i := 1) (N := some 65) (v := ?_) (a' := ?_) #[true, true, false, false, false, false, false, false, false, false, false] rfl rfl (any_of HT_.out (by kernel_rfl)) (fun _ _ _ h => h) (Or.inl ⟨by rfl, ?_⟩) ?_ ?_
                            rotate_left
                            · intro w'
                              go_simp
                              with_reducible rfl
                            rotate_left
                            · simp only [Act.put, List.setIfInBounds_toArray, List.set_cons_zero, List.set_cons_succ, i64_w, i32_w]
                              rfl
                            refine pure_ (i := 2) (N := some 66) (v := ?_) (a' := ?_) #[true, true, true, false, false, false, false, false, false, false, false] rfl rfl (any_of HT_.out (by kernel_rfl)) (fun _ _ _ h => h) (Or.inl ⟨by rfl, ?_⟩) ?_ ?_
                            rotate_left
                            · intro w'
                              go_simp
                              with_reducible rfl
                            rotate_left
                            · simp only [Act.put, List.setIfInBounds_toArray, List.set_cons_zero, List.set_cons_succ, i64_w, i32_w]
                              rfl
                            refine pure_ (i := 3) (N := some 67) (v := undef) (a' := ?_) #[true, true, true, true, false, false, false, false, false, false, false] rfl rfl (any_of HT_.out (by kernel_rfl)) (fun _ _ _ h => h) (Or.inr ⟨by rfl, rfl⟩) ?_ ?_
                            rotate_left
                            · simp only [Act.put, List.setIfInBounds_toArray, List.set_cons_zero, List.set_cons_succ, i64_w, i32_w]
                              rfl
                            refine pure_ (i := 4) (N := some 68) (v := undef) (a' := ?_) #[true, true, true, true, true, false, false, false, false, false, false] rfl rfl (any_of HT_.out (by kernel_rfl)) (fun _ _ _ h => h) (Or.inr ⟨by rfl, rfl⟩) ?_ ?_
                            rotate_left
                            · simp only [Act.put, List.setIfInBounds_toArray, List.set_cons_zero, List.set_cons_succ, i64_w, i32_w]
                              rfl
                            refine pure_ (i := 5) (N := some 69) (v := undef) (a' := ?_) #[true, true, true, true, true, true, false, false, false, false, false] rfl rfl (any_of HT_.out (by kernel_rfl)) (fun _ _ _ h => h) (Or.inr ⟨by rfl, rfl⟩) ?_ ?_
                            rotate_left
                            · simp only [Act.put, List.setIfInBounds_toArray, List.set_cons_zero, List.set_cons_succ, i64_w, i32_w]
                              rfl
                            refine pure_ (i := 6) (N := some 70) (v := undef) (a' := ?_) #[true, true, true, true, true, true, true, false, false, false, false] rfl rfl (any_of HT_.out (by kernel_rfl)) (fun _ _ _ h => h) (Or.inr ⟨by rfl, rfl⟩) ?_ ?_
                            rotate_left
                            · simp only [Act.put, List.setIfInBounds_toArray, List.set_cons_zero, List.set_cons_succ, i64_w, i32_w]
                              rfl
                            refine pure_ (i := 7) (N := some 71) (v := undef) (a' := ?_) #[true, true, true, true, true, true, true, true, false, false, false] rfl rfl (any_of HT_.out (by kernel_rfl)) (fun _ _ _ h => h) (Or.inr ⟨by rfl, rfl⟩) ?_ ?_
                            rotate_left
                            · simp only [Act.put, List.setIfInBounds_toArray, List.set_cons_zero, List.set_cons_succ, i64_w, i32_w]
                              rfl
                            refine pure_ (i := 8) (N := some 72) (v := undef) (a' := ?_) #[true, true, true, true, true, true, true, true, true, false, false] rfl rfl (any_of HT_.out (by kernel_rfl)) (fun _ _ _ h => h) (Or.inr ⟨by rfl, rfl⟩) ?_ ?_
                            rotate_left
                            · simp only [Act.put, List.setIfInBounds_toArray, List.set_cons_zero, List.set_cons_succ, i64_w, i32_w]
                              rfl
                            refine pure_ (i := 9) (N := some 73) (v := ?_) (a' := ?_) #[true, true, true, true, true, true, true, true, true, true, false] rfl rfl (any_of HT_.out (by kernel_rfl)) (fun _ _ _ h => h) (Or.inl ⟨by rfl, ?_⟩) ?_ ?_
                            rotate_left
                            · intro w'
                              go_simp
                              with_reducible rfl
                            rotate_left
                            · simp only [Act.put, List.setIfInBounds_toArray, List.set_cons_zero, List.set_cons_succ, i64_w, i32_w]
                              rfl
                            refine pure_ (i := 10) (N := some 63) (v := ?_) (a' := ?_) #[true, true, true, true, true, true, true, true, true, true, true] rfl rfl (any_of HT_.out (by kernel_rfl)) (fun _ _ _ h => h) (Or.inl ⟨by rfl, ?_⟩) ?_ ?_
                            rotate_left
                            · intro w'
                              go_simp
                              with_reducible rfl
                            rotate_left
                            · simp only [Act.put, List.setIfInBounds_toArray, List.set_cons_zero, List.set_cons_succ, i64_w, i32_w]
                              rfl
                            refine done_ (done_of HT_.out (by kernel_rfl)) ?_
                            try go_wp2
                            go_meet
                            case rel => exact ⟨_, (true), (by first | rfl | (simp; done) | (simp [*]; done)), H', ⟨by have := HJ2.out; have := HJ17.out; first | omega | exact Nat.le_refl _⟩, ⟨by (with_reducible repeat (first | refine blk_drewN ?_ _ | refine blk_drew ?_ | refine blk_alloc ?_ _)); exact BK122.out⟩, ⟨by repeat (first | (with_reducible first | exact HB.out | apply below_alloc | apply pw_below_drewN | apply below_drew1 | refine below_set ?_ GE122.out) | exact HB.out)⟩⟩
                          · rw [if_neg c32] at H
                            have c32b0 : decide (4000 < x7_17) = false := decide_eq_false c32
                            clear c32
                            (first | rw [c32b0] | (simp only [i64_w, i32_w]; rw [c32b0]) | skip)
                            replace H := Option.bind_eq_some_iff.mp H
                            obtain ⟨t124, A340, H⟩ := H
                            replace H : (if 1 ≤ x6_17 then (if x6_17 ≤ ((a0.extract (x1_2 : Int).toNat a0.size).size : Int) then (impl_berGet.j4 kj17 x1_2 (a0.extract (x1_2 : Int).toNat a0.size) x6_17 x7_17 (t124.toList != ((a0.extract (x1_2 : Int).toNat a0.size).extract 1 (x6_17 : Int).toNat).toList)) else (none)) else (none)) = some (r1, r2, r3, r4) := H
                            have A34 := Aside0.mk A340
                            clear A340
                            by_cases c35 : 1 ≤ x6_17
                            · rw [if_pos c35] at H
                              have c35b0 := eq_true c35
                              have c35b1 : decide (1 ≤ x6_17) = true := decide_eq_true c35
                              clear c35
                              by_cases c36 : x6_17 ≤ ((a0.extract (x1_2 : Int).toNat a0.size).size : Int)
                              · rw [if_pos c36] at H
                                (try (have c36m := c36; simp only [ByteArray.size_extract, ByteArray.size_append, Nat.min_self] at c36m; replace c36m := eq_true c36m))
                                have c36b0 := eq_true c36
                                have c36b1 : decide (x6_17 ≤ ((a0.extract (x1_2 : Int).toNat a0.size).size : Int)) = true := decide_eq_true c36
                                clear c36
                                have H' := Aside0.mk H
                                clear H
                                try go_wp2
                                have n0_ := Aside0.mk (blk_drew BK122.out)
                                have n1_ := Aside0.mk (below_drew1 HB.out)
                                clear BK122
                                clear HB
                                have BK122 := n0_
                                have HB := n1_
                                clear n0_ n1_
                                refine start_ (n := 11) (S := fun w' => True) (ds := []) #[false, false, false, false, false, false, false, false, false, false, false] (by kernel_rfl) rfl rfl trivial (fun hHeld => ?_); refine with_tabW impl_berGet.tab21 impl_berGet.bits21 (fun HT_ HW_ => ?_)
                                generalize wc.drew = w37 at BK122 HB hHeld ⊢
                                refine pure_ (i := 0) (N := some 64) (v := ?_) (a' := ?_) #[true, false, false, false, false, false, false, false, false, false, false] rfl rfl (any_of HT_.out (by kernel_rfl)) (fun _ _ _ h => h) (Or.inl ⟨by rfl, ?_⟩) ?_ ?_
                                rotate_left
                                · intro w'
                                  go_simp
                                  with_reducible rfl
                                rotate_left
                                · simp only [Act.put, List.setIfInBounds_toArray, List.set_cons_zero, List.set_cons_succ, i64_w, i32_w]
                                  rfl
                                refine pure_ (i := 1) (N := some 65) (v := ?_) (a' := ?_) #[true, true, false, false, false, false, false, false, false, false, false] rfl rfl (any_of HT_.out (by kernel_rfl)) (fun _ _ _ h => h) (Or.inl ⟨by rfl, ?_⟩) ?_ ?_
                                rotate_left
                                · intro w'
                                  go_simp
                                  with_reducible rfl
                                rotate_left
                                · simp only [Act.put, List.setIfInBounds_toArray, List.set_cons_zero, List.set_cons_succ, i64_w, i32_w]
                                  rfl
                                refine pure_ (i := 2) (N := some 66) (v := ?_) (a' := ?_) #[true, true, true, false, false, false, false, false, false, false, false] rfl rfl (any_of HT_.out (by kernel_rfl)) (fun _ _ _ h => h) (Or.inl ⟨by rfl, ?_⟩) ?_ ?_
                                rotate_left
                                · intro w'
                                  go_simp
                                  with_reducible rfl
                                rotate_left
                                · simp only [Act.put, List.setIfInBounds_toArray, List.set_cons_zero, List.set_cons_succ, i64_w, i32_w]
                                  rfl
                                refine pure_ (i := 3) (N := some 67) (v := ?_) (a' := ?_) #[true, true, true, true, false, false, false, false, false, false, false] rfl rfl (any_of HT_.out (by kernel_rfl)) (fun _ _ _ h => h) (Or.inl ⟨by rfl, ?_⟩) ?_ ?_
                                rotate_left
                                · intro w'
                                  go_simp
                                  with_reducible rfl
                                rotate_left
                                · simp only [Act.put, List.setIfInBounds_toArray, List.set_cons_zero, List.set_cons_succ, i64_w, i32_w]
                                  rfl
                                refine pure_ (i := 5) (N := some 69) (v := ?_) (a' := ?_) #[true, true, true, true, false, true, false, false, false, false, false] rfl rfl (any_of HT_.out (by kernel_rfl)) (fun _ _ _ h => h) (Or.inl ⟨by rfl, ?_⟩) ?_ ?_
                                rotate_left
                                · intro w'
                                  go_simp
                                  with_reducible rfl
                                rotate_left
                                · simp only [Act.put, List.setIfInBounds_toArray, List.set_cons_zero, List.set_cons_succ, i64_w, i32_w]
                                  rfl
                                refine pure_ (i := 6) (N := some 70) (v := ?_) (a' := ?_) #[true, true, true, true, false, true, true, false, false, false, false] rfl rfl (any_of HT_.out (by kernel_rfl)) (fun _ _ _ h => h) (Or.inl ⟨by rfl, ?_⟩) ?_ ?_
                                rotate_left
                                · intro w'
                                  go_simp
                                  with_reducible rfl
                                rotate_left
                                · simp only [Act.put, List.setIfInBounds_toArray, List.set_cons_zero, List.set_cons_succ, i64_w, i32_w]
                                  rfl
                                refine pure_ (i := 7) (N := some 71) (v := ?_) (a' := ?_) #[true, true, true, true, false, true, true, true, false, false, false] rfl rfl (any_of HT_.out (by kernel_rfl)) (fun _ _ _ h => h) (Or.inl ⟨by rfl, ?_⟩) ?_ ?_
                                rotate_left
                                · intro w'
                                  go_simp
                                  with_reducible rfl
                                rotate_left
                                · simp only [Act.put, List.setIfInBounds_toArray, List.set_cons_zero, List.set_cons_succ, i64_w, i32_w]
                                  rfl
                                refine one_ (i := 4) (N := some 68) #[true, true, true, true, true, true, true, true, false, false, false] rfl rfl (one_of HT_.out (by kernel_rfl)) (by decide) (fun K hK => ?_)
                                refine goes_ Try.func68 (by kernel_rfl) rfl #[.int .i64 x7_17] (by rfl) rfl rfl (by (try simp only [List.map_toArray, List.map_cons, List.map_nil]); first | done | rfl | (simp only [List.length_drop, List.length_take]; rfl)) ?_
                                with_reducible refine (impl_berLength.calls x7_17 t124 _ A34.out).mono ?_
                                rintro e w38 ⟨rfl, hb⟩
                                refine ⟨_, rfl, ?_⟩
                                have n0_ := Aside0.mk (blk_below (g := gb122) (o := .cells #[.int .i64 x123000_17, .string x123001_17, .int .i64 x123002_17, .int .i64 x123003_17] 39 (0, 0)) (by (with_reducible repeat (first | refine blk_drewN ?_ _ | refine blk_drew ?_ | refine blk_alloc ?_ _)); exact BK122.out) hb)
                                have n1_ := Aside0.mk (below_step (by repeat (first | (with_reducible first | exact HB.out | apply below_alloc | apply pw_below_drewN | apply below_drew1 | refine below_set ?_ GE122.out) | exact HB.out)) hb)
                                clear BK122
                                clear HB
                                have BK122 := n0_
                                have HB := n1_
                                clear n0_ n1_
                                (try clear hb)
                                (try clear hb2)
                                (try clear hk)
                                (try clear hi)
                                refine hK.out _ _ trivial (fun hHeld => ?_)
                                clear hK K
                                refine norm_ (a' := ?_) ?_ ?_
                                rotate_left
                                · show Act.put _ (some 68) _ = _
                                  simp only [Act.put, List.setIfInBounds_toArray, List.set_cons_zero, List.set_cons_succ, i64_w, i32_w]
                                  rfl
                                refine pure_ (i := 8) (N := some 72) (v := ?_) (a' := ?_) #[true, true, true, true, true, true, true, true, true, false, false] rfl rfl (any_of HT_.out (by kernel_rfl)) (fun _ _ _ h => h) (Or.inl ⟨by rfl, ?_⟩) ?_ ?_
                                rotate_left
                                · intro w'
                                  go_simp
                                  with_reducible rfl
                                rotate_left
                                · simp only [Act.put, List.setIfInBounds_toArray, List.set_cons_zero, List.set_cons_succ, i64_w, i32_w]
                                  rfl
                                refine pure_ (i := 9) (N := some 73) (v := ?_) (a' := ?_) #[true, true, true, true, true, true, true, true, true, true, false] rfl rfl (any_of HT_.out (by kernel_rfl)) (fun _ _ _ h => h) (Or.inl ⟨by rfl, ?_⟩) ?_ ?_
                                rotate_left
                                · intro w'
                                  go_simp
                                  with_reducible rfl
                                rotate_left
                                · simp only [Act.put, List.setIfInBounds_toArray, List.set_cons_zero, List.set_cons_succ, i64_w, i32_w]
                                  rfl
                                refine pure_ (i := 10) (N := some 63) (v := ?_) (a' := ?_) #[true, true, true, true, true, true, true, true, true, true, true] rfl rfl (any_of HT_.out (by kernel_rfl)) (fun _ _ _ h => h) (Or.inl ⟨by rfl, ?_⟩) ?_ ?_
                                rotate_left
                                · intro w'
                                  go_simp
                                  with_reducible rfl
                                rotate_left
                                · simp only [Act.put, List.setIfInBounds_toArray, List.set_cons_zero, List.set_cons_succ, i64_w, i32_w]
                                  rfl
                                refine done_ (done_of HT_.out (by kernel_rfl)) ?_
                                try go_wp2
                                go_meet
                                case rel => exact ⟨_, ((t124.toList != ((a0.extract (x1_2 : Int).toNat a0.size).extract 1 (x6_17 : Int).toNat).toList)), (by first | rfl | (simp; done) | (simp [*]; done)), H', ⟨by have := HJ2.out; have := HJ17.out; first | omega | exact Nat.le_refl _⟩, ⟨by (with_reducible repeat (first | refine blk_drewN ?_ _ | refine blk_drew ?_ | refine blk_alloc ?_ _)); exact BK122.out⟩, ⟨by repeat (first | (with_reducible first | exact HB.out | apply below_alloc | apply pw_below_drewN | apply below_drew1 | refine below_set ?_ GE122.out) | exact HB.out)⟩⟩
                              · rw [if_neg c36] at H
                                exact absurd H (by simp)
                            · rw [if_neg c35] at H
                              exact absurd H (by simp)
                        case rest =>
                          clear HC31
                          try clear c1
                          try clear p1
                          try clear q1
                          try clear hx1
                          try clear qi1
                          try clear c2
                          try clear p2
                          try clear c3
                          try clear p3
                          try clear q3
                          try clear hx3
                          try clear c5
                          try clear c5b0
                          try clear c6
                          try clear c6b0
                          try clear c6b1
                          try clear p6
                          try clear c7
                          try clear c7b0
                          try clear c7b1
                          try clear c8
                          try clear c8b0
                          try clear c8b1
                          try clear c10
                          try clear c10b0
                          try clear c10b1
                          try clear p11
                          try clear q11
                          try clear hx11
                          try clear qi11
                          try clear c13
                          try clear c14
                          try clear c14b0
                          try clear c14b1
                          try clear c16
                          try clear c16b0
                          try clear c16b1
                          try clear p17
                          try clear q17
                          try clear hx17
                          try clear qi17
                          try clear c20
                          try clear c20b0
                          try clear c22
                          try clear c22b0
                          try clear c22b1
                          try clear c23
                          try clear c25
                          try clear c25b0
                          try clear c27
                          try clear c27b0
                          try clear c28
                          try clear c28b0
                          try clear c29
                          try clear c29b0
                          try clear p30
                          try clear q30
                          try clear hx30
                          try clear c32
                          try clear c32b0
                          try clear c35
                          try clear c35b0
                          try clear c35b1
                          try clear c36
                          try clear c36b0
                          try clear c36b1
                          try clear hcz15_0
                          try clear hcz15_1
                          try clear hcz15_2
                          try clear hcz15_3
                          try clear hcz24_0
                          try clear hcz24_1
                          try clear hcz24_2
                          try clear hcz24_3
                          try clear hcz26_0
                          try clear hcz26_1
                          try clear hcz26_2
                          try clear hcz26_3
                          try clear hcz9_0
                          try clear hcz9_1
                          try clear hcz9_2
                          try clear hcz9_3
                          try clear hfz15_0
                          try clear hfz15_1
                          try clear hfz15_2
                          try clear hfz15_3
                          try clear hfz24_0
                          try clear hfz24_1
                          try clear hfz24_2
                          try clear hfz24_3
                          try clear hfz26_0
                          try clear hfz26_1
                          try clear hfz26_2
                          try clear hfz26_3
                          try clear hfz9_0
                          try clear hfz9_1
                          try clear hfz9_2
                          try clear hfz9_3
                          try clear p1
                          try clear p11
                          try clear p17
                          try clear p2
                          try clear p3
                          try clear p30
                          try clear p6
                          try clear q1
                          try clear q11
                          try clear q17
                          try clear q3
                          try clear q30
                          obtain ⟨kq, x63_30, rfl, HA, HJ30, BK122, HB⟩ := hcut
                          cases kq with
                          | zero => exact absurd HA.out (by simp [impl_berGet.j4])
                          | succ kj30 =>
                            have H := HA.out
                            clear HA
                            simp only [impl_berGet.j4] at H
                            by_cases c39 : x63_30 = true
                            · subst c39
                              have H1 : (some (0, (⟨#[]⟩ : ByteArray), 0, 3)) = some (r1, r2, r3, r4) := by rw [if_pos rfl] at H; exact H
                              clear H
                              have H := H1
                              clear H1
                              simp only [Option.some.injEq, Prod.mk.injEq] at H
                              obtain ⟨rfl, rfl, rfl, rfl⟩ := H
                              have hcz40_0 : wc.cell? ⟨gb122, 0, none⟩ = some (.int .i64 x123000_17) := (blk_cell BK122.out 0).trans rfl
                              have hcz40_1 : wc.cell? ⟨gb122, 1, none⟩ = some (.string x123001_17) := (blk_cell BK122.out 1).trans rfl
                              have hcz40_2 : wc.cell? ⟨gb122, 2, none⟩ = some (.int .i64 x123002_17) := (blk_cell BK122.out 2).trans rfl
                              have hcz40_3 : wc.cell? ⟨gb122, 3, none⟩ = some (.int .i64 x123003_17) := (blk_cell BK122.out 3).trans rfl
                              have hfz40_0 := blk_frozen BK122.out 0
                              have hfz40_1 := blk_frozen BK122.out 1
                              have hfz40_2 := blk_frozen BK122.out 2
                              have hfz40_3 := blk_frozen BK122.out 3
                              go_wp2
                              refine bodyPost_ret (results_cell_row rfl _ _ gb122 39 #[.int .i64 0, .string (⟨#[]⟩ : ByteArray), .int .i64 0, .int .i64 3] (0, 0) _ rfl (by (with_reducible repeat (first | refine blk_drewN ?_ _ | refine blk_drew ?_ | refine blk_alloc ?_ _)); refine blk_put (cs := #[.int .i64 0, .string (⟨#[]⟩ : ByteArray), .int .i64 0, .int .i64 x123003_17]) ?_ 3 _ rfl; (with_reducible repeat (first | refine blk_drewN ?_ _ | refine blk_drew ?_ | refine blk_alloc ?_ _)); refine blk_put (cs := #[.int .i64 0, .string (⟨#[]⟩ : ByteArray), .int .i64 x123002_17, .int .i64 x123003_17]) ?_ 2 _ rfl; (with_reducible repeat (first | refine blk_drewN ?_ _ | refine blk_drew ?_ | refine blk_alloc ?_ _)); refine blk_put (cs := #[.int .i64 0, .string x123001_17, .int .i64 x123002_17, .int .i64 x123003_17]) ?_ 1 _ rfl; (with_reducible repeat (first | refine blk_drewN ?_ _ | refine blk_drew ?_ | refine blk_alloc ?_ _)); refine blk_put (cs := #[.int .i64 x123000_17, .string x123001_17, .int .i64 x123002_17, .int .i64 x123003_17]) ?_ 0 _ rfl; (with_reducible repeat (first | refine blk_drewN ?_ _ | refine blk_drew ?_ | refine blk_alloc ?_ _)); exact BK122.out) Try.underlying39 rfl (by kernel_rfl)) rfl ?_
                              exact ⟨by first | rfl | (simp [errW_none, errW_some] <;> rfl) | (simp [*, errW_none, errW_some] <;> rfl), by repeat (first | (with_reducible first | exact HB.out | apply below_alloc | apply pw_below_drewN | apply below_drew1 | refine below_set ?_ GE122.out) | exact HB.out)⟩
                            · replace c39 := Bool.eq_false_iff.mpr c39
                              subst c39
                              have H1 : (if ((a0.extract (x1_2 : Int).toNat a0.size).size : Int) < (wrap64 (x6_17 + x7_17)) then (some (0, (⟨#[]⟩ : ByteArray), 0, 4)) else (if 0 < ((a0.extract (x1_2 : Int).toNat a0.size).size : Int) then (if 0 ≤ x6_17 then (if x6_17 ≤ (wrap64 (x6_17 + x7_17)) then (if (wrap64 (x6_17 + x7_17)) ≤ ((a0.extract (x1_2 : Int).toNat a0.size).size : Int) then (some (wrap64 (bt (a0.extract (x1_2 : Int).toNat a0.size) 0), (a0.extract (x1_2 : Int).toNat a0.size).extract (x6_17 : Int).toNat ((wrap64 (x6_17 + x7_17)) : Int).toNat, wrap64 (x1_2 + (wrap64 (x6_17 + x7_17))), 0)) else (none)) else (none)) else (none)) else (none))) = some (r1, r2, r3, r4) := by rw [if_neg (show ¬ (false = true) by decide)] at H; exact H
                              clear H
                              have H := H1
                              clear H1
                              by_cases c41 : ((a0.extract (x1_2 : Int).toNat a0.size).size : Int) < (wrap64 (x6_17 + x7_17))
                              · rw [if_pos c41] at H
                                have c41b0 : decide (((a0.extract (x1_2 : Int).toNat a0.size).size : Int) < (wrap64 (x6_17 + x7_17))) = true := decide_eq_true c41
                                (try (have c41m0 := c41b0; simp only [ByteArray.size_extract, ByteArray.size_append, Nat.min_self] at c41m0))
                                clear c41
                                simp only [Option.some.injEq, Prod.mk.injEq] at H
                                obtain ⟨rfl, rfl, rfl, rfl⟩ := H
                                have hcz42_0 : wc.cell? ⟨gb122, 0, none⟩ = some (.int .i64 x123000_17) := (blk_cell BK122.out 0).trans rfl
                                have hcz42_1 : wc.cell? ⟨gb122, 1, none⟩ = some (.string x123001_17) := (blk_cell BK122.out 1).trans rfl
                                have hcz42_2 : wc.cell? ⟨gb122, 2, none⟩ = some (.int .i64 x123002_17) := (blk_cell BK122.out 2).trans rfl
                                have hcz42_3 : wc.cell? ⟨gb122, 3, none⟩ = some (.int .i64 x123003_17) := (blk_cell BK122.out 3).trans rfl
                                have hfz42_0 := blk_frozen BK122.out 0
                                have hfz42_1 := blk_frozen BK122.out 1
                                have hfz42_2 := blk_frozen BK122.out 2
                                have hfz42_3 := blk_frozen BK122.out 3
                                go_wp2
                                refine bodyPost_ret (results_cell_row rfl _ _ gb122 39 #[.int .i64 0, .string (⟨#[]⟩ : ByteArray), .int .i64 0, .int .i64 4] (0, 0) _ rfl (by (with_reducible repeat (first | refine blk_drewN ?_ _ | refine blk_drew ?_ | refine blk_alloc ?_ _)); refine blk_put (cs := #[.int .i64 0, .string (⟨#[]⟩ : ByteArray), .int .i64 0, .int .i64 x123003_17]) ?_ 3 _ rfl; (with_reducible repeat (first | refine blk_drewN ?_ _ | refine blk_drew ?_ | refine blk_alloc ?_ _)); refine blk_put (cs := #[.int .i64 0, .string (⟨#[]⟩ : ByteArray), .int .i64 x123002_17, .int .i64 x123003_17]) ?_ 2 _ rfl; (with_reducible repeat (first | refine blk_drewN ?_ _ | refine blk_drew ?_ | refine blk_alloc ?_ _)); refine blk_put (cs := #[.int .i64 0, .string x123001_17, .int .i64 x123002_17, .int .i64 x123003_17]) ?_ 1 _ rfl; (with_reducible repeat (first | refine blk_drewN ?_ _ | refine blk_drew ?_ | refine blk_alloc ?_ _)); refine blk_put (cs := #[.int .i64 x123000_17, .string x123001_17, .int .i64 x123002_17, .int .i64 x123003_17]) ?_ 0 _ rfl; (with_reducible repeat (first | refine blk_drewN ?_ _ | refine blk_drew ?_ | refine blk_alloc ?_ _)); exact BK122.out) Try.underlying39 rfl (by kernel_rfl)) rfl ?_
                                exact ⟨by first | rfl | (simp [errW_none, errW_some] <;> rfl) | (simp [*, errW_none, errW_some] <;> rfl), by repeat (first | (with_reducible first | exact HB.out | apply below_alloc | apply pw_below_drewN | apply below_drew1 | refine below_set ?_ GE122.out) | exact HB.out)⟩
                              · rw [if_neg c41] at H
                                have c41b0 : decide (((a0.extract (x1_2 : Int).toNat a0.size).size : Int) < (wrap64 (x6_17 + x7_17))) = false := decide_eq_false c41
                                (try (have c41m0 := c41b0; simp only [ByteArray.size_extract, ByteArray.size_append, Nat.min_self] at c41m0))
                                clear c41
                                by_cases c43 : 0 < ((a0.extract (x1_2 : Int).toNat a0.size).size : Int)
                                · rw [if_pos c43] at H
                                  have c43b0 : decide (0 < ((a0.extract (x1_2 : Int).toNat a0.size).size : Int)) = true := decide_eq_true c43
                                  (try (have c43m0 := c43b0; simp only [ByteArray.size_extract, ByteArray.size_append, Nat.min_self] at c43m0))
                                  have c43b1 : decide (0 < (a0.extract (x1_2 : Int).toNat a0.size).size) = true := decide_eq_true (by omega)
                                  (try (have c43m1 := c43b1; simp only [ByteArray.size_extract, ByteArray.size_append, Nat.min_self] at c43m1))
                                  clear c43
                                  by_cases c45 : 0 ≤ x6_17
                                  · rw [if_pos c45] at H
                                    have c45b0 := eq_true c45
                                    have c45b1 : decide (0 ≤ x6_17) = true := decide_eq_true c45
                                    clear c45
                                    by_cases c46 : x6_17 ≤ (wrap64 (x6_17 + x7_17))
                                    · rw [if_pos c46] at H
                                      have c46b0 := eq_true c46
                                      have c46b1 : decide (x6_17 ≤ (wrap64 (x6_17 + x7_17))) = true := decide_eq_true c46
                                      by_cases c47 : (wrap64 (x6_17 + x7_17)) ≤ ((a0.extract (x1_2 : Int).toNat a0.size).size : Int)
                                      · rw [if_pos c47] at H
                                        (try (have c47m := c47; simp only [ByteArray.size_extract, ByteArray.size_append, Nat.min_self] at c47m; replace c47m := eq_true c47m))
                                        have c47b0 := eq_true c47
                                        have c47b1 : decide ((wrap64 (x6_17 + x7_17)) ≤ ((a0.extract (x1_2 : Int).toNat a0.size).size : Int)) = true := decide_eq_true c47
                                        simp only [Option.some.injEq, Prod.mk.injEq] at H
                                        obtain ⟨rfl, rfl, rfl, rfl⟩ := H
                                        try go_wp2
                                        have n0_ := Aside0.mk (blk_drew BK122.out)
                                        have n1_ := Aside0.mk (below_drew1 HB.out)
                                        clear BK122
                                        clear HB
                                        have BK122 := n0_
                                        have HB := n1_
                                        clear n0_ n1_
                                        have p44 : 0 ≤ (0 : Int) := (by omega)
                                        have q44 : 0 < (a0.extract (x1_2 : Int).toNat a0.size).size := (by have : (0 : Int) < ((a0.extract (x1_2 : Int).toNat a0.size).size : Int) := of_decide_eq_true (by first | (with_reducible assumption) | assumption); omega)
                                        have hx44 : ∀ h : 0 < (a0.extract (x1_2 : Int).toNat a0.size).size, (((a0.extract (x1_2 : Int).toNat a0.size)[0]'h).toNat : Int) = bt (a0.extract (x1_2 : Int).toNat a0.size) 0 := bt_at (a0.extract (x1_2 : Int).toNat a0.size) 0
                                        clear p44
                                        have qi44 : (0 < ((a0.extract (x1_2 : Int).toNat a0.size).size : Int)) = True := eq_true (of_decide_eq_true (by first | (with_reducible assumption) | assumption))
                                        (try (have qm44 := q44; simp only [ByteArray.size_extract, ByteArray.size_append, Nat.min_self] at qm44; replace qm44 := eq_true qm44))
                                        (try (have qn44 := qi44; simp only [ByteArray.size_extract, ByteArray.size_append, Nat.min_self] at qn44))
                                        replace q44 := eq_true q44
                                        refine start_ (n := 17) (S := fun w' => True) (ds := []) #[false, false, false, false, false, false, false, false, false, false, false, false, false, false, false, false, false] (by kernel_rfl) rfl rfl trivial (fun hHeld => ?_); refine with_tabW impl_berGet.tab25 impl_berGet.bits25 (fun HT_ HW_ => ?_)
                                        generalize wc.drew = w48 at BK122 HB hHeld ⊢
                                        refine pure_ (i := 0) (N := some 83) (v := ?_) (a' := ?_) #[true, false, false, false, false, false, false, false, false, false, false, false, false, false, false, false, false] rfl rfl (any_of HT_.out (by kernel_rfl)) (fun _ _ _ h => h) (Or.inl ⟨by rfl, ?_⟩) ?_ ?_
                                        rotate_left
                                        · intro w'
                                          go_simp
                                          with_reducible rfl
                                        rotate_left
                                        · simp only [Act.put, List.setIfInBounds_toArray, List.set_cons_zero, List.set_cons_succ, i64_w, i32_w]
                                          rfl
                                        refine pure_ (i := 3) (N := some 86) (v := ?_) (a' := ?_) #[true, false, false, true, false, false, false, false, false, false, false, false, false, false, false, false, false] rfl rfl (any_of HT_.out (by kernel_rfl)) (fun _ _ _ h => h) (Or.inl ⟨by rfl, ?_⟩) ?_ ?_
                                        rotate_left
                                        · intro w'
                                          go_simp
                                          with_reducible rfl
                                        rotate_left
                                        · simp only [Act.put, List.setIfInBounds_toArray, List.set_cons_zero, List.set_cons_succ, i64_w, i32_w]
                                          rfl
                                        refine pure_ (i := 4) (N := some 87) (v := ?_) (a' := ?_) #[true, false, false, true, true, false, false, false, false, false, false, false, false, false, false, false, false] rfl rfl (any_of HT_.out (by kernel_rfl)) (fun _ _ _ h => h) (Or.inl ⟨by rfl, ?_⟩) ?_ ?_
                                        rotate_left
                                        · intro w'
                                          go_simp
                                          with_reducible rfl
                                        rotate_left
                                        · simp only [Act.put, List.setIfInBounds_toArray, List.set_cons_zero, List.set_cons_succ, i64_w, i32_w]
                                          rfl
                                        refine pure_ (i := 5) (N := some 88) (v := ?_) (a' := ?_) #[true, false, false, true, true, true, false, false, false, false, false, false, false, false, false, false, false] rfl rfl (any_of HT_.out (by kernel_rfl)) (fun _ _ _ h => h) (Or.inl ⟨by rfl, ?_⟩) ?_ ?_
                                        rotate_left
                                        · intro w'
                                          go_simp
                                          with_reducible rfl
                                        rotate_left
                                        · simp only [Act.put, List.setIfInBounds_toArray, List.set_cons_zero, List.set_cons_succ, i64_w, i32_w]
                                          rfl
                                        refine pure_ (i := 6) (N := some 89) (v := ?_) (a' := ?_) #[true, false, false, true, true, true, true, false, false, false, false, false, false, false, false, false, false] rfl rfl (any_of HT_.out (by kernel_rfl)) (fun _ _ _ h => h) (Or.inl ⟨by rfl, ?_⟩) ?_ ?_
                                        rotate_left
                                        · intro w'
                                          go_simp
                                          with_reducible rfl
                                        rotate_left
                                        · simp only [Act.put, List.setIfInBounds_toArray, List.set_cons_zero, List.set_cons_succ, i64_w, i32_w]
                                          rfl
                                        refine pure_ (i := 7) (N := some 90) (v := ?_) (a' := ?_) #[true, false, false, true, true, true, true, true, false, false, false, false, false, false, false, false, false] rfl rfl (any_of HT_.out (by kernel_rfl)) (fun _ _ _ h => h) (Or.inl ⟨by rfl, ?_⟩) ?_ ?_
                                        rotate_left
                                        · intro w'
                                          go_simp
                                          with_reducible rfl
                                        rotate_left
                                        · simp only [Act.put, List.setIfInBounds_toArray, List.set_cons_zero, List.set_cons_succ, i64_w, i32_w]
                                          rfl
                                        refine pure_ (i := 8) (N := some 91) (v := ?_) (a' := ?_) #[true, false, false, true, true, true, true, true, true, false, false, false, false, false, false, false, false] rfl rfl (any_of HT_.out (by kernel_rfl)) (fun _ _ _ h => h) (Or.inl ⟨by rfl, ?_⟩) ?_ ?_
                                        rotate_left
                                        · intro w'
                                          go_simp
                                          with_reducible rfl
                                        rotate_left
                                        · simp only [Act.put, List.setIfInBounds_toArray, List.set_cons_zero, List.set_cons_succ, i64_w, i32_w]
                                          rfl
                                        refine pure_ (i := 10) (N := some 93) (v := ?_) (a' := ?_) #[true, false, false, true, true, true, true, true, true, false, true, false, false, false, false, false, false] rfl rfl (any_of HT_.out (by kernel_rfl)) (fun _ _ _ h => h) (Or.inl ⟨by rfl, ?_⟩) ?_ ?_
                                        rotate_left
                                        · intro w'
                                          go_simp
                                          with_reducible rfl
                                        rotate_left
                                        · simp only [Act.put, List.setIfInBounds_toArray, List.set_cons_zero, List.set_cons_succ, i64_w, i32_w]
                                          rfl
                                        refine pure_ (i := 11) (N := some 94) (v := ?_) (a' := ?_) #[true, false, false, true, true, true, true, true, true, false, true, true, false, false, false, false, false] rfl rfl (any_of HT_.out (by kernel_rfl)) (fun _ _ _ h => h) (Or.inl ⟨by rfl, ?_⟩) ?_ ?_
                                        rotate_left
                                        · intro w'
                                          go_simp
                                          with_reducible rfl
                                        rotate_left
                                        · simp only [Act.put, List.setIfInBounds_toArray, List.set_cons_zero, List.set_cons_succ, i64_w, i32_w]
                                          rfl
                                        refine pure_ (i := 12) (N := some 95) (v := ?_) (a' := ?_) #[true, false, false, true, true, true, true, true, true, false, true, true, true, false, false, false, false] rfl rfl (any_of HT_.out (by kernel_rfl)) (fun _ _ _ h => h) (Or.inl ⟨by rfl, ?_⟩) ?_ ?_
                                        rotate_left
                                        · intro w'
                                          go_simp
                                          with_reducible rfl
                                        rotate_left
                                        · simp only [Act.put, List.setIfInBounds_toArray, List.set_cons_zero, List.set_cons_succ, i64_w, i32_w]
                                          rfl
                                        refine pure_ (i := 13) (N := some 96) (v := ?_) (a' := ?_) #[true, false, false, true, true, true, true, true, true, false, true, true, true, true, false, false, false] rfl rfl (any_of HT_.out (by kernel_rfl)) (fun _ _ _ h => h) (Or.inl ⟨by rfl, ?_⟩) ?_ ?_
                                        rotate_left
                                        · intro w'
                                          go_simp
                                          with_reducible rfl
                                        rotate_left
                                        · simp only [Act.put, List.setIfInBounds_toArray, List.set_cons_zero, List.set_cons_succ, i64_w, i32_w]
                                          rfl
                                        refine pure_ (i := 14) (N := some 97) (v := ?_) (a' := ?_) #[true, false, false, true, true, true, true, true, true, false, true, true, true, true, true, false, false] rfl rfl (any_of HT_.out (by kernel_rfl)) (fun _ _ _ h => h) (Or.inl ⟨by rfl, ?_⟩) ?_ ?_
                                        rotate_left
                                        · intro w'
                                          go_simp
                                          with_reducible rfl
                                        rotate_left
                                        · simp only [Act.put, List.setIfInBounds_toArray, List.set_cons_zero, List.set_cons_succ, i64_w, i32_w]
                                          rfl
                                        refine take_ (i := 1) (N := some 84) (v := ?_) (a' := ?_) #[true, true, false, true, true, true, true, true, true, false, true, true, true, true, true, false, false] rfl rfl (take_ofW HT_.out HW_.out (by kernel_rfl)) (fun _ _ _ h => h) (Or.inl ⟨by rfl, ?_⟩) hHeld ?_ ?_
                                        rotate_left
                                        · intro w' _
                                          go_simp
                                          with_reducible rfl
                                        rotate_left
                                        · simp only [Act.put, List.setIfInBounds_toArray, List.set_cons_zero, List.set_cons_succ, i64_w, i32_w]
                                          rfl
                                        refine pure_ (i := 2) (N := some 85) (v := ?_) (a' := ?_) #[true, true, true, true, true, true, true, true, true, false, true, true, true, true, true, false, false] rfl rfl (any_of HT_.out (by kernel_rfl)) (fun _ _ _ h => h) (Or.inl ⟨by rfl, ?_⟩) ?_ ?_
                                        rotate_left
                                        · intro w'
                                          go_simp
                                          with_reducible rfl
                                        rotate_left
                                        · simp only [Act.put, List.setIfInBounds_toArray, List.set_cons_zero, List.set_cons_succ, i64_w, i32_w]
                                          rfl
                                        refine pure_ (i := 9) (N := some 92) (v := ?_) (a' := ?_) #[true, true, true, true, true, true, true, true, true, true, true, true, true, true, true, false, false] rfl rfl (any_of HT_.out (by kernel_rfl)) (fun _ _ _ h => h) (Or.inl ⟨by rfl, ?_⟩) ?_ ?_
                                        rotate_left
                                        · intro w'
                                          go_simp
                                          with_reducible rfl
                                        rotate_left
                                        · simp only [Act.put, List.setIfInBounds_toArray, List.set_cons_zero, List.set_cons_succ, i64_w, i32_w]
                                          rfl
                                        refine pure_ (i := 15) (N := some 98) (v := ?_) (a' := ?_) #[true, true, true, true, true, true, true, true, true, true, true, true, true, true, true, true, false] rfl rfl (any_of HT_.out (by kernel_rfl)) (fun _ _ _ h => h) (Or.inl ⟨by rfl, ?_⟩) ?_ ?_
                                        rotate_left
                                        · intro w'
                                          go_simp
                                          with_reducible rfl
                                        rotate_left
                                        · simp only [Act.put, List.setIfInBounds_toArray, List.set_cons_zero, List.set_cons_succ, i64_w, i32_w]
                                          rfl
                                        refine one_ (i := 16) (N := none) #[true, true, true, true, true, true, true, true, true, true, true, true, true, true, true, true, true] rfl rfl (one_of HT_.out (by kernel_rfl)) (by decide) (fun K hK => ?_)
                                        have hs49 : w48.cell? ⟨gb122, 0, none⟩ = some (.int .i64 x123000_17) := (blk_cell BK122.out 0).trans rfl
                                        have hfs49 := blk_frozen BK122.out 0
                                        have hs50 : w48.cell? ⟨gb122, 1, none⟩ = some (.string x123001_17) := (blk_cell BK122.out 1).trans rfl
                                        have hfs50 := blk_frozen BK122.out 1
                                        have hs51 : w48.cell? ⟨gb122, 2, none⟩ = some (.int .i64 x123002_17) := (blk_cell BK122.out 2).trans rfl
                                        have hfs51 := blk_frozen BK122.out 2
                                        have hs52 : w48.cell? ⟨gb122, 3, none⟩ = some (.int .i64 x123003_17) := (blk_cell BK122.out 3).trans rfl
                                        have hfs52 := blk_frozen BK122.out 3
                                        refine skip_ (w1 := ?_) (by rfl) rfl ?_ ?_
                                        rotate_left
                                        · go_simp
                                          rfl
                                        refine hK.out _ _ trivial (fun hHeld => ?_)
                                        clear hK K
                                        refine done_ (done_of HT_.out (by kernel_rfl)) ?_
                                        try go_wp2
                                        refine bodyPost_ret (results_cell_row rfl _ _ gb122 39 #[.int .i64 (wrap64 (bt (a0.extract (x1_2 : Int).toNat a0.size) 0)), .string ((a0.extract (x1_2 : Int).toNat a0.size).extract (x6_17 : Int).toNat ((wrap64 (x6_17 + x7_17)) : Int).toNat), .int .i64 (wrap64 (x1_2 + (wrap64 (x6_17 + x7_17)))), .int .i64 0] (0, 0) _ rfl (by (with_reducible repeat (first | refine blk_drewN ?_ _ | refine blk_drew ?_ | refine blk_alloc ?_ _)); refine blk_put (cs := #[.int .i64 (wrap64 (bt (a0.extract (x1_2 : Int).toNat a0.size) 0)), .string ((a0.extract (x1_2 : Int).toNat a0.size).extract (x6_17 : Int).toNat ((wrap64 (x6_17 + x7_17)) : Int).toNat), .int .i64 (wrap64 (x1_2 + (wrap64 (x6_17 + x7_17)))), .int .i64 x123003_17]) ?_ 3 _ rfl; (with_reducible repeat (first | refine blk_drewN ?_ _ | refine blk_drew ?_ | refine blk_alloc ?_ _)); refine blk_put (cs := #[.int .i64 (wrap64 (bt (a0.extract (x1_2 : Int).toNat a0.size) 0)), .string ((a0.extract (x1_2 : Int).toNat a0.size).extract (x6_17 : Int).toNat ((wrap64 (x6_17 + x7_17)) : Int).toNat), .int .i64 x123002_17, .int .i64 x123003_17]) ?_ 2 _ rfl; (with_reducible repeat (first | refine blk_drewN ?_ _ | refine blk_drew ?_ | refine blk_alloc ?_ _)); refine blk_put (cs := #[.int .i64 (wrap64 (bt (a0.extract (x1_2 : Int).toNat a0.size) 0)), .string x123001_17, .int .i64 x123002_17, .int .i64 x123003_17]) ?_ 1 _ rfl; (with_reducible repeat (first | refine blk_drewN ?_ _ | refine blk_drew ?_ | refine blk_alloc ?_ _)); refine blk_put (cs := #[.int .i64 x123000_17, .string x123001_17, .int .i64 x123002_17, .int .i64 x123003_17]) ?_ 0 _ rfl; (with_reducible repeat (first | refine blk_drewN ?_ _ | refine blk_drew ?_ | refine blk_alloc ?_ _)); exact BK122.out) Try.underlying39 rfl (by kernel_rfl)) rfl ?_
                                        exact ⟨by first | rfl | (simp [errW_none, errW_some] <;> rfl) | (simp [*, errW_none, errW_some] <;> rfl), by repeat (first | (with_reducible first | exact HB.out | apply below_alloc | apply pw_below_drewN | apply below_drew1 | refine below_set ?_ GE122.out) | exact HB.out)⟩
                                      · rw [if_neg c47] at H
                                        exact absurd H (by simp)
                                    · rw [if_neg c46] at H
                                      exact absurd H (by simp)
                                  · rw [if_neg c45] at H
                                    exact absurd H (by simp)
                                · rw [if_neg c43] at H
                                  exact absurd H (by simp)
                  · rw [if_neg c16] at H
                    exact absurd H (by simp)
              · replace c13 := Bool.eq_false_iff.mpr c13
                subst c13
                have H1 : (some (0, (⟨#[]⟩ : ByteArray), 0, 3)) = some (r1, r2, r3, r4) := by rw [if_neg (show ¬ (false = true) by decide)] at H; exact H
                clear H
                have H := H1
                clear H1
                simp only [Option.some.injEq, Prod.mk.injEq] at H
                obtain ⟨rfl, rfl, rfl, rfl⟩ := H
                have p11 : 0 ≤ (0 : Int) := (by omega)
                have q11 : 0 < (a0.extract (x1_2 : Int).toNat a0.size).size := (by have : (0 : Int) < ((a0.extract (x1_2 : Int).toNat a0.size).size : Int) := of_decide_eq_true (by first | (with_reducible assumption) | assumption); omega)
                have hx11 : ∀ h : 0 < (a0.extract (x1_2 : Int).toNat a0.size).size, (((a0.extract (x1_2 : Int).toNat a0.size)[0]'h).toNat : Int) = bt (a0.extract (x1_2 : Int).toNat a0.size) 0 := bt_at (a0.extract (x1_2 : Int).toNat a0.size) 0
                clear p11
                have qi11 : (0 < ((a0.extract (x1_2 : Int).toNat a0.size).size : Int)) = True := eq_true (of_decide_eq_true (by first | (with_reducible assumption) | assumption))
                (try (have qm11 := q11; simp only [ByteArray.size_extract, ByteArray.size_append, Nat.min_self] at qm11; replace qm11 := eq_true qm11))
                (try (have qn11 := qi11; simp only [ByteArray.size_extract, ByteArray.size_append, Nat.min_self] at qn11))
                replace q11 := eq_true q11
                go_wp2_with (first | ((with_reducible refine gate_callee (f := 67) rfl ?_); refine goesL_ (some 24) rfl rfl Try.func67 (by kernel_rfl) rfl #[.int .i64 (wrap64 (bt (a0.extract (x1_2 : Int).toNat a0.size) 0))] rfl (by (try simp only [List.map_toArray, List.map_cons, List.map_nil]); first | done | rfl | (simp only [List.length_drop, List.length_take]; rfl)) ?_; (with_reducible refine (impl_isTag.calls (wrap64 (bt (a0.extract (x1_2 : Int).toNat a0.size) 0)) false _ A12.out).mono ?_); rintro e w' ⟨rfl, ⟨nd, rfl⟩⟩; refine ⟨_, rfl, ?_⟩; (try (rw [drewN_self wc]; generalize hq_ : World.drewN wc _ = wc; have n0_ : Aside0 (wc.heap[gb122]? = some (.cells #[.int .i64 0, .string (⟨#[]⟩ : ByteArray), .int .i64 0, .int .i64 0] 39 (0, 0))) := ⟨by rw [← hq_]; exact (by (with_reducible repeat (first | refine blk_drewN ?_ _ | refine blk_drew ?_ | refine blk_alloc ?_ _)); exact BK122.out)⟩; have n1_ : Aside0 (Below w.heap.size w wc) := ⟨by rw [← hq_]; exact (by repeat (first | (with_reducible first | exact HB.out | apply below_alloc | apply pw_below_drewN | apply below_drew1 | refine below_set ?_ GE122.out) | exact HB.out))⟩; clear BK122 HB hq_; have BK122 := n0_; have HB := n1_; clear n0_ n1_)); have hcz53_0 : wc.cell? ⟨gb122, 0, none⟩ = some (.int .i64 0) := (blk_cell BK122.out 0).trans rfl; have hcz53_1 : wc.cell? ⟨gb122, 1, none⟩ = some (.string (⟨#[]⟩ : ByteArray)) := (blk_cell BK122.out 1).trans rfl; have hcz53_2 : wc.cell? ⟨gb122, 2, none⟩ = some (.int .i64 0) := (blk_cell BK122.out 2).trans rfl; have hcz53_3 : wc.cell? ⟨gb122, 3, none⟩ = some (.int .i64 0) := (blk_cell BK122.out 3).trans rfl; have hfz53_0 := blk_frozen BK122.out 0; have hfz53_1 := blk_frozen BK122.out 1; have hfz53_2 := blk_frozen BK122.out 2; have hfz53_3 := blk_frozen BK122.out 3))
                refine bodyPost_ret (results_cell_row rfl _ _ gb122 39 #[.int .i64 0, .string (⟨#[]⟩ : ByteArray), .int .i64 0, .int .i64 3] (0, 0) _ rfl (by (with_reducible repeat (first | refine blk_drewN ?_ _ | refine blk_drew ?_ | refine blk_alloc ?_ _)); refine blk_put (cs := #[.int .i64 0, .string (⟨#[]⟩ : ByteArray), .int .i64 0, .int .i64 0]) ?_ 3 _ rfl; (with_reducible repeat (first | refine blk_drewN ?_ _ | refine blk_drew ?_ | refine blk_alloc ?_ _)); refine blk_put (cs := #[.int .i64 0, .string (⟨#[]⟩ : ByteArray), .int .i64 0, .int .i64 0]) ?_ 2 _ rfl; (with_reducible repeat (first | refine blk_drewN ?_ _ | refine blk_drew ?_ | refine blk_alloc ?_ _)); refine blk_put (cs := #[.int .i64 0, .string (⟨#[]⟩ : ByteArray), .int .i64 0, .int .i64 0]) ?_ 1 _ rfl; (with_reducible repeat (first | refine blk_drewN ?_ _ | refine blk_drew ?_ | refine blk_alloc ?_ _)); refine blk_put (cs := #[.int .i64 0, .string (⟨#[]⟩ : ByteArray), .int .i64 0, .int .i64 0]) ?_ 0 _ rfl; (with_reducible repeat (first | refine blk_drewN ?_ _ | refine blk_drew ?_ | refine blk_alloc ?_ _)); exact BK122.out) Try.underlying39 rfl (by kernel_rfl)) rfl ?_
                exact ⟨by first | rfl | (simp [errW_none, errW_some] <;> rfl) | (simp [*, errW_none, errW_some] <;> rfl), by repeat (first | (with_reducible first | exact HB.out | apply below_alloc | apply pw_below_drewN | apply below_drew1 | refine below_set ?_ GE122.out) | exact HB.out)⟩
            · rw [if_neg c10] at H
              exact absurd H (by simp)
        · rw [if_neg c7] at H
          exact absurd H (by simp)
      · rw [if_neg c6] at H
        exact absurd H (by simp)

end Go.Proofs.Yticbafilcicdjaa.PFnExactBerGet
