-- Laid by this session's own program out of the translation; Lean checks it.
import Derived.Test.YtmkeigielncpjaaGreatDoorQFnExactFilterReadx0
import Derived.Test.YtmkeigielncpjaaGreatDoorQFnExactFilterReadx16
namespace Go.Proofs.YtmkeigielncpjaaGreatDoor.PFnExactFilterRead
open Go.RowKit Go.Proofs.YtmkeigielncpjaaGreatDoorW.PrintWords Go.Proofs.YtmkeigielncpjaaGreatDoorW.PrintLast Go.Proofs.YtmkeigielncpjaaGreatDoorW.PrintMore
attribute [local go_sem] max2_int min2_int max_two min_two max_three min_three max_four min_four   -- for this text's walks alone
set_option linter.unusedVariables false
set_option linter.unusedSimpArgs false
def Gv.l0 : Nat → List (S64) → Int → Int → Option (Int)
 | 0, _, _, _ => none
 | k + 1, x0, x1, x5 => if x5 < (x0.length : Int) then (if 0 ≤ x5 then (if ((rd_T64 x0 x5).f0) = x1 then ((Gy.f k (wrap64 (x1 + 1))).bind fun t299 => (if ((rd_T64 x0 x5).f1).toList = t299.toList then ((Gy.f k (wrap64 ((wrap64 (x1 + 1)) + 1))).bind fun t301 => (if ((rd_T64 x0 x5).f2).toList = t301.toList then (if ((rd_T64 x0 x5).f3) = (wrap64 ((wrap64 ((wrap64 (x1 + 1)) + 1)) + 1)) then (Gv.l0 k x0 (wrap64 ((wrap64 ((wrap64 ((wrap64 (x1 + 1)) + 1)) + 1)) + 1)) (wrap64 (x5 + 1))) else (some (-1))) else (some (-1)))) else (some (-1)))) else (some (-1))) else (none)) else (some x1)
def Gv.f (k : Nat) (l0 : List (S64)) (a1 : Int) : Option (Int) := Gv.l0 k l0 a1 0
theorem Gv.mono_l : ∀ k, (∀ y0 y1 y2, LeO (Gv.l0 k y0 y1 y2) (Gv.l0 (k + 1) y0 y1 y2))
 | 0 => fun _ _ _ r h => by simp [Gv.l0] at h
 | k + 1 => by
  have ih0 := Gv.mono_l k
  ·intro y0 y1 y2
   unfold Gv.l0
   repeat' first
   | (with_reducible exact ih0 _ _ _)
   | (with_reducible exact Gy.mono _ _)
   | (with_reducible exact LeO.refl _)
   | (with_reducible exact LeO.none _)
   | (with_reducible refine LeO.ite ?_ ?_)
   | (with_reducible refine LeO.bind ?_ (fun _ => ?_))
   | exact ih0 _ _ _
   | exact Gy.mono _ _
   | exact LeO.none _
   | refine LeO.ite ?_ ?_
   | refine LeO.bind ?_ (fun _ => ?_)
theorem Gv.mono : ∀ a0 a1 k, LeO (Gv.f k a0 a1) (Gv.f (k + 1) a0 a1) := by
 intro a0 a1 k
 have ih0 := Gv.mono_l k
 unfold Gv.f
 repeat' first
   | (with_reducible exact ih0 _ _ _)
   | (with_reducible exact Gy.mono _ _)
   | (with_reducible exact LeO.refl _)
   | (with_reducible exact LeO.none _)
   | (with_reducible refine LeO.ite ?_ ?_)
   | (with_reducible refine LeO.bind ?_ (fun _ => ?_))
   | exact ih0 _ _ _
   | exact Gy.mono _ _
   | exact LeO.none _
   | refine LeO.ite ?_ ?_
   | refine LeO.bind ?_ (fun _ => ?_)
def Gv.T7 : Bool × List (List Nat × List Nat) := (true, [([], []), ([], []), ([0, 1], [0, 1]), ([2], [2]), ([3], [3]), ([], []), ([5], [5]), ([4, 6], [4, 6])])
def Gv.B7 : List Nat := [0, 0, 3, 7, 15, 0, 32, 127]
theorem Gv.tab7 : rtab .any (opsOf Tryz.f46 7) = Gv.T7 := by kernel_rfl
theorem Gv.bits7 : waitsOk Gv.T7.2 Gv.B7 = true := by kernel_rfl
def Gv.T10 : Bool × List (List Nat × List Nat) := (true, [([], []), ([], []), ([0, 1], [0, 1]), ([2], [2]), ([3], [3]), ([], []), ([5], [5]), ([4, 6], [4, 6])])
def Gv.B10 : List Nat := [0, 0, 3, 7, 15, 0, 32, 127]
theorem Gv.tab10 : rtab .any (opsOf Tryz.f46 10) = Gv.T10 := by kernel_rfl
theorem Gv.bits10 : waitsOk Gv.T10.2 Gv.B10 = true := by kernel_rfl
set_option maxHeartbeats 8000000 in
set_option maxRecDepth 100000 in
theorem Gv.calls (k : Nat) (A0 : Option Addr) (c0 : Nat) (l0 : List (S64)) (a1 : Int) (r : Int) (w : World) (hr0 : Kd.C k64 w A0 l0.length l0) (hc0 : l0.length ≤ c0) (h : Gv.f k l0 a1 = some r) :
  Calls Tryz.prog 46 #[.slice A0 l0.length c0, .int .i64 a1] w fun e w' => e = .returned (.int .i64 r) ∧ Below w.heap.size w w' := by
 have HR0 := Aside0.mk hr0
 have HC0 := Aside0.mk hc0
 clear hr0 hc0
 have HB := Aside0.mk (Below.refl w.heap.size w)
 have H : (Gv.l0 k l0 a1 0) = some r := h
 clear h
 have H' := Aside0.mk H
 clear H
 go_enter Tryz.func46, Tryz.ntmps46
 go_wp2
 go_loopg [1, 5] k (fun kq v1 v5 w' => ∃ (x1_1 : Int) (x5_1 : Int), v1 = .int .i64 x1_1 ∧ v5 = .int .i64 x5_1 ∧ Aside0 (Gv.l0 kq l0 x1_1 x5_1 = some r) ∧ Aside0 (kq ≤ k) ∧ Aside0 (Below w.heap.size w w'))
 case atStart => exact ⟨(a1), (0), EZc, EZc, H', ⟨Nat.le_refl _⟩, ⟨HBa⟩⟩
 case round =>
  clear H'
  try clear p2
  obtain ⟨x1_1, x5_1, rfl, rfl, HA, HK1, HB⟩ := hrel
  cases gk with
  | zero => exact absurd HA.out (by simp [Gv.l0])
  | succ k1 =>
   have H := HA.out
   clear HA
   simp only [Gv.l0] at H
   by_cases c3 : x5_1 < (l0.length : Int)
   rotate_left
   ·rw [if_neg c3] at H
    have c3b0 : decide (x5_1 < (l0.length : Int)) = false := decide_eq_false c3
    clear c3
    obtain rfl := Option.some.inj H
    simp only [Option.some.injEq, Prod.mk.injEq] at H
    obtain ⟨rfl⟩ := H
    go_wp2
    go_ret
    exact ⟨EZa, HBa⟩
   rw [if_pos c3] at H
   have c3b0 : decide (x5_1 < (l0.length : Int)) = true := decide_eq_true c3
   clear c3
   by_cases c4 : 0 ≤ x5_1
   rotate_left
   ·rw [if_neg c4] at H
    exact absurd H (by simp)
   rw [if_pos c4] at H
   have c4b0 : decide (0 ≤ x5_1) = true := decide_eq_true c4
   clear c4
   by_cases c5 : ((rd_T64 l0 x5_1).f0) = x1_1
   rotate_left
   ·rw [if_neg c5] at H
    have c5b0 : (((rd_T64 l0 x5_1).f0) == x1_1) = false := beq_eq_false_iff_ne.mpr c5
    have c5b1 : (((rd_T64 l0 x5_1).f0) != x1_1) = true := bne_iff_ne.mpr c5
    obtain rfl := Option.some.inj H
    simp only [Option.some.injEq, Prod.mk.injEq] at H
    obtain ⟨rfl⟩ := H
    have p297 : 0 ≤ (x5_1 : Int) := ODz
    have q297 : x5_1 < (l0.length : Int) := ODz
    obtain ⟨ad297, e297, hx297_0, hx297_1, hx297_2, hx297_3⟩ := at_T64 HR0.out x5_1 p297 q297
    cases e297
    replace hx297_0 := HXz HB hx297_0
    replace hx297_1 := HXz HB hx297_1
    replace hx297_2 := HXz HB hx297_2
    replace hx297_3 := HXz HB hx297_3
    replace p297 := eq_true p297
    replace q297 := eq_true q297
    go_wp2
    go_ret
    exact ⟨EZa, HBa⟩
   rw [if_pos c5] at H
   have c5b0 : (((rd_T64 l0 x5_1).f0) == x1_1) = true := beq_iff_eq.mpr c5
   have c5b1 : (((rd_T64 l0 x5_1).f0) != x1_1) = false := bne_eq_false_iff_eq.mpr c5
   clear c5
   replace H := Option.bind_eq_some_iff.mp H
   obtain ⟨t299, A60, H⟩ := H
   replace H : (if ((rd_T64 l0 x5_1).f1).toList = t299.toList then ((Gy.f k1 (wrap64 ((wrap64 (x1_1 + 1)) + 1))).bind fun t301 => (if ((rd_T64 l0 x5_1).f2).toList = t301.toList then (if ((rd_T64 l0 x5_1).f3) = (wrap64 ((wrap64 ((wrap64 (x1_1 + 1)) + 1)) + 1)) then (Gv.l0 k1 l0 (wrap64 ((wrap64 ((wrap64 ((wrap64 (x1_1 + 1)) + 1)) + 1)) + 1)) (wrap64 (x5_1 + 1))) else (some (-1))) else (some (-1)))) else (some (-1))) = some r := H
   have A6 := Aside0.mk A60
   clear A60
   by_cases c7 : ((rd_T64 l0 x5_1).f1).toList = t299.toList
   rotate_left
   ·rw [if_neg c7] at H
    have c7b0 : (((rd_T64 l0 x5_1).f1).toList == t299.toList) = false := beq_eq_false_iff_ne.mpr c7
    have c7b1 : (((rd_T64 l0 x5_1).f1).toList != t299.toList) = true := bne_iff_ne.mpr c7
    obtain rfl := Option.some.inj H
    simp only [Option.some.injEq, Prod.mk.injEq] at H
    obtain ⟨rfl⟩ := H
    have p297 : 0 ≤ (x5_1 : Int) := ODz
    have q297 : x5_1 < (l0.length : Int) := ODz
    obtain ⟨ad297, e297, hx297_0, hx297_1, hx297_2, hx297_3⟩ := at_T64 HR0.out x5_1 p297 q297
    cases e297
    replace hx297_0 := HXz HB hx297_0
    replace hx297_1 := HXz HB hx297_1
    replace hx297_2 := HXz HB hx297_2
    replace hx297_3 := HXz HB hx297_3
    replace p297 := eq_true p297
    replace q297 := eq_true q297
    try go_wp2
    have n0_ := Aside0.mk (below_drew1 HB.out)
    clear HB
    have HB := n0_
    clear n0_
    have p298 : 0 ≤ (x5_1 : Int) := ODz
    have q298 : x5_1 < (l0.length : Int) := ODz
    obtain ⟨ad298, e298, hx298_0, hx298_1, hx298_2, hx298_3⟩ := at_T64 HR0.out x5_1 p298 q298
    have hw298_3 := hx298_3
    have hw298_2 := hx298_2
    have hw298_1 := hx298_1
    have hw298_0 := hx298_0
    obtain rfl : ad297 = ad298 := (by injection e298)
    replace hx298_0 := HXz HB hx298_0
    replace hx298_1 := HXz HB hx298_1
    replace hx298_2 := HXz HB hx298_2
    replace hx298_3 := HXz HB hx298_3
    replace p298 := eq_true p298
    replace q298 := eq_true q298
    refine start_ (n := 8) (S := fun w' => w'.cell? (ad297.add ((x5_1).toNat * 4)) = some (.int .i64 ((rd_T64 l0 x5_1).f0)) ∧ w'.cell? ⟨(ad297.add ((x5_1).toNat * 4)).block, (ad297.add ((x5_1).toNat * 4)).off + 1, none⟩ = some (.string ((rd_T64 l0 x5_1).f1)) ∧ w'.cell? ⟨(ad297.add ((x5_1).toNat * 4)).block, (ad297.add ((x5_1).toNat * 4)).off + 2, none⟩ = some (.string ((rd_T64 l0 x5_1).f2)) ∧ w'.cell? ⟨(ad297.add ((x5_1).toNat * 4)).block, (ad297.add ((x5_1).toNat * 4)).off + 3, none⟩ = some (.int .i64 ((rd_T64 l0 x5_1).f3))) (ds := []) (bz 8 0) (by kernel_rfl) rfl (by kernel_rfl) ⟨(HXz HB hw298_0 :), (HXz HB hw298_1 :), (HXz HB hw298_2 :), (HXz HB hw298_3 :)⟩ (fun hHeld => ?_); refine with_tabW Gv.tab7 Gv.bits7 (fun HT_ HW_ => ?_)
    generalize wr.drew = w23 at HB hx298_0 hx298_1 hx298_2 hx298_3 hHeld ⊢
    refine PYz 0 21 (bz 8 1) rfl rfl (any_of HT_.out (by kernel_rfl)) ?_
    refine PYz 1 22 (bz 8 3) rfl rfl (any_of HT_.out (by kernel_rfl)) ?_
    refine PYz 2 23 (bz 8 7) rfl rfl (any_of HT_.out (by kernel_rfl)) ?_
    refine PYz 3 24 (bz 8 15) rfl rfl (any_of HT_.out (by kernel_rfl)) ?_
    refine PYz 5 26 (bz 8 47) rfl rfl (any_of HT_.out (by kernel_rfl)) ?_
    refine take_ (i := 4) (N := some 25) (v := ?_) (a' := ?_) (bz 8 63) rfl rfl (take_ofW HT_.out HW_.out (by kernel_rfl)) (fun _ _ _ h => h) (Or.inl ⟨by rfl, ?_⟩) hHeld ?_ ?_
    rotate_left
    ·rintro w' ⟨s0, s1, s2, s3⟩
     go_simp
     with_reducible rfl
    rotate_left
    ·simp only [PUz]
     rfl
    refine one_ (i := 6) (N := some 27) (bz 8 127) rfl rfl (one_of HT_.out (by kernel_rfl)) (by decide) (fun K hK => ?_)
    refine goes_ Tryz.func85 (by kernel_rfl) rfl #[.int .i64 (wrap64 (x1_1 + 1))] (by rfl) rfl rfl MPz ?_
    with_reducible refine (Gy.calls k1 (wrap64 (x1_1 + 1)) t299 _ A6.out).mono ?_
    rintro e w24 ⟨rfl, hb⟩
    refine ⟨_, rfl, ?_⟩
    have n0_ := Aside0.mk (below_step HBa hb)
    clear HB
    have HB := n0_
    clear n0_
    (try clear hb)
    (try clear hb2)
    (try clear hk)
    (try clear hi)
    refine hK.out _ _ ⟨(HXz HB hw298_0 :), (HXz HB hw298_1 :), (HXz HB hw298_2 :), (HXz HB hw298_3 :)⟩ (fun hHeld => ?_)
    clear hK K
    refine norm_ (a' := ?_) ?_ ?_
    rotate_left
    ·show Act.put _ (some 27) _ = _
     simp only [PUz]
     rfl
    refine PYz 7 28 (bz 8 255) rfl rfl (any_of HT_.out (by kernel_rfl)) ?_
    refine done_ (done_of HT_.out (by kernel_rfl)) ?_
    try go_wp2
    go_ret
    exact ⟨EZa, HBa⟩
   rw [if_pos c7] at H
   have c7b0 : (((rd_T64 l0 x5_1).f1).toList == t299.toList) = true := beq_iff_eq.mpr c7
   have c7b1 : (((rd_T64 l0 x5_1).f1).toList != t299.toList) = false := bne_eq_false_iff_eq.mpr c7
   clear c7
   replace H := Option.bind_eq_some_iff.mp H
   obtain ⟨t301, A80, H⟩ := H
   replace H : (if ((rd_T64 l0 x5_1).f2).toList = t301.toList then (if ((rd_T64 l0 x5_1).f3) = (wrap64 ((wrap64 ((wrap64 (x1_1 + 1)) + 1)) + 1)) then (Gv.l0 k1 l0 (wrap64 ((wrap64 ((wrap64 ((wrap64 (x1_1 + 1)) + 1)) + 1)) + 1)) (wrap64 (x5_1 + 1))) else (some (-1))) else (some (-1))) = some r := H
   have A8 := Aside0.mk A80
   clear A80
   by_cases c9 : ((rd_T64 l0 x5_1).f2).toList = t301.toList
   rotate_left
   ·rw [if_neg c9] at H
    have c9b0 : (((rd_T64 l0 x5_1).f2).toList == t301.toList) = false := beq_eq_false_iff_ne.mpr c9
    have c9b1 : (((rd_T64 l0 x5_1).f2).toList != t301.toList) = true := bne_iff_ne.mpr c9
    obtain rfl := Option.some.inj H
    simp only [Option.some.injEq, Prod.mk.injEq] at H
    obtain ⟨rfl⟩ := H
    have p297 : 0 ≤ (x5_1 : Int) := ODz
    have q297 : x5_1 < (l0.length : Int) := ODz
    obtain ⟨ad297, e297, hx297_0, hx297_1, hx297_2, hx297_3⟩ := at_T64 HR0.out x5_1 p297 q297
    cases e297
    replace hx297_0 := HXz HB hx297_0
    replace hx297_1 := HXz HB hx297_1
    replace hx297_2 := HXz HB hx297_2
    replace hx297_3 := HXz HB hx297_3
    replace p297 := eq_true p297
    replace q297 := eq_true q297
    try go_wp2
    have n0_ := Aside0.mk (below_drew1 HB.out)
    clear HB
    have HB := n0_
    clear n0_
    have p298 : 0 ≤ (x5_1 : Int) := ODz
    have q298 : x5_1 < (l0.length : Int) := ODz
    obtain ⟨ad298, e298, hx298_0, hx298_1, hx298_2, hx298_3⟩ := at_T64 HR0.out x5_1 p298 q298
    have hw298_3 := hx298_3
    have hw298_2 := hx298_2
    have hw298_1 := hx298_1
    have hw298_0 := hx298_0
    obtain rfl : ad297 = ad298 := (by injection e298)
    replace hx298_0 := HXz HB hx298_0
    replace hx298_1 := HXz HB hx298_1
    replace hx298_2 := HXz HB hx298_2
    replace hx298_3 := HXz HB hx298_3
    replace p298 := eq_true p298
    replace q298 := eq_true q298
    refine start_ (n := 8) (S := fun w' => w'.cell? (ad297.add ((x5_1).toNat * 4)) = some (.int .i64 ((rd_T64 l0 x5_1).f0)) ∧ w'.cell? ⟨(ad297.add ((x5_1).toNat * 4)).block, (ad297.add ((x5_1).toNat * 4)).off + 1, none⟩ = some (.string ((rd_T64 l0 x5_1).f1)) ∧ w'.cell? ⟨(ad297.add ((x5_1).toNat * 4)).block, (ad297.add ((x5_1).toNat * 4)).off + 2, none⟩ = some (.string ((rd_T64 l0 x5_1).f2)) ∧ w'.cell? ⟨(ad297.add ((x5_1).toNat * 4)).block, (ad297.add ((x5_1).toNat * 4)).off + 3, none⟩ = some (.int .i64 ((rd_T64 l0 x5_1).f3))) (ds := []) (bz 8 0) (by kernel_rfl) rfl (by kernel_rfl) ⟨(HXz HB hw298_0 :), (HXz HB hw298_1 :), (HXz HB hw298_2 :), (HXz HB hw298_3 :)⟩ (fun hHeld => ?_); refine with_tabW Gv.tab7 Gv.bits7 (fun HT_ HW_ => ?_)
    generalize wr.drew = w19 at HB hx298_0 hx298_1 hx298_2 hx298_3 hHeld ⊢
    refine PYz 0 21 (bz 8 1) rfl rfl (any_of HT_.out (by kernel_rfl)) ?_
    refine PYz 1 22 (bz 8 3) rfl rfl (any_of HT_.out (by kernel_rfl)) ?_
    refine PYz 2 23 (bz 8 7) rfl rfl (any_of HT_.out (by kernel_rfl)) ?_
    refine PYz 3 24 (bz 8 15) rfl rfl (any_of HT_.out (by kernel_rfl)) ?_
    refine PYz 5 26 (bz 8 47) rfl rfl (any_of HT_.out (by kernel_rfl)) ?_
    refine take_ (i := 4) (N := some 25) (v := ?_) (a' := ?_) (bz 8 63) rfl rfl (take_ofW HT_.out HW_.out (by kernel_rfl)) (fun _ _ _ h => h) (Or.inl ⟨by rfl, ?_⟩) hHeld ?_ ?_
    rotate_left
    ·rintro w' ⟨s0, s1, s2, s3⟩
     go_simp
     with_reducible rfl
    rotate_left
    ·simp only [PUz]
     rfl
    refine one_ (i := 6) (N := some 27) (bz 8 127) rfl rfl (one_of HT_.out (by kernel_rfl)) (by decide) (fun K hK => ?_)
    refine goes_ Tryz.func85 (by kernel_rfl) rfl #[.int .i64 (wrap64 (x1_1 + 1))] (by rfl) rfl rfl MPz ?_
    with_reducible refine (Gy.calls k1 (wrap64 (x1_1 + 1)) t299 _ A6.out).mono ?_
    rintro e w20 ⟨rfl, hb⟩
    refine ⟨_, rfl, ?_⟩
    have n0_ := Aside0.mk (below_step HBa hb)
    clear HB
    have HB := n0_
    clear n0_
    (try clear hb)
    (try clear hb2)
    (try clear hk)
    (try clear hi)
    refine hK.out _ _ ⟨(HXz HB hw298_0 :), (HXz HB hw298_1 :), (HXz HB hw298_2 :), (HXz HB hw298_3 :)⟩ (fun hHeld => ?_)
    clear hK K
    refine norm_ (a' := ?_) ?_ ?_
    rotate_left
    ·show Act.put _ (some 27) _ = _
     simp only [PUz]
     rfl
    refine PYz 7 28 (bz 8 255) rfl rfl (any_of HT_.out (by kernel_rfl)) ?_
    refine done_ (done_of HT_.out (by kernel_rfl)) ?_
    try go_wp2
    have n0_ := Aside0.mk (below_drew1 HB.out)
    clear HB
    have HB := n0_
    clear n0_
    have p300 : 0 ≤ (x5_1 : Int) := ODz
    have q300 : x5_1 < (l0.length : Int) := ODz
    obtain ⟨ad300, e300, hx300_0, hx300_1, hx300_2, hx300_3⟩ := at_T64 HR0.out x5_1 p300 q300
    have hw300_3 := hx300_3
    have hw300_2 := hx300_2
    have hw300_1 := hx300_1
    have hw300_0 := hx300_0
    obtain rfl : ad297 = ad300 := (by injection e300)
    replace hx300_0 := HXz HB hx300_0
    replace hx300_1 := HXz HB hx300_1
    replace hx300_2 := HXz HB hx300_2
    replace hx300_3 := HXz HB hx300_3
    replace p300 := eq_true p300
    replace q300 := eq_true q300
    refine start_ (n := 8) (S := fun w' => w'.cell? (ad297.add ((x5_1).toNat * 4)) = some (.int .i64 ((rd_T64 l0 x5_1).f0)) ∧ w'.cell? ⟨(ad297.add ((x5_1).toNat * 4)).block, (ad297.add ((x5_1).toNat * 4)).off + 1, none⟩ = some (.string ((rd_T64 l0 x5_1).f1)) ∧ w'.cell? ⟨(ad297.add ((x5_1).toNat * 4)).block, (ad297.add ((x5_1).toNat * 4)).off + 2, none⟩ = some (.string ((rd_T64 l0 x5_1).f2)) ∧ w'.cell? ⟨(ad297.add ((x5_1).toNat * 4)).block, (ad297.add ((x5_1).toNat * 4)).off + 3, none⟩ = some (.int .i64 ((rd_T64 l0 x5_1).f3))) (ds := []) (bz 8 0) (by kernel_rfl) rfl (by kernel_rfl) ⟨(HXz HB hw300_0 :), (HXz HB hw300_1 :), (HXz HB hw300_2 :), (HXz HB hw300_3 :)⟩ (fun hHeld => ?_); refine with_tabW Gv.tab10 Gv.bits10 (fun HT_ HW_ => ?_)
    generalize w20.drew = w21 at HB hx300_0 hx300_1 hx300_2 hx300_3 hHeld ⊢
    refine PYz 0 31 (bz 8 1) rfl rfl (any_of HT_.out (by kernel_rfl)) ?_
    refine PYz 1 32 (bz 8 3) rfl rfl (any_of HT_.out (by kernel_rfl)) ?_
    refine PYz 2 33 (bz 8 7) rfl rfl (any_of HT_.out (by kernel_rfl)) ?_
    refine PYz 3 34 (bz 8 15) rfl rfl (any_of HT_.out (by kernel_rfl)) ?_
    refine PYz 5 36 (bz 8 47) rfl rfl (any_of HT_.out (by kernel_rfl)) ?_
    refine take_ (i := 4) (N := some 35) (v := ?_) (a' := ?_) (bz 8 63) rfl rfl (take_ofW HT_.out HW_.out (by kernel_rfl)) (fun _ _ _ h => h) (Or.inl ⟨by rfl, ?_⟩) hHeld ?_ ?_
    rotate_left
    ·rintro w' ⟨s0, s1, s2, s3⟩
     go_simp
     with_reducible rfl
    rotate_left
    ·simp only [PUz]
     rfl
    refine one_ (i := 6) (N := some 37) (bz 8 127) rfl rfl (one_of HT_.out (by kernel_rfl)) (by decide) (fun K hK => ?_)
    refine goes_ Tryz.func85 (by kernel_rfl) rfl #[.int .i64 (wrap64 ((wrap64 (x1_1 + 1)) + 1))] (by rfl) rfl rfl MPz ?_
    with_reducible refine (Gy.calls k1 (wrap64 ((wrap64 (x1_1 + 1)) + 1)) t301 _ A8.out).mono ?_
    rintro e w22 ⟨rfl, hb⟩
    refine ⟨_, rfl, ?_⟩
    have n0_ := Aside0.mk (below_step HBa hb)
    clear HB
    have HB := n0_
    clear n0_
    (try clear hb)
    (try clear hb2)
    (try clear hk)
    (try clear hi)
    refine hK.out _ _ ⟨(HXz HB hw300_0 :), (HXz HB hw300_1 :), (HXz HB hw300_2 :), (HXz HB hw300_3 :)⟩ (fun hHeld => ?_)
    clear hK K
    refine norm_ (a' := ?_) ?_ ?_
    rotate_left
    ·show Act.put _ (some 37) _ = _
     simp only [PUz]
     rfl
    refine PYz 7 38 (bz 8 255) rfl rfl (any_of HT_.out (by kernel_rfl)) ?_
    refine done_ (done_of HT_.out (by kernel_rfl)) ?_
    try go_wp2
    go_ret
    exact ⟨EZa, HBa⟩
   rw [if_pos c9] at H
   have c9b0 : (((rd_T64 l0 x5_1).f2).toList == t301.toList) = true := beq_iff_eq.mpr c9
   have c9b1 : (((rd_T64 l0 x5_1).f2).toList != t301.toList) = false := bne_eq_false_iff_eq.mpr c9
   clear c9
   by_cases c10 : ((rd_T64 l0 x5_1).f3) = (wrap64 ((wrap64 ((wrap64 (x1_1 + 1)) + 1)) + 1))
   rotate_left
   ·rw [if_neg c10] at H
    have c10b0 : (((rd_T64 l0 x5_1).f3) == (wrap64 ((wrap64 ((wrap64 (x1_1 + 1)) + 1)) + 1))) = false := beq_eq_false_iff_ne.mpr c10
    (try (have c10v0 := c10b0; (try rw [show wrap64 (x1_1 + 1) = x1_1 + 1 from by unfold wrap64; omega] at c10v0); (try rw [show wrap64 ((wrap64 (x1_1 + 1)) + 1) = (wrap64 (x1_1 + 1)) + 1 from by unfold wrap64; omega] at c10v0); (try rw [show wrap64 ((wrap64 ((wrap64 (x1_1 + 1)) + 1)) + 1) = (wrap64 ((wrap64 (x1_1 + 1)) + 1)) + 1 from by unfold wrap64; omega] at c10v0)))
    have c10b1 : (((rd_T64 l0 x5_1).f3) != (wrap64 ((wrap64 ((wrap64 (x1_1 + 1)) + 1)) + 1))) = true := bne_iff_ne.mpr c10
    (try (have c10v1 := c10b1; (try rw [show wrap64 (x1_1 + 1) = x1_1 + 1 from by unfold wrap64; omega] at c10v1); (try rw [show wrap64 ((wrap64 (x1_1 + 1)) + 1) = (wrap64 (x1_1 + 1)) + 1 from by unfold wrap64; omega] at c10v1); (try rw [show wrap64 ((wrap64 ((wrap64 (x1_1 + 1)) + 1)) + 1) = (wrap64 ((wrap64 (x1_1 + 1)) + 1)) + 1 from by unfold wrap64; omega] at c10v1)))
    obtain rfl := Option.some.inj H
    simp only [Option.some.injEq, Prod.mk.injEq] at H
    obtain ⟨rfl⟩ := H
    have p297 : 0 ≤ (x5_1 : Int) := ODz
    have q297 : x5_1 < (l0.length : Int) := ODz
    obtain ⟨ad297, e297, hx297_0, hx297_1, hx297_2, hx297_3⟩ := at_T64 HR0.out x5_1 p297 q297
    cases e297
    replace hx297_0 := HXz HB hx297_0
    replace hx297_1 := HXz HB hx297_1
    replace hx297_2 := HXz HB hx297_2
    replace hx297_3 := HXz HB hx297_3
    replace p297 := eq_true p297
    replace q297 := eq_true q297
    try go_wp2
    have n0_ := Aside0.mk (below_drew1 HB.out)
    clear HB
    have HB := n0_
    clear n0_
    have p298 : 0 ≤ (x5_1 : Int) := ODz
    have q298 : x5_1 < (l0.length : Int) := ODz
    obtain ⟨ad298, e298, hx298_0, hx298_1, hx298_2, hx298_3⟩ := at_T64 HR0.out x5_1 p298 q298
    have hw298_3 := hx298_3
    have hw298_2 := hx298_2
    have hw298_1 := hx298_1
    have hw298_0 := hx298_0
    obtain rfl : ad297 = ad298 := (by injection e298)
    replace hx298_0 := HXz HB hx298_0
    replace hx298_1 := HXz HB hx298_1
    replace hx298_2 := HXz HB hx298_2
    replace hx298_3 := HXz HB hx298_3
    replace p298 := eq_true p298
    replace q298 := eq_true q298
    refine start_ (n := 8) (S := fun w' => w'.cell? (ad297.add ((x5_1).toNat * 4)) = some (.int .i64 ((rd_T64 l0 x5_1).f0)) ∧ w'.cell? ⟨(ad297.add ((x5_1).toNat * 4)).block, (ad297.add ((x5_1).toNat * 4)).off + 1, none⟩ = some (.string ((rd_T64 l0 x5_1).f1)) ∧ w'.cell? ⟨(ad297.add ((x5_1).toNat * 4)).block, (ad297.add ((x5_1).toNat * 4)).off + 2, none⟩ = some (.string ((rd_T64 l0 x5_1).f2)) ∧ w'.cell? ⟨(ad297.add ((x5_1).toNat * 4)).block, (ad297.add ((x5_1).toNat * 4)).off + 3, none⟩ = some (.int .i64 ((rd_T64 l0 x5_1).f3))) (ds := []) (bz 8 0) (by kernel_rfl) rfl (by kernel_rfl) ⟨(HXz HB hw298_0 :), (HXz HB hw298_1 :), (HXz HB hw298_2 :), (HXz HB hw298_3 :)⟩ (fun hHeld => ?_); refine with_tabW Gv.tab7 Gv.bits7 (fun HT_ HW_ => ?_)
    generalize wr.drew = w15 at HB hx298_0 hx298_1 hx298_2 hx298_3 hHeld ⊢
    refine PYz 0 21 (bz 8 1) rfl rfl (any_of HT_.out (by kernel_rfl)) ?_
    refine PYz 1 22 (bz 8 3) rfl rfl (any_of HT_.out (by kernel_rfl)) ?_
    refine PYz 2 23 (bz 8 7) rfl rfl (any_of HT_.out (by kernel_rfl)) ?_
    refine PYz 3 24 (bz 8 15) rfl rfl (any_of HT_.out (by kernel_rfl)) ?_
    refine PYz 5 26 (bz 8 47) rfl rfl (any_of HT_.out (by kernel_rfl)) ?_
    refine take_ (i := 4) (N := some 25) (v := ?_) (a' := ?_) (bz 8 63) rfl rfl (take_ofW HT_.out HW_.out (by kernel_rfl)) (fun _ _ _ h => h) (Or.inl ⟨by rfl, ?_⟩) hHeld ?_ ?_
    rotate_left
    ·rintro w' ⟨s0, s1, s2, s3⟩
     go_simp
     with_reducible rfl
    rotate_left
    ·simp only [PUz]
     rfl
    refine one_ (i := 6) (N := some 27) (bz 8 127) rfl rfl (one_of HT_.out (by kernel_rfl)) (by decide) (fun K hK => ?_)
    refine goes_ Tryz.func85 (by kernel_rfl) rfl #[.int .i64 (wrap64 (x1_1 + 1))] (by rfl) rfl rfl MPz ?_
    with_reducible refine (Gy.calls k1 (wrap64 (x1_1 + 1)) t299 _ A6.out).mono ?_
    rintro e w16 ⟨rfl, hb⟩
    refine ⟨_, rfl, ?_⟩
    have n0_ := Aside0.mk (below_step HBa hb)
    clear HB
    have HB := n0_
    clear n0_
    (try clear hb)
    (try clear hb2)
    (try clear hk)
    (try clear hi)
    refine hK.out _ _ ⟨(HXz HB hw298_0 :), (HXz HB hw298_1 :), (HXz HB hw298_2 :), (HXz HB hw298_3 :)⟩ (fun hHeld => ?_)
    clear hK K
    refine norm_ (a' := ?_) ?_ ?_
    rotate_left
    ·show Act.put _ (some 27) _ = _
     simp only [PUz]
     rfl
    refine PYz 7 28 (bz 8 255) rfl rfl (any_of HT_.out (by kernel_rfl)) ?_
    refine done_ (done_of HT_.out (by kernel_rfl)) ?_
    try go_wp2
    have n0_ := Aside0.mk (below_drew1 HB.out)
    clear HB
    have HB := n0_
    clear n0_
    have p300 : 0 ≤ (x5_1 : Int) := ODz
    have q300 : x5_1 < (l0.length : Int) := ODz
    obtain ⟨ad300, e300, hx300_0, hx300_1, hx300_2, hx300_3⟩ := at_T64 HR0.out x5_1 p300 q300
    have hw300_3 := hx300_3
    have hw300_2 := hx300_2
    have hw300_1 := hx300_1
    have hw300_0 := hx300_0
    obtain rfl : ad297 = ad300 := (by injection e300)
    replace hx300_0 := HXz HB hx300_0
    replace hx300_1 := HXz HB hx300_1
    replace hx300_2 := HXz HB hx300_2
    replace hx300_3 := HXz HB hx300_3
    replace p300 := eq_true p300
    replace q300 := eq_true q300
    refine start_ (n := 8) (S := fun w' => w'.cell? (ad297.add ((x5_1).toNat * 4)) = some (.int .i64 ((rd_T64 l0 x5_1).f0)) ∧ w'.cell? ⟨(ad297.add ((x5_1).toNat * 4)).block, (ad297.add ((x5_1).toNat * 4)).off + 1, none⟩ = some (.string ((rd_T64 l0 x5_1).f1)) ∧ w'.cell? ⟨(ad297.add ((x5_1).toNat * 4)).block, (ad297.add ((x5_1).toNat * 4)).off + 2, none⟩ = some (.string ((rd_T64 l0 x5_1).f2)) ∧ w'.cell? ⟨(ad297.add ((x5_1).toNat * 4)).block, (ad297.add ((x5_1).toNat * 4)).off + 3, none⟩ = some (.int .i64 ((rd_T64 l0 x5_1).f3))) (ds := []) (bz 8 0) (by kernel_rfl) rfl (by kernel_rfl) ⟨(HXz HB hw300_0 :), (HXz HB hw300_1 :), (HXz HB hw300_2 :), (HXz HB hw300_3 :)⟩ (fun hHeld => ?_); refine with_tabW Gv.tab10 Gv.bits10 (fun HT_ HW_ => ?_)
    generalize w16.drew = w17 at HB hx300_0 hx300_1 hx300_2 hx300_3 hHeld ⊢
    refine PYz 0 31 (bz 8 1) rfl rfl (any_of HT_.out (by kernel_rfl)) ?_
    refine PYz 1 32 (bz 8 3) rfl rfl (any_of HT_.out (by kernel_rfl)) ?_
    refine PYz 2 33 (bz 8 7) rfl rfl (any_of HT_.out (by kernel_rfl)) ?_
    refine PYz 3 34 (bz 8 15) rfl rfl (any_of HT_.out (by kernel_rfl)) ?_
    refine PYz 5 36 (bz 8 47) rfl rfl (any_of HT_.out (by kernel_rfl)) ?_
    refine take_ (i := 4) (N := some 35) (v := ?_) (a' := ?_) (bz 8 63) rfl rfl (take_ofW HT_.out HW_.out (by kernel_rfl)) (fun _ _ _ h => h) (Or.inl ⟨by rfl, ?_⟩) hHeld ?_ ?_
    rotate_left
    ·rintro w' ⟨s0, s1, s2, s3⟩
     go_simp
     with_reducible rfl
    rotate_left
    ·simp only [PUz]
     rfl
    refine one_ (i := 6) (N := some 37) (bz 8 127) rfl rfl (one_of HT_.out (by kernel_rfl)) (by decide) (fun K hK => ?_)
    refine goes_ Tryz.func85 (by kernel_rfl) rfl #[.int .i64 (wrap64 ((wrap64 (x1_1 + 1)) + 1))] (by rfl) rfl rfl MPz ?_
    with_reducible refine (Gy.calls k1 (wrap64 ((wrap64 (x1_1 + 1)) + 1)) t301 _ A8.out).mono ?_
    rintro e w18 ⟨rfl, hb⟩
    refine ⟨_, rfl, ?_⟩
    have n0_ := Aside0.mk (below_step HBa hb)
    clear HB
    have HB := n0_
    clear n0_
    (try clear hb)
    (try clear hb2)
    (try clear hk)
    (try clear hi)
    refine hK.out _ _ ⟨(HXz HB hw300_0 :), (HXz HB hw300_1 :), (HXz HB hw300_2 :), (HXz HB hw300_3 :)⟩ (fun hHeld => ?_)
    clear hK K
    refine norm_ (a' := ?_) ?_ ?_
    rotate_left
    ·show Act.put _ (some 37) _ = _
     simp only [PUz]
     rfl
    refine PYz 7 38 (bz 8 255) rfl rfl (any_of HT_.out (by kernel_rfl)) ?_
    refine done_ (done_of HT_.out (by kernel_rfl)) ?_
    have p302 : 0 ≤ (x5_1 : Int) := ODz
    have q302 : x5_1 < (l0.length : Int) := ODz
    obtain ⟨ad302, e302, hx302_0, hx302_1, hx302_2, hx302_3⟩ := at_T64 HR0.out x5_1 p302 q302
    obtain rfl : ad297 = ad302 := (by injection e302)
    replace hx302_0 := HXz HB hx302_0
    replace hx302_1 := HXz HB hx302_1
    replace hx302_2 := HXz HB hx302_2
    replace hx302_3 := HXz HB hx302_3
    replace p302 := eq_true p302
    replace q302 := eq_true q302
    try go_wp2
    go_ret
    exact ⟨EZa, HBa⟩
   rw [if_pos c10] at H
   have c10b0 : (((rd_T64 l0 x5_1).f3) == (wrap64 ((wrap64 ((wrap64 (x1_1 + 1)) + 1)) + 1))) = true := beq_iff_eq.mpr c10
   (try (have c10v0 := c10b0; (try rw [show wrap64 (x1_1 + 1) = x1_1 + 1 from by unfold wrap64; omega] at c10v0); (try rw [show wrap64 ((wrap64 (x1_1 + 1)) + 1) = (wrap64 (x1_1 + 1)) + 1 from by unfold wrap64; omega] at c10v0); (try rw [show wrap64 ((wrap64 ((wrap64 (x1_1 + 1)) + 1)) + 1) = (wrap64 ((wrap64 (x1_1 + 1)) + 1)) + 1 from by unfold wrap64; omega] at c10v0)))
   have c10b1 : (((rd_T64 l0 x5_1).f3) != (wrap64 ((wrap64 ((wrap64 (x1_1 + 1)) + 1)) + 1))) = false := bne_eq_false_iff_eq.mpr c10
   (try (have c10v1 := c10b1; (try rw [show wrap64 (x1_1 + 1) = x1_1 + 1 from by unfold wrap64; omega] at c10v1); (try rw [show wrap64 ((wrap64 (x1_1 + 1)) + 1) = (wrap64 (x1_1 + 1)) + 1 from by unfold wrap64; omega] at c10v1); (try rw [show wrap64 ((wrap64 ((wrap64 (x1_1 + 1)) + 1)) + 1) = (wrap64 ((wrap64 (x1_1 + 1)) + 1)) + 1 from by unfold wrap64; omega] at c10v1)))
   clear c10
   have H' := Aside0.mk H
   clear H
   have p297 : 0 ≤ (x5_1 : Int) := ODz
   have q297 : x5_1 < (l0.length : Int) := ODz
   obtain ⟨ad297, e297, hx297_0, hx297_1, hx297_2, hx297_3⟩ := at_T64 HR0.out x5_1 p297 q297
   cases e297
   replace hx297_0 := HXz HB hx297_0
   replace hx297_1 := HXz HB hx297_1
   replace hx297_2 := HXz HB hx297_2
   replace hx297_3 := HXz HB hx297_3
   replace p297 := eq_true p297
   replace q297 := eq_true q297
   try go_wp2
   have n0_ := Aside0.mk (below_drew1 HB.out)
   clear HB
   have HB := n0_
   clear n0_
   have p298 : 0 ≤ (x5_1 : Int) := ODz
   have q298 : x5_1 < (l0.length : Int) := ODz
   obtain ⟨ad298, e298, hx298_0, hx298_1, hx298_2, hx298_3⟩ := at_T64 HR0.out x5_1 p298 q298
   have hw298_3 := hx298_3
   have hw298_2 := hx298_2
   have hw298_1 := hx298_1
   have hw298_0 := hx298_0
   obtain rfl : ad297 = ad298 := (by injection e298)
   replace hx298_0 := HXz HB hx298_0
   replace hx298_1 := HXz HB hx298_1
   replace hx298_2 := HXz HB hx298_2
   replace hx298_3 := HXz HB hx298_3
   replace p298 := eq_true p298
   replace q298 := eq_true q298
   refine start_ (n := 8) (S := fun w' => w'.cell? (ad297.add ((x5_1).toNat * 4)) = some (.int .i64 ((rd_T64 l0 x5_1).f0)) ∧ w'.cell? ⟨(ad297.add ((x5_1).toNat * 4)).block, (ad297.add ((x5_1).toNat * 4)).off + 1, none⟩ = some (.string ((rd_T64 l0 x5_1).f1)) ∧ w'.cell? ⟨(ad297.add ((x5_1).toNat * 4)).block, (ad297.add ((x5_1).toNat * 4)).off + 2, none⟩ = some (.string ((rd_T64 l0 x5_1).f2)) ∧ w'.cell? ⟨(ad297.add ((x5_1).toNat * 4)).block, (ad297.add ((x5_1).toNat * 4)).off + 3, none⟩ = some (.int .i64 ((rd_T64 l0 x5_1).f3))) (ds := []) (bz 8 0) (by kernel_rfl) rfl (by kernel_rfl) ⟨(HXz HB hw298_0 :), (HXz HB hw298_1 :), (HXz HB hw298_2 :), (HXz HB hw298_3 :)⟩ (fun hHeld => ?_); refine with_tabW Gv.tab7 Gv.bits7 (fun HT_ HW_ => ?_)
   generalize wr.drew = w11 at HB hx298_0 hx298_1 hx298_2 hx298_3 hHeld ⊢
   refine PYz 0 21 (bz 8 1) rfl rfl (any_of HT_.out (by kernel_rfl)) ?_
   refine PYz 1 22 (bz 8 3) rfl rfl (any_of HT_.out (by kernel_rfl)) ?_
   refine PYz 2 23 (bz 8 7) rfl rfl (any_of HT_.out (by kernel_rfl)) ?_
   refine PYz 3 24 (bz 8 15) rfl rfl (any_of HT_.out (by kernel_rfl)) ?_
   refine PYz 5 26 (bz 8 47) rfl rfl (any_of HT_.out (by kernel_rfl)) ?_
   refine take_ (i := 4) (N := some 25) (v := ?_) (a' := ?_) (bz 8 63) rfl rfl (take_ofW HT_.out HW_.out (by kernel_rfl)) (fun _ _ _ h => h) (Or.inl ⟨by rfl, ?_⟩) hHeld ?_ ?_
   rotate_left
   ·rintro w' ⟨s0, s1, s2, s3⟩
    go_simp
    with_reducible rfl
   rotate_left
   ·simp only [PUz]
    rfl
   refine one_ (i := 6) (N := some 27) (bz 8 127) rfl rfl (one_of HT_.out (by kernel_rfl)) (by decide) (fun K hK => ?_)
   refine goes_ Tryz.func85 (by kernel_rfl) rfl #[.int .i64 (wrap64 (x1_1 + 1))] (by rfl) rfl rfl MPz ?_
   with_reducible refine (Gy.calls k1 (wrap64 (x1_1 + 1)) t299 _ A6.out).mono ?_
   rintro e w12 ⟨rfl, hb⟩
   refine ⟨_, rfl, ?_⟩
   have n0_ := Aside0.mk (below_step HBa hb)
   clear HB
   have HB := n0_
   clear n0_
   (try clear hb)
   (try clear hb2)
   (try clear hk)
   (try clear hi)
   refine hK.out _ _ ⟨(HXz HB hw298_0 :), (HXz HB hw298_1 :), (HXz HB hw298_2 :), (HXz HB hw298_3 :)⟩ (fun hHeld => ?_)
   clear hK K
   refine norm_ (a' := ?_) ?_ ?_
   rotate_left
   ·show Act.put _ (some 27) _ = _
    simp only [PUz]
    rfl
   refine PYz 7 28 (bz 8 255) rfl rfl (any_of HT_.out (by kernel_rfl)) ?_
   refine done_ (done_of HT_.out (by kernel_rfl)) ?_
   try go_wp2
   have n0_ := Aside0.mk (below_drew1 HB.out)
   clear HB
   have HB := n0_
   clear n0_
   have p300 : 0 ≤ (x5_1 : Int) := ODz
   have q300 : x5_1 < (l0.length : Int) := ODz
   obtain ⟨ad300, e300, hx300_0, hx300_1, hx300_2, hx300_3⟩ := at_T64 HR0.out x5_1 p300 q300
   have hw300_3 := hx300_3
   have hw300_2 := hx300_2
   have hw300_1 := hx300_1
   have hw300_0 := hx300_0
   obtain rfl : ad297 = ad300 := (by injection e300)
   replace hx300_0 := HXz HB hx300_0
   replace hx300_1 := HXz HB hx300_1
   replace hx300_2 := HXz HB hx300_2
   replace hx300_3 := HXz HB hx300_3
   replace p300 := eq_true p300
   replace q300 := eq_true q300
   refine start_ (n := 8) (S := fun w' => w'.cell? (ad297.add ((x5_1).toNat * 4)) = some (.int .i64 ((rd_T64 l0 x5_1).f0)) ∧ w'.cell? ⟨(ad297.add ((x5_1).toNat * 4)).block, (ad297.add ((x5_1).toNat * 4)).off + 1, none⟩ = some (.string ((rd_T64 l0 x5_1).f1)) ∧ w'.cell? ⟨(ad297.add ((x5_1).toNat * 4)).block, (ad297.add ((x5_1).toNat * 4)).off + 2, none⟩ = some (.string ((rd_T64 l0 x5_1).f2)) ∧ w'.cell? ⟨(ad297.add ((x5_1).toNat * 4)).block, (ad297.add ((x5_1).toNat * 4)).off + 3, none⟩ = some (.int .i64 ((rd_T64 l0 x5_1).f3))) (ds := []) (bz 8 0) (by kernel_rfl) rfl (by kernel_rfl) ⟨(HXz HB hw300_0 :), (HXz HB hw300_1 :), (HXz HB hw300_2 :), (HXz HB hw300_3 :)⟩ (fun hHeld => ?_); refine with_tabW Gv.tab10 Gv.bits10 (fun HT_ HW_ => ?_)
   generalize w12.drew = w13 at HB hx300_0 hx300_1 hx300_2 hx300_3 hHeld ⊢
   refine PYz 0 31 (bz 8 1) rfl rfl (any_of HT_.out (by kernel_rfl)) ?_
   refine PYz 1 32 (bz 8 3) rfl rfl (any_of HT_.out (by kernel_rfl)) ?_
   refine PYz 2 33 (bz 8 7) rfl rfl (any_of HT_.out (by kernel_rfl)) ?_
   refine PYz 3 34 (bz 8 15) rfl rfl (any_of HT_.out (by kernel_rfl)) ?_
   refine PYz 5 36 (bz 8 47) rfl rfl (any_of HT_.out (by kernel_rfl)) ?_
   refine take_ (i := 4) (N := some 35) (v := ?_) (a' := ?_) (bz 8 63) rfl rfl (take_ofW HT_.out HW_.out (by kernel_rfl)) (fun _ _ _ h => h) (Or.inl ⟨by rfl, ?_⟩) hHeld ?_ ?_
   rotate_left
   ·rintro w' ⟨s0, s1, s2, s3⟩
    go_simp
    with_reducible rfl
   rotate_left
   ·simp only [PUz]
    rfl
   refine one_ (i := 6) (N := some 37) (bz 8 127) rfl rfl (one_of HT_.out (by kernel_rfl)) (by decide) (fun K hK => ?_)
   refine goes_ Tryz.func85 (by kernel_rfl) rfl #[.int .i64 (wrap64 ((wrap64 (x1_1 + 1)) + 1))] (by rfl) rfl rfl MPz ?_
   with_reducible refine (Gy.calls k1 (wrap64 ((wrap64 (x1_1 + 1)) + 1)) t301 _ A8.out).mono ?_
   rintro e w14 ⟨rfl, hb⟩
   refine ⟨_, rfl, ?_⟩
   have n0_ := Aside0.mk (below_step HBa hb)
   clear HB
   have HB := n0_
   clear n0_
   (try clear hb)
   (try clear hb2)
   (try clear hk)
   (try clear hi)
   refine hK.out _ _ ⟨(HXz HB hw300_0 :), (HXz HB hw300_1 :), (HXz HB hw300_2 :), (HXz HB hw300_3 :)⟩ (fun hHeld => ?_)
   clear hK K
   refine norm_ (a' := ?_) ?_ ?_
   rotate_left
   ·show Act.put _ (some 37) _ = _
    simp only [PUz]
    rfl
   refine PYz 7 38 (bz 8 255) rfl rfl (any_of HT_.out (by kernel_rfl)) ?_
   refine done_ (done_of HT_.out (by kernel_rfl)) ?_
   have p302 : 0 ≤ (x5_1 : Int) := ODz
   have q302 : x5_1 < (l0.length : Int) := ODz
   obtain ⟨ad302, e302, hx302_0, hx302_1, hx302_2, hx302_3⟩ := at_T64 HR0.out x5_1 p302 q302
   obtain rfl : ad297 = ad302 := (by injection e302)
   replace hx302_0 := HXz HB hx302_0
   replace hx302_1 := HXz HB hx302_1
   replace hx302_2 := HXz HB hx302_2
   replace hx302_3 := HXz HB hx302_3
   replace p302 := eq_true p302
   replace q302 := eq_true q302
   try go_wp2
   go_roundg k1
   case measure => have := HK1.out; omega
   case rel => exact ⟨(wrap64 ((wrap64 ((wrap64 ((wrap64 (x1_1 + 1)) + 1)) + 1)) + 1)), (wrap64 (x5_1 + 1)), EZc, EZc, H', ⟨by have := HK1.out; omega⟩, ⟨HBa⟩⟩
end Go.Proofs.YtmkeigielncpjaaGreatDoor.PFnExactFilterRead
