-- Laid by this session's own program out of the translation; Lean checks it.
import Derived.Test.YtdlbcamnimdfjaaGreatDoorQFnExactTreeNewx0
import Derived.Test.YtdlbcamnimdfjaaGreatDoorQFnExactTreeNewx12
import Derived.Test.YtdlbcamnimdfjaaGreatDoorQFnExactTreeNewx13
namespace Go.Proofs.YtdlbcamnimdfjaaGreatDoor.PFnExactTreeNew
open Go.RowKit Go.Proofs.YtdlbcamnimdfjaaGreatDoorW.PrintWords Go.Proofs.YtdlbcamnimdfjaaGreatDoorW.PrintLast Go.Proofs.YtdlbcamnimdfjaaGreatDoorW.PrintMore
attribute [local go_sem] max2_int min2_int max_two min_two max_three min_three max_four min_four   -- for this text's walks alone
set_option linter.unusedVariables false
set_option linter.unusedSimpArgs false
def laws_heldClassS.l0 : Nat → List (S48) → Int → Int → Option (Int)
 | 0, _, _, _ => none
 | k + 1, x0, x1, x5 => if x5 < (x0.length : Int) then (if 0 ≤ x5 then ((laws_markText.f k x1).bind fun t260 => (if ((rd_T48 x0 x5).f0).toList = t260.toList then ((laws_heldStringS.f k ((rd_T48 x0 x5).f1) (wrap64 (x1 + 1))).bind fun t262 => (if t262 < 0 then (some (-1)) else ((laws_heldStringS.f k ((rd_T48 x0 x5).f2) t262).bind fun t264 => (if t264 < 0 then (some (-1)) else ((laws_heldStringS.f k ((rd_T48 x0 x5).f3) t264).bind fun t266 => (if t266 < 0 then (some (-1)) else (laws_heldClassS.l0 k x0 t266 (wrap64 (x5 + 1))))))))) else (some (-1)))) else (none)) else (some x1)
def laws_heldClassS.f (k : Nat) (l0 : List (S48)) (a1 : Int) : Option (Int) := laws_heldClassS.l0 k l0 a1 0
theorem laws_heldClassS.mono_l : ∀ k, (∀ y0 y1 y2, LeO (laws_heldClassS.l0 k y0 y1 y2) (laws_heldClassS.l0 (k + 1) y0 y1 y2))
 | 0 => fun _ _ _ r h => by simp [laws_heldClassS.l0] at h
 | k + 1 => by
  have ih0 := laws_heldClassS.mono_l k
  ·intro y0 y1 y2
   unfold laws_heldClassS.l0
   repeat' first
   | (with_reducible exact ih0 _ _ _)
   | (with_reducible exact laws_heldStringS.mono _ _ _)
   | (with_reducible exact laws_markText.mono _ _)
   | (with_reducible exact LeO.refl _)
   | (with_reducible exact LeO.none _)
   | (with_reducible refine LeO.ite ?_ ?_)
   | (with_reducible refine LeO.bind ?_ (fun _ => ?_))
   | exact ih0 _ _ _
   | exact laws_heldStringS.mono _ _ _
   | exact laws_markText.mono _ _
   | exact LeO.none _
   | refine LeO.ite ?_ ?_
   | refine LeO.bind ?_ (fun _ => ?_)
theorem laws_heldClassS.mono : ∀ a0 a1 k, LeO (laws_heldClassS.f k a0 a1) (laws_heldClassS.f (k + 1) a0 a1) := by
 intro a0 a1 k
 have ih0 := laws_heldClassS.mono_l k
 unfold laws_heldClassS.f
 repeat' first
   | (with_reducible exact ih0 _ _ _)
   | (with_reducible exact laws_heldStringS.mono _ _ _)
   | (with_reducible exact laws_markText.mono _ _)
   | (with_reducible exact LeO.refl _)
   | (with_reducible exact LeO.none _)
   | (with_reducible refine LeO.ite ?_ ?_)
   | (with_reducible refine LeO.bind ?_ (fun _ => ?_))
   | exact ih0 _ _ _
   | exact laws_heldStringS.mono _ _ _
   | exact laws_markText.mono _ _
   | exact LeO.none _
   | refine LeO.ite ?_ ?_
   | refine LeO.bind ?_ (fun _ => ?_)
def laws_heldClassS.T4 : Bool × List (List Nat × List Nat) := (true, [([], []), ([], []), ([0, 1], [0, 1]), ([2], [2]), ([3], [3]), ([], []), ([5], [5]), ([4, 6], [4, 6])])
def laws_heldClassS.B4 : List Nat := [0, 0, 3, 7, 15, 0, 32, 127]
theorem laws_heldClassS.tab4 : rtab .any (opsOf Tryz.f30 4) = laws_heldClassS.T4 := by kernel_rfl
theorem laws_heldClassS.bits4 : waitsOk laws_heldClassS.T4.2 laws_heldClassS.B4 = true := by kernel_rfl
set_option maxHeartbeats 8000000 in
set_option maxRecDepth 100000 in
theorem laws_heldClassS.calls (k : Nat) (A0 : Option Addr) (c0 : Nat) (l0 : List (S48)) (a1 : Int) (r : Int) (w : World) (hr0 : Kd.C k48 w A0 l0.length l0) (hc0 : l0.length ≤ c0) (h : laws_heldClassS.f k l0 a1 = some r) :
  Calls Tryz.prog 30 #[.slice A0 l0.length c0, .int .i64 a1] w fun e w' => e = .returned (.int .i64 r) ∧ Below w.heap.size w w' := by
 have HR0 := Aside0.mk hr0
 have HC0 := Aside0.mk hc0
 clear hr0 hc0
 have HB := Aside0.mk (Below.refl w.heap.size w)
 have H : (laws_heldClassS.l0 k l0 a1 0) = some r := h
 clear h
 have H' := Aside0.mk H
 clear H
 go_enter Tryz.func30, Tryz.ntmps30
 go_wp2
 go_loopg [1, 5] k (fun kq v1 v5 w' => ∃ (x1_1 : Int) (x5_1 : Int), v1 = .int .i64 x1_1 ∧ v5 = .int .i64 x5_1 ∧ Aside0 (laws_heldClassS.l0 kq l0 x1_1 x5_1 = some r) ∧ Aside0 (kq ≤ k) ∧ Aside0 (Below w.heap.size w w'))
 case atStart => exact ⟨(a1), (0), EZc, EZc, H', ⟨Nat.le_refl _⟩, ⟨HBa⟩⟩
 case round =>
  clear H'
  try clear p2
  obtain ⟨x1_1, x5_1, rfl, rfl, HA, HK1, HB⟩ := hrel
  cases gk with
  | zero => exact absurd HA.out (by simp [laws_heldClassS.l0])
  | succ k1 =>
   have H := HA.out
   clear HA
   simp only [laws_heldClassS.l0] at H
   by_cases c3 : x5_1 < (l0.length : Int)
   ·rw [if_pos c3] at H
    have c3b0 : decide (x5_1 < (l0.length : Int)) = true := decide_eq_true c3
    clear c3
    by_cases c4 : 0 ≤ x5_1
    ·rw [if_pos c4] at H
     have c4b0 : decide (0 ≤ x5_1) = true := decide_eq_true c4
     clear c4
     replace H := Option.bind_eq_some_iff.mp H
     obtain ⟨t260, A50, H⟩ := H
     replace H : (if ((rd_T48 l0 x5_1).f0).toList = t260.toList then ((laws_heldStringS.f k1 ((rd_T48 l0 x5_1).f1) (wrap64 (x1_1 + 1))).bind fun t262 => (if t262 < 0 then (some (-1)) else ((laws_heldStringS.f k1 ((rd_T48 l0 x5_1).f2) t262).bind fun t264 => (if t264 < 0 then (some (-1)) else ((laws_heldStringS.f k1 ((rd_T48 l0 x5_1).f3) t264).bind fun t266 => (if t266 < 0 then (some (-1)) else (laws_heldClassS.l0 k1 l0 t266 (wrap64 (x5_1 + 1))))))))) else (some (-1))) = some r := H
     have A5 := Aside0.mk A50
     clear A50
     by_cases c6 : ((rd_T48 l0 x5_1).f0).toList = t260.toList
     ·rw [if_pos c6] at H
      have c6b0 : (((rd_T48 l0 x5_1).f0).toList == t260.toList) = true := beq_iff_eq.mpr c6
      have c6b1 : (((rd_T48 l0 x5_1).f0).toList != t260.toList) = false := bne_eq_false_iff_eq.mpr c6
      clear c6
      replace H := Option.bind_eq_some_iff.mp H
      obtain ⟨t262, A70, H⟩ := H
      replace H : (if t262 < 0 then (some (-1)) else ((laws_heldStringS.f k1 ((rd_T48 l0 x5_1).f2) t262).bind fun t264 => (if t264 < 0 then (some (-1)) else ((laws_heldStringS.f k1 ((rd_T48 l0 x5_1).f3) t264).bind fun t266 => (if t266 < 0 then (some (-1)) else (laws_heldClassS.l0 k1 l0 t266 (wrap64 (x5_1 + 1)))))))) = some r := H
      have A7 := Aside0.mk A70
      clear A70
      by_cases c8 : t262 < 0
      ·rw [if_pos c8] at H
       have c8b0 : decide (t262 < 0) = true := decide_eq_true c8
       clear c8
       obtain rfl := Option.some.inj H
       try go_wp2
       have n0_ := Aside0.mk (below_drew1 HB.out)
       clear HB
       have HB := n0_
       clear n0_
       have p259 : 0 ≤ (x5_1 : Int) := ODz
       have q259 : x5_1 < (l0.length : Int) := ODz
       obtain ⟨ad259, A259_1, c259_1, A259_2, c259_2, A259_3, c259_3, e259, hx259_0, hx259_1, hx259_2, hx259_3, hl259_1, hi259_1, hl259_2, hi259_2, hl259_3, hi259_3⟩ := at_T48 HR0.out x5_1 p259 q259
       have hw259_3 := hx259_3
       have hw259_2 := hx259_2
       have hw259_1 := hx259_1
       have hw259_0 := hx259_0
       cases e259
       replace hx259_0 := (HB.out.cell (World.block_lt_of_cell? w _ hx259_0)).trans hx259_0
       replace hx259_1 := (HB.out.cell (World.block_lt_of_cell? w _ hx259_1)).trans hx259_1
       replace hx259_2 := (HB.out.cell (World.block_lt_of_cell? w _ hx259_2)).trans hx259_2
       replace hx259_3 := (HB.out.cell (World.block_lt_of_cell? w _ hx259_3)).trans hx259_3
       have HR259_1 := Aside0.mk hi259_1
       have HC259_1 := Aside0.mk hl259_1
       clear hi259_1 hl259_1
       have HR259_2 := Aside0.mk hi259_2
       have HC259_2 := Aside0.mk hl259_2
       clear hi259_2 hl259_2
       have HR259_3 := Aside0.mk hi259_3
       have HC259_3 := Aside0.mk hl259_3
       clear hi259_3 hl259_3
       replace p259 := eq_true p259
       replace q259 := eq_true q259
       refine start_ (n := 8) (S := fun w' => w'.cell? (ad259.add ((x5_1).toNat * 4)) = some (.string ((rd_T48 l0 x5_1).f0)) ∧ w'.cell? ⟨(ad259.add ((x5_1).toNat * 4)).block, (ad259.add ((x5_1).toNat * 4)).off + 1, none⟩ = some (.slice A259_1 ((rd_T48 l0 x5_1).f1).length c259_1) ∧ w'.cell? ⟨(ad259.add ((x5_1).toNat * 4)).block, (ad259.add ((x5_1).toNat * 4)).off + 2, none⟩ = some (.slice A259_2 ((rd_T48 l0 x5_1).f2).length c259_2) ∧ w'.cell? ⟨(ad259.add ((x5_1).toNat * 4)).block, (ad259.add ((x5_1).toNat * 4)).off + 3, none⟩ = some (.slice A259_3 ((rd_T48 l0 x5_1).f3).length c259_3)) (ds := []) #[false, false, false, false, false, false, false, false] (by kernel_rfl) rfl rfl ⟨((HB.out.cell (World.block_lt_of_cell? w _ hw259_0)).trans hw259_0), ((HB.out.cell (World.block_lt_of_cell? w _ hw259_1)).trans hw259_1), ((HB.out.cell (World.block_lt_of_cell? w _ hw259_2)).trans hw259_2), ((HB.out.cell (World.block_lt_of_cell? w _ hw259_3)).trans hw259_3)⟩ (fun hHeld => ?_); refine with_tabW laws_heldClassS.tab4 laws_heldClassS.bits4 (fun HT_ HW_ => ?_)
       generalize wr.drew = w9 at HB HR259_1 HR259_2 HR259_3 hx259_0 hx259_1 hx259_2 hx259_3 hHeld ⊢
       refine pure_ (i := 0) (N := some 12) (v := ?_) (a' := ?_) #[true, false, false, false, false, false, false, false] rfl rfl (any_of HT_.out (by kernel_rfl)) (fun _ _ _ h => h) (Or.inl ⟨by rfl, ?_⟩) ?_ ?_
       rotate_left
       ·intro w'
        go_simp
        with_reducible rfl
       rotate_left
       ·simp only [Act.put, List.setIfInBounds_toArray, List.set_cons_zero, List.set_cons_succ, i64_w, i32_w]
        rfl
       refine pure_ (i := 1) (N := some 13) (v := ?_) (a' := ?_) #[true, true, false, false, false, false, false, false] rfl rfl (any_of HT_.out (by kernel_rfl)) (fun _ _ _ h => h) (Or.inl ⟨by rfl, ?_⟩) ?_ ?_
       rotate_left
       ·intro w'
        go_simp
        with_reducible rfl
       rotate_left
       ·simp only [Act.put, List.setIfInBounds_toArray, List.set_cons_zero, List.set_cons_succ, i64_w, i32_w]
        rfl
       refine pure_ (i := 2) (N := some 14) (v := ?_) (a' := ?_) #[true, true, true, false, false, false, false, false] rfl rfl (any_of HT_.out (by kernel_rfl)) (fun _ _ _ h => h) (Or.inl ⟨by rfl, ?_⟩) ?_ ?_
       rotate_left
       ·intro w'
        go_simp
        with_reducible rfl
       rotate_left
       ·simp only [Act.put, List.setIfInBounds_toArray, List.set_cons_zero, List.set_cons_succ, i64_w, i32_w]
        rfl
       refine pure_ (i := 3) (N := some 15) (v := ?_) (a' := ?_) #[true, true, true, true, false, false, false, false] rfl rfl (any_of HT_.out (by kernel_rfl)) (fun _ _ _ h => h) (Or.inl ⟨by rfl, ?_⟩) ?_ ?_
       rotate_left
       ·intro w'
        go_simp
        with_reducible rfl
       rotate_left
       ·simp only [Act.put, List.setIfInBounds_toArray, List.set_cons_zero, List.set_cons_succ, i64_w, i32_w]
        rfl
       refine pure_ (i := 5) (N := some 17) (v := ?_) (a' := ?_) #[true, true, true, true, false, true, false, false] rfl rfl (any_of HT_.out (by kernel_rfl)) (fun _ _ _ h => h) (Or.inl ⟨by rfl, ?_⟩) ?_ ?_
       rotate_left
       ·intro w'
        go_simp
        with_reducible rfl
       rotate_left
       ·simp only [Act.put, List.setIfInBounds_toArray, List.set_cons_zero, List.set_cons_succ, i64_w, i32_w]
        rfl
       refine take_ (i := 4) (N := some 16) (v := ?_) (a' := ?_) #[true, true, true, true, true, true, false, false] rfl rfl (take_ofW HT_.out HW_.out (by kernel_rfl)) (fun _ _ _ h => h) (Or.inl ⟨by rfl, ?_⟩) hHeld ?_ ?_
       rotate_left
       ·rintro w' ⟨s0, s1, s2, s3⟩
        go_simp
        with_reducible rfl
       rotate_left
       ·simp only [Act.put, List.setIfInBounds_toArray, List.set_cons_zero, List.set_cons_succ, i64_w, i32_w]
        rfl
       refine one_ (i := 6) (N := some 18) #[true, true, true, true, true, true, true, false] rfl rfl (one_of HT_.out (by kernel_rfl)) (by decide) (fun K hK => ?_)
       refine goes_ Tryz.func27 (by kernel_rfl) rfl #[.int .i64 x1_1] (by rfl) rfl rfl MPz ?_
       with_reducible refine (laws_markText.calls k1 x1_1 t260 _ A5.out).mono ?_
       rintro e w10 ⟨rfl, hb⟩
       refine ⟨_, rfl, ?_⟩
       have n0_ := Aside0.mk (below_step HBa hb)
       clear HB
       have HB := n0_
       clear n0_
       (try clear hb)
       (try clear hb2)
       (try clear hk)
       (try clear hi)
       refine hK.out _ _ ⟨((HB.out.cell (World.block_lt_of_cell? w _ hw259_0)).trans hw259_0), ((HB.out.cell (World.block_lt_of_cell? w _ hw259_1)).trans hw259_1), ((HB.out.cell (World.block_lt_of_cell? w _ hw259_2)).trans hw259_2), ((HB.out.cell (World.block_lt_of_cell? w _ hw259_3)).trans hw259_3)⟩ (fun hHeld => ?_)
       clear hK K
       refine norm_ (a' := ?_) ?_ ?_
       rotate_left
       ·show Act.put _ (some 18) _ = _
        simp only [Act.put, List.setIfInBounds_toArray, List.set_cons_zero, List.set_cons_succ, i64_w, i32_w]
        rfl
       refine pure_ (i := 7) (N := some 19) (v := ?_) (a' := ?_) #[true, true, true, true, true, true, true, true] rfl rfl (any_of HT_.out (by kernel_rfl)) (fun _ _ _ h => h) (Or.inl ⟨by rfl, ?_⟩) ?_ ?_
       rotate_left
       ·intro w'
        go_simp
        with_reducible rfl
       rotate_left
       ·simp only [Act.put, List.setIfInBounds_toArray, List.set_cons_zero, List.set_cons_succ, i64_w, i32_w]
        rfl
       refine done_ (done_of HT_.out (by kernel_rfl)) ?_
       have p261 : 0 ≤ (x5_1 : Int) := ODz
       have q261 : x5_1 < (l0.length : Int) := ODz
       obtain ⟨ad261, A261_1, c261_1, A261_2, c261_2, A261_3, c261_3, e261, hx261_0, hx261_1, hx261_2, hx261_3, hl261_1, hi261_1, hl261_2, hi261_2, hl261_3, hi261_3⟩ := at_T48 HR0.out x5_1 p261 q261
       obtain rfl : ad259 = ad261 := (by injection e261)
       (try (injection (Option.some.inj (hx261_1.symm.trans hw259_1)) with e1_ e2_ e3_; subst e1_; subst e3_; clear e2_))
       (try (injection (Option.some.inj (hx261_2.symm.trans hw259_2)) with e1_ e2_ e3_; subst e1_; subst e3_; clear e2_))
       (try (injection (Option.some.inj (hx261_3.symm.trans hw259_3)) with e1_ e2_ e3_; subst e1_; subst e3_; clear e2_))
       replace hx261_0 := (HB.out.cell (World.block_lt_of_cell? w _ hx261_0)).trans hx261_0
       replace hx261_1 := (HB.out.cell (World.block_lt_of_cell? w _ hx261_1)).trans hx261_1
       replace hx261_2 := (HB.out.cell (World.block_lt_of_cell? w _ hx261_2)).trans hx261_2
       replace hx261_3 := (HB.out.cell (World.block_lt_of_cell? w _ hx261_3)).trans hx261_3
       have HR261_1 := Aside0.mk hi261_1
       have HC261_1 := Aside0.mk hl261_1
       clear hi261_1 hl261_1
       have HR261_2 := Aside0.mk hi261_2
       have HC261_2 := Aside0.mk hl261_2
       clear hi261_2 hl261_2
       have HR261_3 := Aside0.mk hi261_3
       have HC261_3 := Aside0.mk hl261_3
       clear hi261_3 hl261_3
       replace p261 := eq_true p261
       replace q261 := eq_true q261
       try go_wp2_with (first | ((with_reducible refine gate_callee (f := 50) rfl ?_); refine goesL_ (some 28) rfl rfl Tryz.func50 (by kernel_rfl) rfl #[.slice A261_1 ((rd_T48 l0 x5_1).f1).length c261_1, .int .i64 (wrap64 (x1_1 + 1))] rfl MPz ?_; (with_reducible refine (laws_heldStringS.calls k1 _ _ ((rd_T48 l0 x5_1).f1) (wrap64 (x1_1 + 1)) t262 _ ?side1 ?side2 A7.out).mono ?_); (case side1 => repeat (first | exact (Kd.C_below HR261_1.out HB.out) | (with_reducible refine Kd.C_alloc ?_ _) | (with_reducible refine Kd.C_drewN ?_ _) | (with_reducible refine Kd.C_drew ?_))); (case side2 => exact HC261_1.out); rintro e w11 ⟨rfl, hb⟩; refine ⟨_, rfl, ?_⟩; have n0_ := Aside0.mk (below_step HBa hb); clear HB; have HB := n0_; clear n0_; (try clear hb); (try clear hb2); (try clear hk); (try clear hi)))
       go_ret
       exact ⟨EZa, HBa⟩
      ·rw [if_neg c8] at H
       have c8b0 : decide (t262 < 0) = false := decide_eq_false c8
       clear c8
       replace H := Option.bind_eq_some_iff.mp H
       obtain ⟨t264, A120, H⟩ := H
       replace H : (if t264 < 0 then (some (-1)) else ((laws_heldStringS.f k1 ((rd_T48 l0 x5_1).f3) t264).bind fun t266 => (if t266 < 0 then (some (-1)) else (laws_heldClassS.l0 k1 l0 t266 (wrap64 (x5_1 + 1)))))) = some r := H
       have A12 := Aside0.mk A120
       clear A120
       by_cases c13 : t264 < 0
       ·rw [if_pos c13] at H
        have c13b0 : decide (t264 < 0) = true := decide_eq_true c13
        clear c13
        obtain rfl := Option.some.inj H
        try go_wp2
        have n0_ := Aside0.mk (below_drew1 HB.out)
        clear HB
        have HB := n0_
        clear n0_
        have p259 : 0 ≤ (x5_1 : Int) := ODz
        have q259 : x5_1 < (l0.length : Int) := ODz
        obtain ⟨ad259, A259_1, c259_1, A259_2, c259_2, A259_3, c259_3, e259, hx259_0, hx259_1, hx259_2, hx259_3, hl259_1, hi259_1, hl259_2, hi259_2, hl259_3, hi259_3⟩ := at_T48 HR0.out x5_1 p259 q259
        have hw259_3 := hx259_3
        have hw259_2 := hx259_2
        have hw259_1 := hx259_1
        have hw259_0 := hx259_0
        cases e259
        replace hx259_0 := (HB.out.cell (World.block_lt_of_cell? w _ hx259_0)).trans hx259_0
        replace hx259_1 := (HB.out.cell (World.block_lt_of_cell? w _ hx259_1)).trans hx259_1
        replace hx259_2 := (HB.out.cell (World.block_lt_of_cell? w _ hx259_2)).trans hx259_2
        replace hx259_3 := (HB.out.cell (World.block_lt_of_cell? w _ hx259_3)).trans hx259_3
        have HR259_1 := Aside0.mk hi259_1
        have HC259_1 := Aside0.mk hl259_1
        clear hi259_1 hl259_1
        have HR259_2 := Aside0.mk hi259_2
        have HC259_2 := Aside0.mk hl259_2
        clear hi259_2 hl259_2
        have HR259_3 := Aside0.mk hi259_3
        have HC259_3 := Aside0.mk hl259_3
        clear hi259_3 hl259_3
        replace p259 := eq_true p259
        replace q259 := eq_true q259
        refine start_ (n := 8) (S := fun w' => w'.cell? (ad259.add ((x5_1).toNat * 4)) = some (.string ((rd_T48 l0 x5_1).f0)) ∧ w'.cell? ⟨(ad259.add ((x5_1).toNat * 4)).block, (ad259.add ((x5_1).toNat * 4)).off + 1, none⟩ = some (.slice A259_1 ((rd_T48 l0 x5_1).f1).length c259_1) ∧ w'.cell? ⟨(ad259.add ((x5_1).toNat * 4)).block, (ad259.add ((x5_1).toNat * 4)).off + 2, none⟩ = some (.slice A259_2 ((rd_T48 l0 x5_1).f2).length c259_2) ∧ w'.cell? ⟨(ad259.add ((x5_1).toNat * 4)).block, (ad259.add ((x5_1).toNat * 4)).off + 3, none⟩ = some (.slice A259_3 ((rd_T48 l0 x5_1).f3).length c259_3)) (ds := []) #[false, false, false, false, false, false, false, false] (by kernel_rfl) rfl rfl ⟨((HB.out.cell (World.block_lt_of_cell? w _ hw259_0)).trans hw259_0), ((HB.out.cell (World.block_lt_of_cell? w _ hw259_1)).trans hw259_1), ((HB.out.cell (World.block_lt_of_cell? w _ hw259_2)).trans hw259_2), ((HB.out.cell (World.block_lt_of_cell? w _ hw259_3)).trans hw259_3)⟩ (fun hHeld => ?_); refine with_tabW laws_heldClassS.tab4 laws_heldClassS.bits4 (fun HT_ HW_ => ?_)
        generalize wr.drew = w14 at HB HR259_1 HR259_2 HR259_3 hx259_0 hx259_1 hx259_2 hx259_3 hHeld ⊢
        refine pure_ (i := 0) (N := some 12) (v := ?_) (a' := ?_) #[true, false, false, false, false, false, false, false] rfl rfl (any_of HT_.out (by kernel_rfl)) (fun _ _ _ h => h) (Or.inl ⟨by rfl, ?_⟩) ?_ ?_
        rotate_left
        ·intro w'
         go_simp
         with_reducible rfl
        rotate_left
        ·simp only [Act.put, List.setIfInBounds_toArray, List.set_cons_zero, List.set_cons_succ, i64_w, i32_w]
         rfl
        refine pure_ (i := 1) (N := some 13) (v := ?_) (a' := ?_) #[true, true, false, false, false, false, false, false] rfl rfl (any_of HT_.out (by kernel_rfl)) (fun _ _ _ h => h) (Or.inl ⟨by rfl, ?_⟩) ?_ ?_
        rotate_left
        ·intro w'
         go_simp
         with_reducible rfl
        rotate_left
        ·simp only [Act.put, List.setIfInBounds_toArray, List.set_cons_zero, List.set_cons_succ, i64_w, i32_w]
         rfl
        refine pure_ (i := 2) (N := some 14) (v := ?_) (a' := ?_) #[true, true, true, false, false, false, false, false] rfl rfl (any_of HT_.out (by kernel_rfl)) (fun _ _ _ h => h) (Or.inl ⟨by rfl, ?_⟩) ?_ ?_
        rotate_left
        ·intro w'
         go_simp
         with_reducible rfl
        rotate_left
        ·simp only [Act.put, List.setIfInBounds_toArray, List.set_cons_zero, List.set_cons_succ, i64_w, i32_w]
         rfl
        refine pure_ (i := 3) (N := some 15) (v := ?_) (a' := ?_) #[true, true, true, true, false, false, false, false] rfl rfl (any_of HT_.out (by kernel_rfl)) (fun _ _ _ h => h) (Or.inl ⟨by rfl, ?_⟩) ?_ ?_
        rotate_left
        ·intro w'
         go_simp
         with_reducible rfl
        rotate_left
        ·simp only [Act.put, List.setIfInBounds_toArray, List.set_cons_zero, List.set_cons_succ, i64_w, i32_w]
         rfl
        refine pure_ (i := 5) (N := some 17) (v := ?_) (a' := ?_) #[true, true, true, true, false, true, false, false] rfl rfl (any_of HT_.out (by kernel_rfl)) (fun _ _ _ h => h) (Or.inl ⟨by rfl, ?_⟩) ?_ ?_
        rotate_left
        ·intro w'
         go_simp
         with_reducible rfl
        rotate_left
        ·simp only [Act.put, List.setIfInBounds_toArray, List.set_cons_zero, List.set_cons_succ, i64_w, i32_w]
         rfl
        refine take_ (i := 4) (N := some 16) (v := ?_) (a' := ?_) #[true, true, true, true, true, true, false, false] rfl rfl (take_ofW HT_.out HW_.out (by kernel_rfl)) (fun _ _ _ h => h) (Or.inl ⟨by rfl, ?_⟩) hHeld ?_ ?_
        rotate_left
        ·rintro w' ⟨s0, s1, s2, s3⟩
         go_simp
         with_reducible rfl
        rotate_left
        ·simp only [Act.put, List.setIfInBounds_toArray, List.set_cons_zero, List.set_cons_succ, i64_w, i32_w]
         rfl
        refine one_ (i := 6) (N := some 18) #[true, true, true, true, true, true, true, false] rfl rfl (one_of HT_.out (by kernel_rfl)) (by decide) (fun K hK => ?_)
        refine goes_ Tryz.func27 (by kernel_rfl) rfl #[.int .i64 x1_1] (by rfl) rfl rfl MPz ?_
        with_reducible refine (laws_markText.calls k1 x1_1 t260 _ A5.out).mono ?_
        rintro e w15 ⟨rfl, hb⟩
        refine ⟨_, rfl, ?_⟩
        have n0_ := Aside0.mk (below_step HBa hb)
        clear HB
        have HB := n0_
        clear n0_
        (try clear hb)
        (try clear hb2)
        (try clear hk)
        (try clear hi)
        refine hK.out _ _ ⟨((HB.out.cell (World.block_lt_of_cell? w _ hw259_0)).trans hw259_0), ((HB.out.cell (World.block_lt_of_cell? w _ hw259_1)).trans hw259_1), ((HB.out.cell (World.block_lt_of_cell? w _ hw259_2)).trans hw259_2), ((HB.out.cell (World.block_lt_of_cell? w _ hw259_3)).trans hw259_3)⟩ (fun hHeld => ?_)
        clear hK K
        refine norm_ (a' := ?_) ?_ ?_
        rotate_left
        ·show Act.put _ (some 18) _ = _
         simp only [Act.put, List.setIfInBounds_toArray, List.set_cons_zero, List.set_cons_succ, i64_w, i32_w]
         rfl
        refine pure_ (i := 7) (N := some 19) (v := ?_) (a' := ?_) #[true, true, true, true, true, true, true, true] rfl rfl (any_of HT_.out (by kernel_rfl)) (fun _ _ _ h => h) (Or.inl ⟨by rfl, ?_⟩) ?_ ?_
        rotate_left
        ·intro w'
         go_simp
         with_reducible rfl
        rotate_left
        ·simp only [Act.put, List.setIfInBounds_toArray, List.set_cons_zero, List.set_cons_succ, i64_w, i32_w]
         rfl
        refine done_ (done_of HT_.out (by kernel_rfl)) ?_
        have p261 : 0 ≤ (x5_1 : Int) := ODz
        have q261 : x5_1 < (l0.length : Int) := ODz
        obtain ⟨ad261, A261_1, c261_1, A261_2, c261_2, A261_3, c261_3, e261, hx261_0, hx261_1, hx261_2, hx261_3, hl261_1, hi261_1, hl261_2, hi261_2, hl261_3, hi261_3⟩ := at_T48 HR0.out x5_1 p261 q261
        obtain rfl : ad259 = ad261 := (by injection e261)
        (try (injection (Option.some.inj (hx261_1.symm.trans hw259_1)) with e1_ e2_ e3_; subst e1_; subst e3_; clear e2_))
        (try (injection (Option.some.inj (hx261_2.symm.trans hw259_2)) with e1_ e2_ e3_; subst e1_; subst e3_; clear e2_))
        (try (injection (Option.some.inj (hx261_3.symm.trans hw259_3)) with e1_ e2_ e3_; subst e1_; subst e3_; clear e2_))
        replace hx261_0 := (HB.out.cell (World.block_lt_of_cell? w _ hx261_0)).trans hx261_0
        replace hx261_1 := (HB.out.cell (World.block_lt_of_cell? w _ hx261_1)).trans hx261_1
        replace hx261_2 := (HB.out.cell (World.block_lt_of_cell? w _ hx261_2)).trans hx261_2
        replace hx261_3 := (HB.out.cell (World.block_lt_of_cell? w _ hx261_3)).trans hx261_3
        have HR261_1 := Aside0.mk hi261_1
        have HC261_1 := Aside0.mk hl261_1
        clear hi261_1 hl261_1
        have HR261_2 := Aside0.mk hi261_2
        have HC261_2 := Aside0.mk hl261_2
        clear hi261_2 hl261_2
        have HR261_3 := Aside0.mk hi261_3
        have HC261_3 := Aside0.mk hl261_3
        clear hi261_3 hl261_3
        replace p261 := eq_true p261
        replace q261 := eq_true q261
        try go_wp2_with (first | ((with_reducible refine gate_callee (f := 50) rfl ?_); refine goesL_ (some 28) rfl rfl Tryz.func50 (by kernel_rfl) rfl #[.slice A261_1 ((rd_T48 l0 x5_1).f1).length c261_1, .int .i64 (wrap64 (x1_1 + 1))] rfl MPz ?_; (with_reducible refine (laws_heldStringS.calls k1 _ _ ((rd_T48 l0 x5_1).f1) (wrap64 (x1_1 + 1)) t262 _ ?side1 ?side2 A7.out).mono ?_); (case side1 => repeat (first | exact (Kd.C_below HR261_1.out HB.out) | (with_reducible refine Kd.C_alloc ?_ _) | (with_reducible refine Kd.C_drewN ?_ _) | (with_reducible refine Kd.C_drew ?_))); (case side2 => exact HC261_1.out); rintro e w16 ⟨rfl, hb⟩; refine ⟨_, rfl, ?_⟩; have n0_ := Aside0.mk (below_step HBa hb); clear HB; have HB := n0_; clear n0_; (try clear hb); (try clear hb2); (try clear hk); (try clear hi); have p263 : 0 ≤ (x5_1 : Int) := ODz; have q263 : x5_1 < (l0.length : Int) := ODz; obtain ⟨ad263, A263_1, c263_1, A263_2, c263_2, A263_3, c263_3, e263, hx263_0, hx263_1, hx263_2, hx263_3, hl263_1, hi263_1, hl263_2, hi263_2, hl263_3, hi263_3⟩ := at_T48 HR0.out x5_1 p263 q263; obtain rfl : ad259 = ad263 := (by injection e263); replace hx263_0 := (HB.out.cell (World.block_lt_of_cell? w _ hx263_0)).trans hx263_0; replace hx263_1 := (HB.out.cell (World.block_lt_of_cell? w _ hx263_1)).trans hx263_1; replace hx263_2 := (HB.out.cell (World.block_lt_of_cell? w _ hx263_2)).trans hx263_2; replace hx263_3 := (HB.out.cell (World.block_lt_of_cell? w _ hx263_3)).trans hx263_3; have HR263_1 := Aside0.mk hi263_1; have HC263_1 := Aside0.mk hl263_1; clear hi263_1 hl263_1; have HR263_2 := Aside0.mk hi263_2; have HC263_2 := Aside0.mk hl263_2; clear hi263_2 hl263_2; have HR263_3 := Aside0.mk hi263_3; have HC263_3 := Aside0.mk hl263_3; clear hi263_3 hl263_3; replace p263 := eq_true p263; replace q263 := eq_true q263) | ((with_reducible refine gate_callee (f := 50) rfl ?_); refine goesL_ (some 37) rfl rfl Tryz.func50 (by kernel_rfl) rfl #[.slice A263_2 ((rd_T48 l0 x5_1).f2).length c263_2, .int .i64 t262] rfl MPz ?_; (with_reducible refine (laws_heldStringS.calls k1 _ _ ((rd_T48 l0 x5_1).f2) t262 t264 _ ?side1 ?side2 A12.out).mono ?_); (case side1 => repeat (first | exact (Kd.C_below HR263_2.out HB.out) | (with_reducible refine Kd.C_alloc ?_ _) | (with_reducible refine Kd.C_drewN ?_ _) | (with_reducible refine Kd.C_drew ?_))); (case side2 => exact HC263_2.out); rintro e w17 ⟨rfl, hb⟩; refine ⟨_, rfl, ?_⟩; have n0_ := Aside0.mk (below_step HBa hb); clear HB; have HB := n0_; clear n0_; (try clear hb); (try clear hb2); (try clear hk); (try clear hi)))
        go_ret
        exact ⟨EZa, HBa⟩
       ·rw [if_neg c13] at H
        have c13b0 : decide (t264 < 0) = false := decide_eq_false c13
        clear c13
        replace H := Option.bind_eq_some_iff.mp H
        obtain ⟨t266, A180, H⟩ := H
        replace H : (if t266 < 0 then (some (-1)) else (laws_heldClassS.l0 k1 l0 t266 (wrap64 (x5_1 + 1)))) = some r := H
        have A18 := Aside0.mk A180
        clear A180
        by_cases c19 : t266 < 0
        ·rw [if_pos c19] at H
         have c19b0 : decide (t266 < 0) = true := decide_eq_true c19
         clear c19
         obtain rfl := Option.some.inj H
         try go_wp2
         have n0_ := Aside0.mk (below_drew1 HB.out)
         clear HB
         have HB := n0_
         clear n0_
         have p259 : 0 ≤ (x5_1 : Int) := ODz
         have q259 : x5_1 < (l0.length : Int) := ODz
         obtain ⟨ad259, A259_1, c259_1, A259_2, c259_2, A259_3, c259_3, e259, hx259_0, hx259_1, hx259_2, hx259_3, hl259_1, hi259_1, hl259_2, hi259_2, hl259_3, hi259_3⟩ := at_T48 HR0.out x5_1 p259 q259
         have hw259_3 := hx259_3
         have hw259_2 := hx259_2
         have hw259_1 := hx259_1
         have hw259_0 := hx259_0
         cases e259
         replace hx259_0 := (HB.out.cell (World.block_lt_of_cell? w _ hx259_0)).trans hx259_0
         replace hx259_1 := (HB.out.cell (World.block_lt_of_cell? w _ hx259_1)).trans hx259_1
         replace hx259_2 := (HB.out.cell (World.block_lt_of_cell? w _ hx259_2)).trans hx259_2
         replace hx259_3 := (HB.out.cell (World.block_lt_of_cell? w _ hx259_3)).trans hx259_3
         have HR259_1 := Aside0.mk hi259_1
         have HC259_1 := Aside0.mk hl259_1
         clear hi259_1 hl259_1
         have HR259_2 := Aside0.mk hi259_2
         have HC259_2 := Aside0.mk hl259_2
         clear hi259_2 hl259_2
         have HR259_3 := Aside0.mk hi259_3
         have HC259_3 := Aside0.mk hl259_3
         clear hi259_3 hl259_3
         replace p259 := eq_true p259
         replace q259 := eq_true q259
         refine start_ (n := 8) (S := fun w' => w'.cell? (ad259.add ((x5_1).toNat * 4)) = some (.string ((rd_T48 l0 x5_1).f0)) ∧ w'.cell? ⟨(ad259.add ((x5_1).toNat * 4)).block, (ad259.add ((x5_1).toNat * 4)).off + 1, none⟩ = some (.slice A259_1 ((rd_T48 l0 x5_1).f1).length c259_1) ∧ w'.cell? ⟨(ad259.add ((x5_1).toNat * 4)).block, (ad259.add ((x5_1).toNat * 4)).off + 2, none⟩ = some (.slice A259_2 ((rd_T48 l0 x5_1).f2).length c259_2) ∧ w'.cell? ⟨(ad259.add ((x5_1).toNat * 4)).block, (ad259.add ((x5_1).toNat * 4)).off + 3, none⟩ = some (.slice A259_3 ((rd_T48 l0 x5_1).f3).length c259_3)) (ds := []) #[false, false, false, false, false, false, false, false] (by kernel_rfl) rfl rfl ⟨((HB.out.cell (World.block_lt_of_cell? w _ hw259_0)).trans hw259_0), ((HB.out.cell (World.block_lt_of_cell? w _ hw259_1)).trans hw259_1), ((HB.out.cell (World.block_lt_of_cell? w _ hw259_2)).trans hw259_2), ((HB.out.cell (World.block_lt_of_cell? w _ hw259_3)).trans hw259_3)⟩ (fun hHeld => ?_); refine with_tabW laws_heldClassS.tab4 laws_heldClassS.bits4 (fun HT_ HW_ => ?_)
         generalize wr.drew = w20 at HB HR259_1 HR259_2 HR259_3 hx259_0 hx259_1 hx259_2 hx259_3 hHeld ⊢
         refine pure_ (i := 0) (N := some 12) (v := ?_) (a' := ?_) #[true, false, false, false, false, false, false, false] rfl rfl (any_of HT_.out (by kernel_rfl)) (fun _ _ _ h => h) (Or.inl ⟨by rfl, ?_⟩) ?_ ?_
         rotate_left
         ·intro w'
          go_simp
          with_reducible rfl
         rotate_left
         ·simp only [Act.put, List.setIfInBounds_toArray, List.set_cons_zero, List.set_cons_succ, i64_w, i32_w]
          rfl
         refine pure_ (i := 1) (N := some 13) (v := ?_) (a' := ?_) #[true, true, false, false, false, false, false, false] rfl rfl (any_of HT_.out (by kernel_rfl)) (fun _ _ _ h => h) (Or.inl ⟨by rfl, ?_⟩) ?_ ?_
         rotate_left
         ·intro w'
          go_simp
          with_reducible rfl
         rotate_left
         ·simp only [Act.put, List.setIfInBounds_toArray, List.set_cons_zero, List.set_cons_succ, i64_w, i32_w]
          rfl
         refine pure_ (i := 2) (N := some 14) (v := ?_) (a' := ?_) #[true, true, true, false, false, false, false, false] rfl rfl (any_of HT_.out (by kernel_rfl)) (fun _ _ _ h => h) (Or.inl ⟨by rfl, ?_⟩) ?_ ?_
         rotate_left
         ·intro w'
          go_simp
          with_reducible rfl
         rotate_left
         ·simp only [Act.put, List.setIfInBounds_toArray, List.set_cons_zero, List.set_cons_succ, i64_w, i32_w]
          rfl
         refine pure_ (i := 3) (N := some 15) (v := ?_) (a' := ?_) #[true, true, true, true, false, false, false, false] rfl rfl (any_of HT_.out (by kernel_rfl)) (fun _ _ _ h => h) (Or.inl ⟨by rfl, ?_⟩) ?_ ?_
         rotate_left
         ·intro w'
          go_simp
          with_reducible rfl
         rotate_left
         ·simp only [Act.put, List.setIfInBounds_toArray, List.set_cons_zero, List.set_cons_succ, i64_w, i32_w]
          rfl
         refine pure_ (i := 5) (N := some 17) (v := ?_) (a' := ?_) #[true, true, true, true, false, true, false, false] rfl rfl (any_of HT_.out (by kernel_rfl)) (fun _ _ _ h => h) (Or.inl ⟨by rfl, ?_⟩) ?_ ?_
         rotate_left
         ·intro w'
          go_simp
          with_reducible rfl
         rotate_left
         ·simp only [Act.put, List.setIfInBounds_toArray, List.set_cons_zero, List.set_cons_succ, i64_w, i32_w]
          rfl
         refine take_ (i := 4) (N := some 16) (v := ?_) (a' := ?_) #[true, true, true, true, true, true, false, false] rfl rfl (take_ofW HT_.out HW_.out (by kernel_rfl)) (fun _ _ _ h => h) (Or.inl ⟨by rfl, ?_⟩) hHeld ?_ ?_
         rotate_left
         ·rintro w' ⟨s0, s1, s2, s3⟩
          go_simp
          with_reducible rfl
         rotate_left
         ·simp only [Act.put, List.setIfInBounds_toArray, List.set_cons_zero, List.set_cons_succ, i64_w, i32_w]
          rfl
         refine one_ (i := 6) (N := some 18) #[true, true, true, true, true, true, true, false] rfl rfl (one_of HT_.out (by kernel_rfl)) (by decide) (fun K hK => ?_)
         refine goes_ Tryz.func27 (by kernel_rfl) rfl #[.int .i64 x1_1] (by rfl) rfl rfl MPz ?_
         with_reducible refine (laws_markText.calls k1 x1_1 t260 _ A5.out).mono ?_
         rintro e w21 ⟨rfl, hb⟩
         refine ⟨_, rfl, ?_⟩
         have n0_ := Aside0.mk (below_step HBa hb)
         clear HB
         have HB := n0_
         clear n0_
         (try clear hb)
         (try clear hb2)
         (try clear hk)
         (try clear hi)
         refine hK.out _ _ ⟨((HB.out.cell (World.block_lt_of_cell? w _ hw259_0)).trans hw259_0), ((HB.out.cell (World.block_lt_of_cell? w _ hw259_1)).trans hw259_1), ((HB.out.cell (World.block_lt_of_cell? w _ hw259_2)).trans hw259_2), ((HB.out.cell (World.block_lt_of_cell? w _ hw259_3)).trans hw259_3)⟩ (fun hHeld => ?_)
         clear hK K
         refine norm_ (a' := ?_) ?_ ?_
         rotate_left
         ·show Act.put _ (some 18) _ = _
          simp only [Act.put, List.setIfInBounds_toArray, List.set_cons_zero, List.set_cons_succ, i64_w, i32_w]
          rfl
         refine pure_ (i := 7) (N := some 19) (v := ?_) (a' := ?_) #[true, true, true, true, true, true, true, true] rfl rfl (any_of HT_.out (by kernel_rfl)) (fun _ _ _ h => h) (Or.inl ⟨by rfl, ?_⟩) ?_ ?_
         rotate_left
         ·intro w'
          go_simp
          with_reducible rfl
         rotate_left
         ·simp only [Act.put, List.setIfInBounds_toArray, List.set_cons_zero, List.set_cons_succ, i64_w, i32_w]
          rfl
         refine done_ (done_of HT_.out (by kernel_rfl)) ?_
         have p261 : 0 ≤ (x5_1 : Int) := ODz
         have q261 : x5_1 < (l0.length : Int) := ODz
         obtain ⟨ad261, A261_1, c261_1, A261_2, c261_2, A261_3, c261_3, e261, hx261_0, hx261_1, hx261_2, hx261_3, hl261_1, hi261_1, hl261_2, hi261_2, hl261_3, hi261_3⟩ := at_T48 HR0.out x5_1 p261 q261
         obtain rfl : ad259 = ad261 := (by injection e261)
         (try (injection (Option.some.inj (hx261_1.symm.trans hw259_1)) with e1_ e2_ e3_; subst e1_; subst e3_; clear e2_))
         (try (injection (Option.some.inj (hx261_2.symm.trans hw259_2)) with e1_ e2_ e3_; subst e1_; subst e3_; clear e2_))
         (try (injection (Option.some.inj (hx261_3.symm.trans hw259_3)) with e1_ e2_ e3_; subst e1_; subst e3_; clear e2_))
         replace hx261_0 := (HB.out.cell (World.block_lt_of_cell? w _ hx261_0)).trans hx261_0
         replace hx261_1 := (HB.out.cell (World.block_lt_of_cell? w _ hx261_1)).trans hx261_1
         replace hx261_2 := (HB.out.cell (World.block_lt_of_cell? w _ hx261_2)).trans hx261_2
         replace hx261_3 := (HB.out.cell (World.block_lt_of_cell? w _ hx261_3)).trans hx261_3
         have HR261_1 := Aside0.mk hi261_1
         have HC261_1 := Aside0.mk hl261_1
         clear hi261_1 hl261_1
         have HR261_2 := Aside0.mk hi261_2
         have HC261_2 := Aside0.mk hl261_2
         clear hi261_2 hl261_2
         have HR261_3 := Aside0.mk hi261_3
         have HC261_3 := Aside0.mk hl261_3
         clear hi261_3 hl261_3
         replace p261 := eq_true p261
         replace q261 := eq_true q261
         try go_wp2_with (first | ((with_reducible refine gate_callee (f := 50) rfl ?_); refine goesL_ (some 28) rfl rfl Tryz.func50 (by kernel_rfl) rfl #[.slice A261_1 ((rd_T48 l0 x5_1).f1).length c261_1, .int .i64 (wrap64 (x1_1 + 1))] rfl MPz ?_; (with_reducible refine (laws_heldStringS.calls k1 _ _ ((rd_T48 l0 x5_1).f1) (wrap64 (x1_1 + 1)) t262 _ ?side1 ?side2 A7.out).mono ?_); (case side1 => repeat (first | exact (Kd.C_below HR261_1.out HB.out) | (with_reducible refine Kd.C_alloc ?_ _) | (with_reducible refine Kd.C_drewN ?_ _) | (with_reducible refine Kd.C_drew ?_))); (case side2 => exact HC261_1.out); rintro e w22 ⟨rfl, hb⟩; refine ⟨_, rfl, ?_⟩; have n0_ := Aside0.mk (below_step HBa hb); clear HB; have HB := n0_; clear n0_; (try clear hb); (try clear hb2); (try clear hk); (try clear hi); have p263 : 0 ≤ (x5_1 : Int) := ODz; have q263 : x5_1 < (l0.length : Int) := ODz; obtain ⟨ad263, A263_1, c263_1, A263_2, c263_2, A263_3, c263_3, e263, hx263_0, hx263_1, hx263_2, hx263_3, hl263_1, hi263_1, hl263_2, hi263_2, hl263_3, hi263_3⟩ := at_T48 HR0.out x5_1 p263 q263; obtain rfl : ad259 = ad263 := (by injection e263); replace hx263_0 := (HB.out.cell (World.block_lt_of_cell? w _ hx263_0)).trans hx263_0; replace hx263_1 := (HB.out.cell (World.block_lt_of_cell? w _ hx263_1)).trans hx263_1; replace hx263_2 := (HB.out.cell (World.block_lt_of_cell? w _ hx263_2)).trans hx263_2; replace hx263_3 := (HB.out.cell (World.block_lt_of_cell? w _ hx263_3)).trans hx263_3; have HR263_1 := Aside0.mk hi263_1; have HC263_1 := Aside0.mk hl263_1; clear hi263_1 hl263_1; have HR263_2 := Aside0.mk hi263_2; have HC263_2 := Aside0.mk hl263_2; clear hi263_2 hl263_2; have HR263_3 := Aside0.mk hi263_3; have HC263_3 := Aside0.mk hl263_3; clear hi263_3 hl263_3; replace p263 := eq_true p263; replace q263 := eq_true q263) | ((with_reducible refine gate_callee (f := 50) rfl ?_); refine goesL_ (some 37) rfl rfl Tryz.func50 (by kernel_rfl) rfl #[.slice A263_2 ((rd_T48 l0 x5_1).f2).length c263_2, .int .i64 t262] rfl MPz ?_; (with_reducible refine (laws_heldStringS.calls k1 _ _ ((rd_T48 l0 x5_1).f2) t262 t264 _ ?side1 ?side2 A12.out).mono ?_); (case side1 => repeat (first | exact (Kd.C_below HR263_2.out HB.out) | (with_reducible refine Kd.C_alloc ?_ _) | (with_reducible refine Kd.C_drewN ?_ _) | (with_reducible refine Kd.C_drew ?_))); (case side2 => exact HC263_2.out); rintro e w23 ⟨rfl, hb⟩; refine ⟨_, rfl, ?_⟩; have n0_ := Aside0.mk (below_step HBa hb); clear HB; have HB := n0_; clear n0_; (try clear hb); (try clear hb2); (try clear hk); (try clear hi); have p265 : 0 ≤ (x5_1 : Int) := ODz; have q265 : x5_1 < (l0.length : Int) := ODz; obtain ⟨ad265, A265_1, c265_1, A265_2, c265_2, A265_3, c265_3, e265, hx265_0, hx265_1, hx265_2, hx265_3, hl265_1, hi265_1, hl265_2, hi265_2, hl265_3, hi265_3⟩ := at_T48 HR0.out x5_1 p265 q265; obtain rfl : ad259 = ad265 := (by injection e265); replace hx265_0 := (HB.out.cell (World.block_lt_of_cell? w _ hx265_0)).trans hx265_0; replace hx265_1 := (HB.out.cell (World.block_lt_of_cell? w _ hx265_1)).trans hx265_1; replace hx265_2 := (HB.out.cell (World.block_lt_of_cell? w _ hx265_2)).trans hx265_2; replace hx265_3 := (HB.out.cell (World.block_lt_of_cell? w _ hx265_3)).trans hx265_3; have HR265_1 := Aside0.mk hi265_1; have HC265_1 := Aside0.mk hl265_1; clear hi265_1 hl265_1; have HR265_2 := Aside0.mk hi265_2; have HC265_2 := Aside0.mk hl265_2; clear hi265_2 hl265_2; have HR265_3 := Aside0.mk hi265_3; have HC265_3 := Aside0.mk hl265_3; clear hi265_3 hl265_3; replace p265 := eq_true p265; replace q265 := eq_true q265) | ((with_reducible refine gate_callee (f := 50) rfl ?_); refine goesL_ (some 46) rfl rfl Tryz.func50 (by kernel_rfl) rfl #[.slice A265_3 ((rd_T48 l0 x5_1).f3).length c265_3, .int .i64 t264] rfl MPz ?_; (with_reducible refine (laws_heldStringS.calls k1 _ _ ((rd_T48 l0 x5_1).f3) t264 t266 _ ?side1 ?side2 A18.out).mono ?_); (case side1 => repeat (first | exact (Kd.C_below HR265_3.out HB.out) | (with_reducible refine Kd.C_alloc ?_ _) | (with_reducible refine Kd.C_drewN ?_ _) | (with_reducible refine Kd.C_drew ?_))); (case side2 => exact HC265_3.out); rintro e w24 ⟨rfl, hb⟩; refine ⟨_, rfl, ?_⟩; have n0_ := Aside0.mk (below_step HBa hb); clear HB; have HB := n0_; clear n0_; (try clear hb); (try clear hb2); (try clear hk); (try clear hi)))
         go_ret
         exact ⟨EZa, HBa⟩
        ·rw [if_neg c19] at H
         have c19b0 : decide (t266 < 0) = false := decide_eq_false c19
         clear c19
         have H' := Aside0.mk H
         clear H
         try go_wp2
         have n0_ := Aside0.mk (below_drew1 HB.out)
         clear HB
         have HB := n0_
         clear n0_
         have p259 : 0 ≤ (x5_1 : Int) := ODz
         have q259 : x5_1 < (l0.length : Int) := ODz
         obtain ⟨ad259, A259_1, c259_1, A259_2, c259_2, A259_3, c259_3, e259, hx259_0, hx259_1, hx259_2, hx259_3, hl259_1, hi259_1, hl259_2, hi259_2, hl259_3, hi259_3⟩ := at_T48 HR0.out x5_1 p259 q259
         have hw259_3 := hx259_3
         have hw259_2 := hx259_2
         have hw259_1 := hx259_1
         have hw259_0 := hx259_0
         cases e259
         replace hx259_0 := (HB.out.cell (World.block_lt_of_cell? w _ hx259_0)).trans hx259_0
         replace hx259_1 := (HB.out.cell (World.block_lt_of_cell? w _ hx259_1)).trans hx259_1
         replace hx259_2 := (HB.out.cell (World.block_lt_of_cell? w _ hx259_2)).trans hx259_2
         replace hx259_3 := (HB.out.cell (World.block_lt_of_cell? w _ hx259_3)).trans hx259_3
         have HR259_1 := Aside0.mk hi259_1
         have HC259_1 := Aside0.mk hl259_1
         clear hi259_1 hl259_1
         have HR259_2 := Aside0.mk hi259_2
         have HC259_2 := Aside0.mk hl259_2
         clear hi259_2 hl259_2
         have HR259_3 := Aside0.mk hi259_3
         have HC259_3 := Aside0.mk hl259_3
         clear hi259_3 hl259_3
         replace p259 := eq_true p259
         replace q259 := eq_true q259
         refine start_ (n := 8) (S := fun w' => w'.cell? (ad259.add ((x5_1).toNat * 4)) = some (.string ((rd_T48 l0 x5_1).f0)) ∧ w'.cell? ⟨(ad259.add ((x5_1).toNat * 4)).block, (ad259.add ((x5_1).toNat * 4)).off + 1, none⟩ = some (.slice A259_1 ((rd_T48 l0 x5_1).f1).length c259_1) ∧ w'.cell? ⟨(ad259.add ((x5_1).toNat * 4)).block, (ad259.add ((x5_1).toNat * 4)).off + 2, none⟩ = some (.slice A259_2 ((rd_T48 l0 x5_1).f2).length c259_2) ∧ w'.cell? ⟨(ad259.add ((x5_1).toNat * 4)).block, (ad259.add ((x5_1).toNat * 4)).off + 3, none⟩ = some (.slice A259_3 ((rd_T48 l0 x5_1).f3).length c259_3)) (ds := []) #[false, false, false, false, false, false, false, false] (by kernel_rfl) rfl rfl ⟨((HB.out.cell (World.block_lt_of_cell? w _ hw259_0)).trans hw259_0), ((HB.out.cell (World.block_lt_of_cell? w _ hw259_1)).trans hw259_1), ((HB.out.cell (World.block_lt_of_cell? w _ hw259_2)).trans hw259_2), ((HB.out.cell (World.block_lt_of_cell? w _ hw259_3)).trans hw259_3)⟩ (fun hHeld => ?_); refine with_tabW laws_heldClassS.tab4 laws_heldClassS.bits4 (fun HT_ HW_ => ?_)
         generalize wr.drew = w25 at HB HR259_1 HR259_2 HR259_3 hx259_0 hx259_1 hx259_2 hx259_3 hHeld ⊢
         refine pure_ (i := 0) (N := some 12) (v := ?_) (a' := ?_) #[true, false, false, false, false, false, false, false] rfl rfl (any_of HT_.out (by kernel_rfl)) (fun _ _ _ h => h) (Or.inl ⟨by rfl, ?_⟩) ?_ ?_
         rotate_left
         ·intro w'
          go_simp
          with_reducible rfl
         rotate_left
         ·simp only [Act.put, List.setIfInBounds_toArray, List.set_cons_zero, List.set_cons_succ, i64_w, i32_w]
          rfl
         refine pure_ (i := 1) (N := some 13) (v := ?_) (a' := ?_) #[true, true, false, false, false, false, false, false] rfl rfl (any_of HT_.out (by kernel_rfl)) (fun _ _ _ h => h) (Or.inl ⟨by rfl, ?_⟩) ?_ ?_
         rotate_left
         ·intro w'
          go_simp
          with_reducible rfl
         rotate_left
         ·simp only [Act.put, List.setIfInBounds_toArray, List.set_cons_zero, List.set_cons_succ, i64_w, i32_w]
          rfl
         refine pure_ (i := 2) (N := some 14) (v := ?_) (a' := ?_) #[true, true, true, false, false, false, false, false] rfl rfl (any_of HT_.out (by kernel_rfl)) (fun _ _ _ h => h) (Or.inl ⟨by rfl, ?_⟩) ?_ ?_
         rotate_left
         ·intro w'
          go_simp
          with_reducible rfl
         rotate_left
         ·simp only [Act.put, List.setIfInBounds_toArray, List.set_cons_zero, List.set_cons_succ, i64_w, i32_w]
          rfl
         refine pure_ (i := 3) (N := some 15) (v := ?_) (a' := ?_) #[true, true, true, true, false, false, false, false] rfl rfl (any_of HT_.out (by kernel_rfl)) (fun _ _ _ h => h) (Or.inl ⟨by rfl, ?_⟩) ?_ ?_
         rotate_left
         ·intro w'
          go_simp
          with_reducible rfl
         rotate_left
         ·simp only [Act.put, List.setIfInBounds_toArray, List.set_cons_zero, List.set_cons_succ, i64_w, i32_w]
          rfl
         refine pure_ (i := 5) (N := some 17) (v := ?_) (a' := ?_) #[true, true, true, true, false, true, false, false] rfl rfl (any_of HT_.out (by kernel_rfl)) (fun _ _ _ h => h) (Or.inl ⟨by rfl, ?_⟩) ?_ ?_
         rotate_left
         ·intro w'
          go_simp
          with_reducible rfl
         rotate_left
         ·simp only [Act.put, List.setIfInBounds_toArray, List.set_cons_zero, List.set_cons_succ, i64_w, i32_w]
          rfl
         refine take_ (i := 4) (N := some 16) (v := ?_) (a' := ?_) #[true, true, true, true, true, true, false, false] rfl rfl (take_ofW HT_.out HW_.out (by kernel_rfl)) (fun _ _ _ h => h) (Or.inl ⟨by rfl, ?_⟩) hHeld ?_ ?_
         rotate_left
         ·rintro w' ⟨s0, s1, s2, s3⟩
          go_simp
          with_reducible rfl
         rotate_left
         ·simp only [Act.put, List.setIfInBounds_toArray, List.set_cons_zero, List.set_cons_succ, i64_w, i32_w]
          rfl
         refine one_ (i := 6) (N := some 18) #[true, true, true, true, true, true, true, false] rfl rfl (one_of HT_.out (by kernel_rfl)) (by decide) (fun K hK => ?_)
         refine goes_ Tryz.func27 (by kernel_rfl) rfl #[.int .i64 x1_1] (by rfl) rfl rfl MPz ?_
         with_reducible refine (laws_markText.calls k1 x1_1 t260 _ A5.out).mono ?_
         rintro e w26 ⟨rfl, hb⟩
         refine ⟨_, rfl, ?_⟩
         have n0_ := Aside0.mk (below_step HBa hb)
         clear HB
         have HB := n0_
         clear n0_
         (try clear hb)
         (try clear hb2)
         (try clear hk)
         (try clear hi)
         refine hK.out _ _ ⟨((HB.out.cell (World.block_lt_of_cell? w _ hw259_0)).trans hw259_0), ((HB.out.cell (World.block_lt_of_cell? w _ hw259_1)).trans hw259_1), ((HB.out.cell (World.block_lt_of_cell? w _ hw259_2)).trans hw259_2), ((HB.out.cell (World.block_lt_of_cell? w _ hw259_3)).trans hw259_3)⟩ (fun hHeld => ?_)
         clear hK K
         refine norm_ (a' := ?_) ?_ ?_
         rotate_left
         ·show Act.put _ (some 18) _ = _
          simp only [Act.put, List.setIfInBounds_toArray, List.set_cons_zero, List.set_cons_succ, i64_w, i32_w]
          rfl
         refine pure_ (i := 7) (N := some 19) (v := ?_) (a' := ?_) #[true, true, true, true, true, true, true, true] rfl rfl (any_of HT_.out (by kernel_rfl)) (fun _ _ _ h => h) (Or.inl ⟨by rfl, ?_⟩) ?_ ?_
         rotate_left
         ·intro w'
          go_simp
          with_reducible rfl
         rotate_left
         ·simp only [Act.put, List.setIfInBounds_toArray, List.set_cons_zero, List.set_cons_succ, i64_w, i32_w]
          rfl
         refine done_ (done_of HT_.out (by kernel_rfl)) ?_
         have p261 : 0 ≤ (x5_1 : Int) := ODz
         have q261 : x5_1 < (l0.length : Int) := ODz
         obtain ⟨ad261, A261_1, c261_1, A261_2, c261_2, A261_3, c261_3, e261, hx261_0, hx261_1, hx261_2, hx261_3, hl261_1, hi261_1, hl261_2, hi261_2, hl261_3, hi261_3⟩ := at_T48 HR0.out x5_1 p261 q261
         obtain rfl : ad259 = ad261 := (by injection e261)
         (try (injection (Option.some.inj (hx261_1.symm.trans hw259_1)) with e1_ e2_ e3_; subst e1_; subst e3_; clear e2_))
         (try (injection (Option.some.inj (hx261_2.symm.trans hw259_2)) with e1_ e2_ e3_; subst e1_; subst e3_; clear e2_))
         (try (injection (Option.some.inj (hx261_3.symm.trans hw259_3)) with e1_ e2_ e3_; subst e1_; subst e3_; clear e2_))
         replace hx261_0 := (HB.out.cell (World.block_lt_of_cell? w _ hx261_0)).trans hx261_0
         replace hx261_1 := (HB.out.cell (World.block_lt_of_cell? w _ hx261_1)).trans hx261_1
         replace hx261_2 := (HB.out.cell (World.block_lt_of_cell? w _ hx261_2)).trans hx261_2
         replace hx261_3 := (HB.out.cell (World.block_lt_of_cell? w _ hx261_3)).trans hx261_3
         have HR261_1 := Aside0.mk hi261_1
         have HC261_1 := Aside0.mk hl261_1
         clear hi261_1 hl261_1
         have HR261_2 := Aside0.mk hi261_2
         have HC261_2 := Aside0.mk hl261_2
         clear hi261_2 hl261_2
         have HR261_3 := Aside0.mk hi261_3
         have HC261_3 := Aside0.mk hl261_3
         clear hi261_3 hl261_3
         replace p261 := eq_true p261
         replace q261 := eq_true q261
         try go_wp2_with (first | ((with_reducible refine gate_callee (f := 50) rfl ?_); refine goesL_ (some 28) rfl rfl Tryz.func50 (by kernel_rfl) rfl #[.slice A261_1 ((rd_T48 l0 x5_1).f1).length c261_1, .int .i64 (wrap64 (x1_1 + 1))] rfl MPz ?_; (with_reducible refine (laws_heldStringS.calls k1 _ _ ((rd_T48 l0 x5_1).f1) (wrap64 (x1_1 + 1)) t262 _ ?side1 ?side2 A7.out).mono ?_); (case side1 => repeat (first | exact (Kd.C_below HR261_1.out HB.out) | (with_reducible refine Kd.C_alloc ?_ _) | (with_reducible refine Kd.C_drewN ?_ _) | (with_reducible refine Kd.C_drew ?_))); (case side2 => exact HC261_1.out); rintro e w27 ⟨rfl, hb⟩; refine ⟨_, rfl, ?_⟩; have n0_ := Aside0.mk (below_step HBa hb); clear HB; have HB := n0_; clear n0_; (try clear hb); (try clear hb2); (try clear hk); (try clear hi); have p263 : 0 ≤ (x5_1 : Int) := ODz; have q263 : x5_1 < (l0.length : Int) := ODz; obtain ⟨ad263, A263_1, c263_1, A263_2, c263_2, A263_3, c263_3, e263, hx263_0, hx263_1, hx263_2, hx263_3, hl263_1, hi263_1, hl263_2, hi263_2, hl263_3, hi263_3⟩ := at_T48 HR0.out x5_1 p263 q263; obtain rfl : ad259 = ad263 := (by injection e263); replace hx263_0 := (HB.out.cell (World.block_lt_of_cell? w _ hx263_0)).trans hx263_0; replace hx263_1 := (HB.out.cell (World.block_lt_of_cell? w _ hx263_1)).trans hx263_1; replace hx263_2 := (HB.out.cell (World.block_lt_of_cell? w _ hx263_2)).trans hx263_2; replace hx263_3 := (HB.out.cell (World.block_lt_of_cell? w _ hx263_3)).trans hx263_3; have HR263_1 := Aside0.mk hi263_1; have HC263_1 := Aside0.mk hl263_1; clear hi263_1 hl263_1; have HR263_2 := Aside0.mk hi263_2; have HC263_2 := Aside0.mk hl263_2; clear hi263_2 hl263_2; have HR263_3 := Aside0.mk hi263_3; have HC263_3 := Aside0.mk hl263_3; clear hi263_3 hl263_3; replace p263 := eq_true p263; replace q263 := eq_true q263) | ((with_reducible refine gate_callee (f := 50) rfl ?_); refine goesL_ (some 37) rfl rfl Tryz.func50 (by kernel_rfl) rfl #[.slice A263_2 ((rd_T48 l0 x5_1).f2).length c263_2, .int .i64 t262] rfl MPz ?_; (with_reducible refine (laws_heldStringS.calls k1 _ _ ((rd_T48 l0 x5_1).f2) t262 t264 _ ?side1 ?side2 A12.out).mono ?_); (case side1 => repeat (first | exact (Kd.C_below HR263_2.out HB.out) | (with_reducible refine Kd.C_alloc ?_ _) | (with_reducible refine Kd.C_drewN ?_ _) | (with_reducible refine Kd.C_drew ?_))); (case side2 => exact HC263_2.out); rintro e w28 ⟨rfl, hb⟩; refine ⟨_, rfl, ?_⟩; have n0_ := Aside0.mk (below_step HBa hb); clear HB; have HB := n0_; clear n0_; (try clear hb); (try clear hb2); (try clear hk); (try clear hi); have p265 : 0 ≤ (x5_1 : Int) := ODz; have q265 : x5_1 < (l0.length : Int) := ODz; obtain ⟨ad265, A265_1, c265_1, A265_2, c265_2, A265_3, c265_3, e265, hx265_0, hx265_1, hx265_2, hx265_3, hl265_1, hi265_1, hl265_2, hi265_2, hl265_3, hi265_3⟩ := at_T48 HR0.out x5_1 p265 q265; obtain rfl : ad259 = ad265 := (by injection e265); replace hx265_0 := (HB.out.cell (World.block_lt_of_cell? w _ hx265_0)).trans hx265_0; replace hx265_1 := (HB.out.cell (World.block_lt_of_cell? w _ hx265_1)).trans hx265_1; replace hx265_2 := (HB.out.cell (World.block_lt_of_cell? w _ hx265_2)).trans hx265_2; replace hx265_3 := (HB.out.cell (World.block_lt_of_cell? w _ hx265_3)).trans hx265_3; have HR265_1 := Aside0.mk hi265_1; have HC265_1 := Aside0.mk hl265_1; clear hi265_1 hl265_1; have HR265_2 := Aside0.mk hi265_2; have HC265_2 := Aside0.mk hl265_2; clear hi265_2 hl265_2; have HR265_3 := Aside0.mk hi265_3; have HC265_3 := Aside0.mk hl265_3; clear hi265_3 hl265_3; replace p265 := eq_true p265; replace q265 := eq_true q265) | ((with_reducible refine gate_callee (f := 50) rfl ?_); refine goesL_ (some 46) rfl rfl Tryz.func50 (by kernel_rfl) rfl #[.slice A265_3 ((rd_T48 l0 x5_1).f3).length c265_3, .int .i64 t264] rfl MPz ?_; (with_reducible refine (laws_heldStringS.calls k1 _ _ ((rd_T48 l0 x5_1).f3) t264 t266 _ ?side1 ?side2 A18.out).mono ?_); (case side1 => repeat (first | exact (Kd.C_below HR265_3.out HB.out) | (with_reducible refine Kd.C_alloc ?_ _) | (with_reducible refine Kd.C_drewN ?_ _) | (with_reducible refine Kd.C_drew ?_))); (case side2 => exact HC265_3.out); rintro e w29 ⟨rfl, hb⟩; refine ⟨_, rfl, ?_⟩; have n0_ := Aside0.mk (below_step HBa hb); clear HB; have HB := n0_; clear n0_; (try clear hb); (try clear hb2); (try clear hk); (try clear hi)))
         go_roundg k1
         case measure => have := HK1.out; omega
         case rel => exact ⟨(t266), (wrap64 (x5_1 + 1)), EZc, EZc, H', ⟨by have := HK1.out; omega⟩, ⟨HBa⟩⟩
     ·rw [if_neg c6] at H
      have c6b0 : (((rd_T48 l0 x5_1).f0).toList == t260.toList) = false := beq_eq_false_iff_ne.mpr c6
      have c6b1 : (((rd_T48 l0 x5_1).f0).toList != t260.toList) = true := bne_iff_ne.mpr c6
      obtain rfl := Option.some.inj H
      try go_wp2
      have n0_ := Aside0.mk (below_drew1 HB.out)
      clear HB
      have HB := n0_
      clear n0_
      have p259 : 0 ≤ (x5_1 : Int) := ODz
      have q259 : x5_1 < (l0.length : Int) := ODz
      obtain ⟨ad259, A259_1, c259_1, A259_2, c259_2, A259_3, c259_3, e259, hx259_0, hx259_1, hx259_2, hx259_3, hl259_1, hi259_1, hl259_2, hi259_2, hl259_3, hi259_3⟩ := at_T48 HR0.out x5_1 p259 q259
      have hw259_3 := hx259_3
      have hw259_2 := hx259_2
      have hw259_1 := hx259_1
      have hw259_0 := hx259_0
      cases e259
      replace hx259_0 := (HB.out.cell (World.block_lt_of_cell? w _ hx259_0)).trans hx259_0
      replace hx259_1 := (HB.out.cell (World.block_lt_of_cell? w _ hx259_1)).trans hx259_1
      replace hx259_2 := (HB.out.cell (World.block_lt_of_cell? w _ hx259_2)).trans hx259_2
      replace hx259_3 := (HB.out.cell (World.block_lt_of_cell? w _ hx259_3)).trans hx259_3
      have HR259_1 := Aside0.mk hi259_1
      have HC259_1 := Aside0.mk hl259_1
      clear hi259_1 hl259_1
      have HR259_2 := Aside0.mk hi259_2
      have HC259_2 := Aside0.mk hl259_2
      clear hi259_2 hl259_2
      have HR259_3 := Aside0.mk hi259_3
      have HC259_3 := Aside0.mk hl259_3
      clear hi259_3 hl259_3
      replace p259 := eq_true p259
      replace q259 := eq_true q259
      refine start_ (n := 8) (S := fun w' => w'.cell? (ad259.add ((x5_1).toNat * 4)) = some (.string ((rd_T48 l0 x5_1).f0)) ∧ w'.cell? ⟨(ad259.add ((x5_1).toNat * 4)).block, (ad259.add ((x5_1).toNat * 4)).off + 1, none⟩ = some (.slice A259_1 ((rd_T48 l0 x5_1).f1).length c259_1) ∧ w'.cell? ⟨(ad259.add ((x5_1).toNat * 4)).block, (ad259.add ((x5_1).toNat * 4)).off + 2, none⟩ = some (.slice A259_2 ((rd_T48 l0 x5_1).f2).length c259_2) ∧ w'.cell? ⟨(ad259.add ((x5_1).toNat * 4)).block, (ad259.add ((x5_1).toNat * 4)).off + 3, none⟩ = some (.slice A259_3 ((rd_T48 l0 x5_1).f3).length c259_3)) (ds := []) #[false, false, false, false, false, false, false, false] (by kernel_rfl) rfl rfl ⟨((HB.out.cell (World.block_lt_of_cell? w _ hw259_0)).trans hw259_0), ((HB.out.cell (World.block_lt_of_cell? w _ hw259_1)).trans hw259_1), ((HB.out.cell (World.block_lt_of_cell? w _ hw259_2)).trans hw259_2), ((HB.out.cell (World.block_lt_of_cell? w _ hw259_3)).trans hw259_3)⟩ (fun hHeld => ?_); refine with_tabW laws_heldClassS.tab4 laws_heldClassS.bits4 (fun HT_ HW_ => ?_)
      generalize wr.drew = w30 at HB HR259_1 HR259_2 HR259_3 hx259_0 hx259_1 hx259_2 hx259_3 hHeld ⊢
      refine pure_ (i := 0) (N := some 12) (v := ?_) (a' := ?_) #[true, false, false, false, false, false, false, false] rfl rfl (any_of HT_.out (by kernel_rfl)) (fun _ _ _ h => h) (Or.inl ⟨by rfl, ?_⟩) ?_ ?_
      rotate_left
      ·intro w'
       go_simp
       with_reducible rfl
      rotate_left
      ·simp only [Act.put, List.setIfInBounds_toArray, List.set_cons_zero, List.set_cons_succ, i64_w, i32_w]
       rfl
      refine pure_ (i := 1) (N := some 13) (v := ?_) (a' := ?_) #[true, true, false, false, false, false, false, false] rfl rfl (any_of HT_.out (by kernel_rfl)) (fun _ _ _ h => h) (Or.inl ⟨by rfl, ?_⟩) ?_ ?_
      rotate_left
      ·intro w'
       go_simp
       with_reducible rfl
      rotate_left
      ·simp only [Act.put, List.setIfInBounds_toArray, List.set_cons_zero, List.set_cons_succ, i64_w, i32_w]
       rfl
      refine pure_ (i := 2) (N := some 14) (v := ?_) (a' := ?_) #[true, true, true, false, false, false, false, false] rfl rfl (any_of HT_.out (by kernel_rfl)) (fun _ _ _ h => h) (Or.inl ⟨by rfl, ?_⟩) ?_ ?_
      rotate_left
      ·intro w'
       go_simp
       with_reducible rfl
      rotate_left
      ·simp only [Act.put, List.setIfInBounds_toArray, List.set_cons_zero, List.set_cons_succ, i64_w, i32_w]
       rfl
      refine pure_ (i := 3) (N := some 15) (v := ?_) (a' := ?_) #[true, true, true, true, false, false, false, false] rfl rfl (any_of HT_.out (by kernel_rfl)) (fun _ _ _ h => h) (Or.inl ⟨by rfl, ?_⟩) ?_ ?_
      rotate_left
      ·intro w'
       go_simp
       with_reducible rfl
      rotate_left
      ·simp only [Act.put, List.setIfInBounds_toArray, List.set_cons_zero, List.set_cons_succ, i64_w, i32_w]
       rfl
      refine pure_ (i := 5) (N := some 17) (v := ?_) (a' := ?_) #[true, true, true, true, false, true, false, false] rfl rfl (any_of HT_.out (by kernel_rfl)) (fun _ _ _ h => h) (Or.inl ⟨by rfl, ?_⟩) ?_ ?_
      rotate_left
      ·intro w'
       go_simp
       with_reducible rfl
      rotate_left
      ·simp only [Act.put, List.setIfInBounds_toArray, List.set_cons_zero, List.set_cons_succ, i64_w, i32_w]
       rfl
      refine take_ (i := 4) (N := some 16) (v := ?_) (a' := ?_) #[true, true, true, true, true, true, false, false] rfl rfl (take_ofW HT_.out HW_.out (by kernel_rfl)) (fun _ _ _ h => h) (Or.inl ⟨by rfl, ?_⟩) hHeld ?_ ?_
      rotate_left
      ·rintro w' ⟨s0, s1, s2, s3⟩
       go_simp
       with_reducible rfl
      rotate_left
      ·simp only [Act.put, List.setIfInBounds_toArray, List.set_cons_zero, List.set_cons_succ, i64_w, i32_w]
       rfl
      refine one_ (i := 6) (N := some 18) #[true, true, true, true, true, true, true, false] rfl rfl (one_of HT_.out (by kernel_rfl)) (by decide) (fun K hK => ?_)
      refine goes_ Tryz.func27 (by kernel_rfl) rfl #[.int .i64 x1_1] (by rfl) rfl rfl MPz ?_
      with_reducible refine (laws_markText.calls k1 x1_1 t260 _ A5.out).mono ?_
      rintro e w31 ⟨rfl, hb⟩
      refine ⟨_, rfl, ?_⟩
      have n0_ := Aside0.mk (below_step HBa hb)
      clear HB
      have HB := n0_
      clear n0_
      (try clear hb)
      (try clear hb2)
      (try clear hk)
      (try clear hi)
      refine hK.out _ _ ⟨((HB.out.cell (World.block_lt_of_cell? w _ hw259_0)).trans hw259_0), ((HB.out.cell (World.block_lt_of_cell? w _ hw259_1)).trans hw259_1), ((HB.out.cell (World.block_lt_of_cell? w _ hw259_2)).trans hw259_2), ((HB.out.cell (World.block_lt_of_cell? w _ hw259_3)).trans hw259_3)⟩ (fun hHeld => ?_)
      clear hK K
      refine norm_ (a' := ?_) ?_ ?_
      rotate_left
      ·show Act.put _ (some 18) _ = _
       simp only [Act.put, List.setIfInBounds_toArray, List.set_cons_zero, List.set_cons_succ, i64_w, i32_w]
       rfl
      refine pure_ (i := 7) (N := some 19) (v := ?_) (a' := ?_) #[true, true, true, true, true, true, true, true] rfl rfl (any_of HT_.out (by kernel_rfl)) (fun _ _ _ h => h) (Or.inl ⟨by rfl, ?_⟩) ?_ ?_
      rotate_left
      ·intro w'
       go_simp
       with_reducible rfl
      rotate_left
      ·simp only [Act.put, List.setIfInBounds_toArray, List.set_cons_zero, List.set_cons_succ, i64_w, i32_w]
       rfl
      refine done_ (done_of HT_.out (by kernel_rfl)) ?_
      try go_wp2
      go_ret
      exact ⟨EZa, HBa⟩
    ·rw [if_neg c4] at H
     exact absurd H (by simp)
   ·rw [if_neg c3] at H
    have c3b0 : decide (x5_1 < (l0.length : Int)) = false := decide_eq_false c3
    clear c3
    obtain rfl := Option.some.inj H
    go_wp2
    go_ret
    exact ⟨EZa, HBa⟩
end Go.Proofs.YtdlbcamnimdfjaaGreatDoor.PFnExactTreeNew
