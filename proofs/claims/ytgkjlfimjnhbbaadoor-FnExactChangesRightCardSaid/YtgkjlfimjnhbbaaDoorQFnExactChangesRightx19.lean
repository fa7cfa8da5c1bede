-- Laid by this session's own program out of the translation; Lean checks it.
import Derived.Test.YtgkjlfimjnhbbaaDoorQFnExactChangesRightx0
import Derived.Test.YtgkjlfimjnhbbaaDoorQFnExactChangesRightx1
import Derived.Test.YtgkjlfimjnhbbaaDoorQFnExactChangesRightx9
import Derived.Test.YtgkjlfimjnhbbaaDoorQFnExactChangesRightx10
import Derived.Test.YtgkjlfimjnhbbaaDoorQFnExactChangesRightx16
import Derived.Test.YtgkjlfimjnhbbaaDoorQFnExactChangesRightx18
namespace Go.Proofs.YtgkjlfimjnhbbaaDoor.PFnExactChangesRight
open Go.RowKit Go.Proofs.YtgkjlfimjnhbbaaDoorW.PrintWords Go.Proofs.YtgkjlfimjnhbbaaDoorW.PrintLast Go.Proofs.YtgkjlfimjnhbbaaDoorW.PrintMore
attribute [local go_sem] max2_int min2_int max_two min_two max_three min_three max_four min_four   -- for this text's walks alone
set_option linter.unusedVariables false
set_option linter.unusedSimpArgs false
def laws_eqChangeS.l0 : Nat → List (S83) → List (S83) → Int → Option (Bool)
 | 0, _, _, _ => none
 | k + 1, x0, x1, x5 => if x5 < (x0.length : Int) then (if 0 ≤ x5 then (if x5 < (x1.length : Int) then ((laws_eqChange.f k ((rd_T83 x0 x5).f0) ((rd_T83 x0 x5).f1) ((rd_T83 x0 x5).f2) ((rd_T83 x0 x5).f3.f0) ((rd_T83 x0 x5).f3.f1) ((rd_T83 x1 x5).f0) ((rd_T83 x1 x5).f1) ((rd_T83 x1 x5).f2) ((rd_T83 x1 x5).f3.f0) ((rd_T83 x1 x5).f3.f1)).bind fun t441 => (if t441 = true then (laws_eqChangeS.l0 k x0 x1 (wrap64 (x5 + 1))) else (some false))) else (none)) else (none)) else (some true)
def laws_eqChangeS.f (k : Nat) (l0 : List (S83)) (l1 : List (S83)) : Option (Bool) := if (l0.length : Int) = (l1.length : Int) then (laws_eqChangeS.l0 k l0 l1 0) else (some false)
theorem laws_eqChangeS.mono_l : ∀ k, (∀ y0 y1 y2, LeO (laws_eqChangeS.l0 k y0 y1 y2) (laws_eqChangeS.l0 (k + 1) y0 y1 y2))
 | 0 => fun _ _ _ r h => by simp [laws_eqChangeS.l0] at h
 | k + 1 => by
  have ih0 := laws_eqChangeS.mono_l k
  ·intro y0 y1 y2
   unfold laws_eqChangeS.l0
   repeat' first
   | (with_reducible exact ih0 _ _ _)
   | (with_reducible exact laws_eqChange.mono _ _ _ _ _ _ _ _ _ _ _)
   | (with_reducible exact LeO.refl _)
   | (with_reducible exact LeO.none _)
   | (with_reducible refine LeO.ite ?_ ?_)
   | (with_reducible refine LeO.bind ?_ (fun _ => ?_))
   | exact ih0 _ _ _
   | exact laws_eqChange.mono _ _ _ _ _ _ _ _ _ _ _
   | exact LeO.none _
   | refine LeO.ite ?_ ?_
   | refine LeO.bind ?_ (fun _ => ?_)
theorem laws_eqChangeS.mono : ∀ a0 a1 k, LeO (laws_eqChangeS.f k a0 a1) (laws_eqChangeS.f (k + 1) a0 a1) := by
 intro a0 a1 k
 have ih0 := laws_eqChangeS.mono_l k
 unfold laws_eqChangeS.f
 repeat' first
   | (with_reducible exact ih0 _ _ _)
   | (with_reducible exact laws_eqChange.mono _ _ _ _ _ _ _ _ _ _ _)
   | (with_reducible exact LeO.refl _)
   | (with_reducible exact LeO.none _)
   | (with_reducible refine LeO.ite ?_ ?_)
   | (with_reducible refine LeO.bind ?_ (fun _ => ?_))
   | exact ih0 _ _ _
   | exact laws_eqChange.mono _ _ _ _ _ _ _ _ _ _ _
   | exact LeO.none _
   | refine LeO.ite ?_ ?_
   | refine LeO.bind ?_ (fun _ => ?_)
def laws_eqChangeS.T6 : Bool × List (List Nat × List Nat) := (true, [([], []), ([], []), ([0, 1], [0, 1]), ([2], [2]), ([], []), ([], []), ([4, 5], [4, 5]), ([6], [6]), ([3, 7], [3, 7]), ([8], [8])])
def laws_eqChangeS.B6 : List Nat := [0, 0, 3, 7, 0, 0, 48, 112, 255, 511]
theorem laws_eqChangeS.tab6 : rtab .any (opsOf Tryd.f59 6) = laws_eqChangeS.T6 := by kernel_rfl
theorem laws_eqChangeS.bits6 : waitsOk laws_eqChangeS.T6.2 laws_eqChangeS.B6 = true := by kernel_rfl
set_option maxHeartbeats 8000000 in
set_option maxRecDepth 100000 in
theorem laws_eqChangeS.calls (k : Nat) (A0 : Option Addr) (c0 : Nat) (l0 : List (S83)) (A1 : Option Addr) (c1 : Nat) (l1 : List (S83)) (r : Bool) (w : World) (hr0 : Kd.C k83 w A0 l0.length l0) (hc0 : l0.length ≤ c0) (hr1 : Kd.C k83 w A1 l1.length l1) (hc1 : l1.length ≤ c1) (h : laws_eqChangeS.f k l0 l1 = some r) :
  Calls Tryd.prog 59 #[.slice A0 l0.length c0, .slice A1 l1.length c1] w fun e w' => e = .returned (.bool r) ∧ Below w.heap.size w w' := by
 have hu83 := Tryd.underlying83
 have HR0 := Aside0.mk hr0
 have HC0 := Aside0.mk hc0
 clear hr0 hc0
 have HR1 := Aside0.mk hr1
 have HC1 := Aside0.mk hc1
 clear hr1 hc1
 have HB := Aside0.mk (Below.refl w.heap.size w)
 have H : (if (l0.length : Int) = (l1.length : Int) then (laws_eqChangeS.l0 k l0 l1 0) else (some false)) = some r := h
 clear h
 by_cases c3 : (l0.length : Int) = (l1.length : Int)
 rotate_left
 ·rw [if_neg c3] at H
  have c3b0 : ((l0.length : Int) == (l1.length : Int)) = false := beq_eq_false_iff_ne.mpr c3
  have c3b1 : ((l0.length : Int) != (l1.length : Int)) = true := bne_iff_ne.mpr c3
  have c3b2 : (l0.length == l1.length) = false := by first | simpa using c3 | (simp at c3 ⊢; omega)
  obtain rfl := Option.some.inj H
  go_enter Tryd.func59, Tryd.ntmps59
  go_wp2
  go_ret
  exact ⟨EZa, HBa⟩
 rw [if_pos c3] at H
 have c3b0 : ((l0.length : Int) == (l1.length : Int)) = true := beq_iff_eq.mpr c3
 have c3b1 : ((l0.length : Int) != (l1.length : Int)) = false := bne_eq_false_iff_eq.mpr c3
 have c3b2 : (l0.length == l1.length) = true := by first | simpa using c3 | (simp at c3 ⊢; omega)
 clear c3
 have H' := Aside0.mk H
 clear H
 go_enter Tryd.func59, Tryd.ntmps59
 go_wp2
 go_loopg [5] k (fun kq v5 w' => ∃ (x5_1 : Int), v5 = .int .i64 x5_1 ∧ Aside0 (laws_eqChangeS.l0 kq l0 l1 x5_1 = some r) ∧ Aside0 (kq ≤ k) ∧ Aside0 (Below w.heap.size w w'))
 case atStart => exact ⟨(0), EZc, H', ⟨Nat.le_refl _⟩, ⟨HBa⟩⟩
 case round =>
  clear H'
  try clear c1
  try clear p2
  try clear c3
  try clear c3b0
  try clear c3b1
  try clear c3b2
  obtain ⟨x5_1, rfl, HA, HK1, HB⟩ := hrel
  cases gk with
  | zero => exact absurd HA.out (by simp [laws_eqChangeS.l0])
  | succ k1 =>
   have H := HA.out
   clear HA
   simp only [laws_eqChangeS.l0] at H
   by_cases c4 : x5_1 < (l0.length : Int)
   rotate_left
   ·rw [if_neg c4] at H
    have c4b0 : decide (x5_1 < (l0.length : Int)) = false := decide_eq_false c4
    clear c4
    obtain rfl := Option.some.inj H
    go_wp2
    go_ret
    exact ⟨EZa, HBa⟩
   rw [if_pos c4] at H
   have c4b0 : decide (x5_1 < (l0.length : Int)) = true := decide_eq_true c4
   clear c4
   by_cases c5 : 0 ≤ x5_1
   rotate_left
   ·rw [if_neg c5] at H
    exact absurd H (by simp)
   rw [if_pos c5] at H
   have c5b0 : decide (0 ≤ x5_1) = true := decide_eq_true c5
   clear c5
   by_cases c6 : x5_1 < (l1.length : Int)
   rotate_left
   ·rw [if_neg c6] at H
    exact absurd H (by simp)
   rw [if_pos c6] at H
   have c6b0 : decide (x5_1 < (l1.length : Int)) = true := decide_eq_true c6
   clear c6
   replace H := Option.bind_eq_some_iff.mp H
   obtain ⟨t441, A70, H⟩ := H
   replace H : (if t441 = true then (laws_eqChangeS.l0 k1 l0 l1 (wrap64 (x5_1 + 1))) else (some false)) = some r := H
   have A7 := Aside0.mk A70
   clear A70
   by_cases c8 : t441 = true
   rotate_left
   ·replace c8 := Bool.eq_false_iff.mpr c8
    subst c8
    have H1 : (some false) = some r := by rw [if_neg (show ¬ (false = true) by decide)] at H; exact H
    clear H
    have H := H1
    clear H1
    obtain rfl := Option.some.inj H
    try go_wp2
    have n0_ := Aside0.mk (below_drew1 HB.out)
    clear HB
    have HB := n0_
    clear n0_
    have p439 : 0 ≤ (x5_1 : Int) := ODz
    have q439 : x5_1 < (l0.length : Int) := ODz
    obtain ⟨ad439, A439_3, c439_3, A439_4, c439_4, e439, hx439_0, hx439_1, hx439_2, hx439_3, hx439_4, hl439_3, hi439_3, hl439_4, hi439_4⟩ := at_T83 HR0.out x5_1 p439 q439
    have hw439_4 := hx439_4
    have hw439_3 := hx439_3
    have hw439_2 := hx439_2
    have hw439_1 := hx439_1
    have hw439_0 := hx439_0
    cases e439
    replace hx439_0 := HXz HB hx439_0
    replace hx439_1 := HXz HB hx439_1
    replace hx439_2 := HXz HB hx439_2
    replace hx439_3 := HXz HB hx439_3
    replace hx439_4 := HXz HB hx439_4
    have HR439_3 := Aside0.mk hi439_3
    have HC439_3 := Aside0.mk hl439_3
    clear hi439_3 hl439_3
    have HR439_4 := Aside0.mk hi439_4
    have HC439_4 := Aside0.mk hl439_4
    clear hi439_4 hl439_4
    replace p439 := eq_true p439
    replace q439 := eq_true q439
    have p440 : 0 ≤ (x5_1 : Int) := ODz
    have q440 : x5_1 < (l1.length : Int) := ODz
    obtain ⟨ad440, A440_3, c440_3, A440_4, c440_4, e440, hx440_0, hx440_1, hx440_2, hx440_3, hx440_4, hl440_3, hi440_3, hl440_4, hi440_4⟩ := at_T83 HR1.out x5_1 p440 q440
    have hw440_4 := hx440_4
    have hw440_3 := hx440_3
    have hw440_2 := hx440_2
    have hw440_1 := hx440_1
    have hw440_0 := hx440_0
    cases e440
    replace hx440_0 := HXz HB hx440_0
    replace hx440_1 := HXz HB hx440_1
    replace hx440_2 := HXz HB hx440_2
    replace hx440_3 := HXz HB hx440_3
    replace hx440_4 := HXz HB hx440_4
    have HR440_3 := Aside0.mk hi440_3
    have HC440_3 := Aside0.mk hl440_3
    clear hi440_3 hl440_3
    have HR440_4 := Aside0.mk hi440_4
    have HC440_4 := Aside0.mk hl440_4
    clear hi440_4 hl440_4
    replace p440 := eq_true p440
    replace q440 := eq_true q440
    refine start_ (n := 10) (S := fun w' => w'.cell? (ad439.add ((x5_1).toNat * 5)) = some (.int .i64 ((rd_T83 l0 x5_1).f0)) ∧ w'.cell? ⟨(ad439.add ((x5_1).toNat * 5)).block, (ad439.add ((x5_1).toNat * 5)).off + 1, none⟩ = some (.int .i64 ((rd_T83 l0 x5_1).f1)) ∧ w'.cell? ⟨(ad439.add ((x5_1).toNat * 5)).block, (ad439.add ((x5_1).toNat * 5)).off + 2, none⟩ = some (.string ((rd_T83 l0 x5_1).f2)) ∧ w'.cell? ⟨(ad439.add ((x5_1).toNat * 5)).block, (ad439.add ((x5_1).toNat * 5)).off + 3, none⟩ = some (.slice A439_3 ((rd_T83 l0 x5_1).f3.f0).length c439_3) ∧ w'.cell? ⟨(ad439.add ((x5_1).toNat * 5)).block, (ad439.add ((x5_1).toNat * 5)).off + 4, none⟩ = some (.slice A439_4 ((rd_T83 l0 x5_1).f3.f1).length c439_4) ∧ w'.cell? (ad440.add ((x5_1).toNat * 5)) = some (.int .i64 ((rd_T83 l1 x5_1).f0)) ∧ w'.cell? ⟨(ad440.add ((x5_1).toNat * 5)).block, (ad440.add ((x5_1).toNat * 5)).off + 1, none⟩ = some (.int .i64 ((rd_T83 l1 x5_1).f1)) ∧ w'.cell? ⟨(ad440.add ((x5_1).toNat * 5)).block, (ad440.add ((x5_1).toNat * 5)).off + 2, none⟩ = some (.string ((rd_T83 l1 x5_1).f2)) ∧ w'.cell? ⟨(ad440.add ((x5_1).toNat * 5)).block, (ad440.add ((x5_1).toNat * 5)).off + 3, none⟩ = some (.slice A440_3 ((rd_T83 l1 x5_1).f3.f0).length c440_3) ∧ w'.cell? ⟨(ad440.add ((x5_1).toNat * 5)).block, (ad440.add ((x5_1).toNat * 5)).off + 4, none⟩ = some (.slice A440_4 ((rd_T83 l1 x5_1).f3.f1).length c440_4)) (ds := []) (bz 10 0) (by kernel_rfl) rfl (by kernel_rfl) ⟨(HXz HB hw439_0 :), (HXz HB hw439_1 :), (HXz HB hw439_2 :), (HXz HB hw439_3 :), (HXz HB hw439_4 :), (HXz HB hw440_0 :), (HXz HB hw440_1 :), (HXz HB hw440_2 :), (HXz HB hw440_3 :), (HXz HB hw440_4 :)⟩ (fun hHeld => ?_); refine with_tabW laws_eqChangeS.tab6 laws_eqChangeS.bits6 (fun HT_ HW_ => ?_)
    generalize wr.drew = w11 at HB HR439_3 HR439_4 HR440_3 HR440_4 hx439_0 hx439_1 hx439_2 hx439_3 hx439_4 hx440_0 hx440_1 hx440_2 hx440_3 hx440_4 hHeld ⊢
    refine PYz 0 17 (bz 10 1) rfl rfl (any_of HT_.out (by kernel_rfl)) ?_
    refine PYz 1 18 (bz 10 3) rfl rfl (any_of HT_.out (by kernel_rfl)) ?_
    refine PYz 2 19 (bz 10 7) rfl rfl (any_of HT_.out (by kernel_rfl)) ?_
    refine PYz 4 21 (bz 10 23) rfl rfl (any_of HT_.out (by kernel_rfl)) ?_
    refine PYz 5 22 (bz 10 55) rfl rfl (any_of HT_.out (by kernel_rfl)) ?_
    refine PYz 6 23 (bz 10 119) rfl rfl (any_of HT_.out (by kernel_rfl)) ?_
    refine take_ (i := 3) (N := some 20) (v := ?_) (a' := ?_) (bz 10 127) rfl rfl (take_ofW HT_.out HW_.out (by kernel_rfl)) (fun _ _ _ h => h) (Or.inl ⟨by rfl, ?_⟩) hHeld ?_ ?_
    rotate_left
    ·rintro w' ⟨s0, s1, s2, s3, s4, s5, s6, s7, s8, s9⟩
     go_simp
     with_reducible rfl
    rotate_left
    ·simp only [PUz]
     rfl
    refine take_ (i := 7) (N := some 24) (v := ?_) (a' := ?_) (bz 10 255) rfl rfl (take_ofW HT_.out HW_.out (by kernel_rfl)) (fun _ _ _ h => h) (Or.inl ⟨by rfl, ?_⟩) hHeld ?_ ?_
    rotate_left
    ·rintro w' ⟨s0, s1, s2, s3, s4, s5, s6, s7, s8, s9⟩
     go_simp
     with_reducible rfl
    rotate_left
    ·simp only [PUz]
     rfl
    refine one_ (i := 8) (N := some 25) (bz 10 511) rfl rfl (one_of HT_.out (by kernel_rfl)) (by decide) (fun K hK => ?_)
    refine goes_ Tryd.func100 (by kernel_rfl) rfl #[.agg #[.int .i64 ((rd_T83 l0 x5_1).f0), .int .i64 ((rd_T83 l0 x5_1).f1), .string ((rd_T83 l0 x5_1).f2), .slice A439_3 ((rd_T83 l0 x5_1).f3.f0).length c439_3, .slice A439_4 ((rd_T83 l0 x5_1).f3.f1).length c439_4], .agg #[.int .i64 ((rd_T83 l1 x5_1).f0), .int .i64 ((rd_T83 l1 x5_1).f1), .string ((rd_T83 l1 x5_1).f2), .slice A440_3 ((rd_T83 l1 x5_1).f3.f0).length c440_3, .slice A440_4 ((rd_T83 l1 x5_1).f3.f1).length c440_4]] (by rfl) rfl rfl MPz ?_
    with_reducible refine (laws_eqChange.calls k1 ((rd_T83 l0 x5_1).f0) ((rd_T83 l0 x5_1).f1) ((rd_T83 l0 x5_1).f2) _ _ ((rd_T83 l0 x5_1).f3.f0) _ _ ((rd_T83 l0 x5_1).f3.f1) ((rd_T83 l1 x5_1).f0) ((rd_T83 l1 x5_1).f1) ((rd_T83 l1 x5_1).f2) _ _ ((rd_T83 l1 x5_1).f3.f0) _ _ ((rd_T83 l1 x5_1).f3.f1) false _ ?side1 ?side2 ?side3 ?side4 ?side5 ?side6 ?side7 ?side8 A7.out).mono ?_
    (case side1 => exact KCz (Kd.C_below HR439_3.out HB.out))
    (case side2 => exact HC439_3.out)
    (case side3 => exact KCz (Kd.C_below HR439_4.out HB.out))
    (case side4 => exact HC439_4.out)
    (case side5 => exact KCz (Kd.C_below HR440_3.out HB.out))
    (case side6 => exact HC440_3.out)
    (case side7 => exact KCz (Kd.C_below HR440_4.out HB.out))
    (case side8 => exact HC440_4.out)
    rintro e w12 ⟨rfl, hb⟩
    refine ⟨_, rfl, ?_⟩
    have n0_ := Aside0.mk (below_step HBa hb)
    clear HB
    have HB := n0_
    clear n0_
    (try clear hb)
    (try clear hb2)
    (try clear hk)
    (try clear hi)
    refine hK.out _ _ ⟨(HXz HB hw439_0 :), (HXz HB hw439_1 :), (HXz HB hw439_2 :), (HXz HB hw439_3 :), (HXz HB hw439_4 :), (HXz HB hw440_0 :), (HXz HB hw440_1 :), (HXz HB hw440_2 :), (HXz HB hw440_3 :), (HXz HB hw440_4 :)⟩ (fun hHeld => ?_)
    clear hK K
    refine norm_ (a' := ?_) ?_ ?_
    rotate_left
    ·show Act.put _ (some 25) _ = _
     simp only [PUz]
     rfl
    refine PYz 9 26 (bz 10 1023) rfl rfl (any_of HT_.out (by kernel_rfl)) ?_
    refine done_ (done_of HT_.out (by kernel_rfl)) ?_
    try go_wp2
    go_ret
    exact ⟨EZa, HBa⟩
   subst c8
   have H1 : (laws_eqChangeS.l0 k1 l0 l1 (wrap64 (x5_1 + 1))) = some r := by rw [if_pos rfl] at H; exact H
   clear H
   have H := H1
   clear H1
   have H' := Aside0.mk H
   clear H
   try go_wp2
   have n0_ := Aside0.mk (below_drew1 HB.out)
   clear HB
   have HB := n0_
   clear n0_
   have p439 : 0 ≤ (x5_1 : Int) := ODz
   have q439 : x5_1 < (l0.length : Int) := ODz
   obtain ⟨ad439, A439_3, c439_3, A439_4, c439_4, e439, hx439_0, hx439_1, hx439_2, hx439_3, hx439_4, hl439_3, hi439_3, hl439_4, hi439_4⟩ := at_T83 HR0.out x5_1 p439 q439
   have hw439_4 := hx439_4
   have hw439_3 := hx439_3
   have hw439_2 := hx439_2
   have hw439_1 := hx439_1
   have hw439_0 := hx439_0
   cases e439
   replace hx439_0 := HXz HB hx439_0
   replace hx439_1 := HXz HB hx439_1
   replace hx439_2 := HXz HB hx439_2
   replace hx439_3 := HXz HB hx439_3
   replace hx439_4 := HXz HB hx439_4
   have HR439_3 := Aside0.mk hi439_3
   have HC439_3 := Aside0.mk hl439_3
   clear hi439_3 hl439_3
   have HR439_4 := Aside0.mk hi439_4
   have HC439_4 := Aside0.mk hl439_4
   clear hi439_4 hl439_4
   replace p439 := eq_true p439
   replace q439 := eq_true q439
   have p440 : 0 ≤ (x5_1 : Int) := ODz
   have q440 : x5_1 < (l1.length : Int) := ODz
   obtain ⟨ad440, A440_3, c440_3, A440_4, c440_4, e440, hx440_0, hx440_1, hx440_2, hx440_3, hx440_4, hl440_3, hi440_3, hl440_4, hi440_4⟩ := at_T83 HR1.out x5_1 p440 q440
   have hw440_4 := hx440_4
   have hw440_3 := hx440_3
   have hw440_2 := hx440_2
   have hw440_1 := hx440_1
   have hw440_0 := hx440_0
   cases e440
   replace hx440_0 := HXz HB hx440_0
   replace hx440_1 := HXz HB hx440_1
   replace hx440_2 := HXz HB hx440_2
   replace hx440_3 := HXz HB hx440_3
   replace hx440_4 := HXz HB hx440_4
   have HR440_3 := Aside0.mk hi440_3
   have HC440_3 := Aside0.mk hl440_3
   clear hi440_3 hl440_3
   have HR440_4 := Aside0.mk hi440_4
   have HC440_4 := Aside0.mk hl440_4
   clear hi440_4 hl440_4
   replace p440 := eq_true p440
   replace q440 := eq_true q440
   refine start_ (n := 10) (S := fun w' => w'.cell? (ad439.add ((x5_1).toNat * 5)) = some (.int .i64 ((rd_T83 l0 x5_1).f0)) ∧ w'.cell? ⟨(ad439.add ((x5_1).toNat * 5)).block, (ad439.add ((x5_1).toNat * 5)).off + 1, none⟩ = some (.int .i64 ((rd_T83 l0 x5_1).f1)) ∧ w'.cell? ⟨(ad439.add ((x5_1).toNat * 5)).block, (ad439.add ((x5_1).toNat * 5)).off + 2, none⟩ = some (.string ((rd_T83 l0 x5_1).f2)) ∧ w'.cell? ⟨(ad439.add ((x5_1).toNat * 5)).block, (ad439.add ((x5_1).toNat * 5)).off + 3, none⟩ = some (.slice A439_3 ((rd_T83 l0 x5_1).f3.f0).length c439_3) ∧ w'.cell? ⟨(ad439.add ((x5_1).toNat * 5)).block, (ad439.add ((x5_1).toNat * 5)).off + 4, none⟩ = some (.slice A439_4 ((rd_T83 l0 x5_1).f3.f1).length c439_4) ∧ w'.cell? (ad440.add ((x5_1).toNat * 5)) = some (.int .i64 ((rd_T83 l1 x5_1).f0)) ∧ w'.cell? ⟨(ad440.add ((x5_1).toNat * 5)).block, (ad440.add ((x5_1).toNat * 5)).off + 1, none⟩ = some (.int .i64 ((rd_T83 l1 x5_1).f1)) ∧ w'.cell? ⟨(ad440.add ((x5_1).toNat * 5)).block, (ad440.add ((x5_1).toNat * 5)).off + 2, none⟩ = some (.string ((rd_T83 l1 x5_1).f2)) ∧ w'.cell? ⟨(ad440.add ((x5_1).toNat * 5)).block, (ad440.add ((x5_1).toNat * 5)).off + 3, none⟩ = some (.slice A440_3 ((rd_T83 l1 x5_1).f3.f0).length c440_3) ∧ w'.cell? ⟨(ad440.add ((x5_1).toNat * 5)).block, (ad440.add ((x5_1).toNat * 5)).off + 4, none⟩ = some (.slice A440_4 ((rd_T83 l1 x5_1).f3.f1).length c440_4)) (ds := []) (bz 10 0) (by kernel_rfl) rfl (by kernel_rfl) ⟨(HXz HB hw439_0 :), (HXz HB hw439_1 :), (HXz HB hw439_2 :), (HXz HB hw439_3 :), (HXz HB hw439_4 :), (HXz HB hw440_0 :), (HXz HB hw440_1 :), (HXz HB hw440_2 :), (HXz HB hw440_3 :), (HXz HB hw440_4 :)⟩ (fun hHeld => ?_); refine with_tabW laws_eqChangeS.tab6 laws_eqChangeS.bits6 (fun HT_ HW_ => ?_)
   generalize wr.drew = w9 at HB HR439_3 HR439_4 HR440_3 HR440_4 hx439_0 hx439_1 hx439_2 hx439_3 hx439_4 hx440_0 hx440_1 hx440_2 hx440_3 hx440_4 hHeld ⊢
   refine PYz 0 17 (bz 10 1) rfl rfl (any_of HT_.out (by kernel_rfl)) ?_
   refine PYz 1 18 (bz 10 3) rfl rfl (any_of HT_.out (by kernel_rfl)) ?_
   refine PYz 2 19 (bz 10 7) rfl rfl (any_of HT_.out (by kernel_rfl)) ?_
   refine PYz 4 21 (bz 10 23) rfl rfl (any_of HT_.out (by kernel_rfl)) ?_
   refine PYz 5 22 (bz 10 55) rfl rfl (any_of HT_.out (by kernel_rfl)) ?_
   refine PYz 6 23 (bz 10 119) rfl rfl (any_of HT_.out (by kernel_rfl)) ?_
   refine take_ (i := 3) (N := some 20) (v := ?_) (a' := ?_) (bz 10 127) rfl rfl (take_ofW HT_.out HW_.out (by kernel_rfl)) (fun _ _ _ h => h) (Or.inl ⟨by rfl, ?_⟩) hHeld ?_ ?_
   rotate_left
   ·rintro w' ⟨s0, s1, s2, s3, s4, s5, s6, s7, s8, s9⟩
    go_simp
    with_reducible rfl
   rotate_left
   ·simp only [PUz]
    rfl
   refine take_ (i := 7) (N := some 24) (v := ?_) (a' := ?_) (bz 10 255) rfl rfl (take_ofW HT_.out HW_.out (by kernel_rfl)) (fun _ _ _ h => h) (Or.inl ⟨by rfl, ?_⟩) hHeld ?_ ?_
   rotate_left
   ·rintro w' ⟨s0, s1, s2, s3, s4, s5, s6, s7, s8, s9⟩
    go_simp
    with_reducible rfl
   rotate_left
   ·simp only [PUz]
    rfl
   refine one_ (i := 8) (N := some 25) (bz 10 511) rfl rfl (one_of HT_.out (by kernel_rfl)) (by decide) (fun K hK => ?_)
   refine goes_ Tryd.func100 (by kernel_rfl) rfl #[.agg #[.int .i64 ((rd_T83 l0 x5_1).f0), .int .i64 ((rd_T83 l0 x5_1).f1), .string ((rd_T83 l0 x5_1).f2), .slice A439_3 ((rd_T83 l0 x5_1).f3.f0).length c439_3, .slice A439_4 ((rd_T83 l0 x5_1).f3.f1).length c439_4], .agg #[.int .i64 ((rd_T83 l1 x5_1).f0), .int .i64 ((rd_T83 l1 x5_1).f1), .string ((rd_T83 l1 x5_1).f2), .slice A440_3 ((rd_T83 l1 x5_1).f3.f0).length c440_3, .slice A440_4 ((rd_T83 l1 x5_1).f3.f1).length c440_4]] (by rfl) rfl rfl MPz ?_
   with_reducible refine (laws_eqChange.calls k1 ((rd_T83 l0 x5_1).f0) ((rd_T83 l0 x5_1).f1) ((rd_T83 l0 x5_1).f2) _ _ ((rd_T83 l0 x5_1).f3.f0) _ _ ((rd_T83 l0 x5_1).f3.f1) ((rd_T83 l1 x5_1).f0) ((rd_T83 l1 x5_1).f1) ((rd_T83 l1 x5_1).f2) _ _ ((rd_T83 l1 x5_1).f3.f0) _ _ ((rd_T83 l1 x5_1).f3.f1) true _ ?side1 ?side2 ?side3 ?side4 ?side5 ?side6 ?side7 ?side8 A7.out).mono ?_
   (case side1 => exact KCz (Kd.C_below HR439_3.out HB.out))
   (case side2 => exact HC439_3.out)
   (case side3 => exact KCz (Kd.C_below HR439_4.out HB.out))
   (case side4 => exact HC439_4.out)
   (case side5 => exact KCz (Kd.C_below HR440_3.out HB.out))
   (case side6 => exact HC440_3.out)
   (case side7 => exact KCz (Kd.C_below HR440_4.out HB.out))
   (case side8 => exact HC440_4.out)
   rintro e w10 ⟨rfl, hb⟩
   refine ⟨_, rfl, ?_⟩
   have n0_ := Aside0.mk (below_step HBa hb)
   clear HB
   have HB := n0_
   clear n0_
   (try clear hb)
   (try clear hb2)
   (try clear hk)
   (try clear hi)
   refine hK.out _ _ ⟨(HXz HB hw439_0 :), (HXz HB hw439_1 :), (HXz HB hw439_2 :), (HXz HB hw439_3 :), (HXz HB hw439_4 :), (HXz HB hw440_0 :), (HXz HB hw440_1 :), (HXz HB hw440_2 :), (HXz HB hw440_3 :), (HXz HB hw440_4 :)⟩ (fun hHeld => ?_)
   clear hK K
   refine norm_ (a' := ?_) ?_ ?_
   rotate_left
   ·show Act.put _ (some 25) _ = _
    simp only [PUz]
    rfl
   refine PYz 9 26 (bz 10 1023) rfl rfl (any_of HT_.out (by kernel_rfl)) ?_
   refine done_ (done_of HT_.out (by kernel_rfl)) ?_
   try go_wp2
   go_roundg k1
   case measure => have := HK1.out; omega
   case rel => exact ⟨(wrap64 (x5_1 + 1)), EZc, H', ⟨by have := HK1.out; omega⟩, ⟨HBa⟩⟩
def laws_eqChanges.f (k : Nat) (a0_0 : Int) (l0_1 : List (S83)) (a1_0 : Int) (l1_1 : List (S83)) : Option (Bool) := if a0_0 = a1_0 then ((laws_eqChangeS.f k l0_1 l1_1).bind fun t444 => (if t444 = true then (some true) else (some false))) else (some false)
theorem laws_eqChanges.mono : ∀ a0 a1 a2 a3 k, LeO (laws_eqChanges.f k a0 a1 a2 a3) (laws_eqChanges.f (k + 1) a0 a1 a2 a3) := by
 intro a0 a1 a2 a3 k
 unfold laws_eqChanges.f
 repeat' first
   | (with_reducible exact laws_eqChangeS.mono _ _ _)
   | (with_reducible exact LeO.refl _)
   | (with_reducible exact LeO.none _)
   | (with_reducible refine LeO.ite ?_ ?_)
   | (with_reducible refine LeO.bind ?_ (fun _ => ?_))
   | exact laws_eqChangeS.mono _ _ _
   | exact LeO.none _
   | refine LeO.ite ?_ ?_
   | refine LeO.bind ?_ (fun _ => ?_)
set_option maxHeartbeats 8000000 in
set_option maxRecDepth 100000 in
theorem laws_eqChanges.calls (k : Nat) (a0_0 : Int) (A0_1 : Option Addr) (c0_1 : Nat) (l0_1 : List (S83)) (a1_0 : Int) (A1_1 : Option Addr) (c1_1 : Nat) (l1_1 : List (S83)) (r : Bool) (w : World) (hr0_1 : Kd.C k83 w A0_1 l0_1.length l0_1) (hc0_1 : l0_1.length ≤ c0_1) (hr1_1 : Kd.C k83 w A1_1 l1_1.length l1_1) (hc1_1 : l1_1.length ≤ c1_1) (h : laws_eqChanges.f k a0_0 l0_1 a1_0 l1_1 = some r) :
  Calls Tryd.prog 23 #[.agg #[.int .i64 a0_0, .slice A0_1 l0_1.length c0_1], .agg #[.int .i64 a1_0, .slice A1_1 l1_1.length c1_1]] w fun e w' => e = .returned (.bool r) ∧ Below w.heap.size w w' := by
 have hu45 := Tryd.underlying45
 have HR0_1 := Aside0.mk hr0_1
 have HC0_1 := Aside0.mk hc0_1
 clear hr0_1 hc0_1
 have HR1_1 := Aside0.mk hr1_1
 have HC1_1 := Aside0.mk hc1_1
 clear hr1_1 hc1_1
 have HB := Aside0.mk (Below.refl w.heap.size w)
 have H : (if a0_0 = a1_0 then ((laws_eqChangeS.f k l0_1 l1_1).bind fun t444 => (if t444 = true then (some true) else (some false))) else (some false)) = some r := h
 clear h
 by_cases c3 : a0_0 = a1_0
 rotate_left
 ·rw [if_neg c3] at H
  have c3b0 : (a0_0 == a1_0) = false := beq_eq_false_iff_ne.mpr c3
  have c3b1 : (a0_0 != a1_0) = true := bne_iff_ne.mpr c3
  obtain rfl := Option.some.inj H
  go_enter Tryd.func23, Tryd.ntmps23
  go_wp2_with (first | ((with_reducible refine gate_dst (N := 2) rfl ?_); refine box_event ?hg (N := 2) ?hd (cs := #[.int .i64 a0_0, .slice A0_1 l0_1.length c0_1]) (t := 45) ?hr ?_; (case hd => rfl); (case hg => rfl); (case hr => first | (go_simp; done) | (go_simp; rfl)); intro gb442 hg w18 hbox hb; have n0_ := Aside0.mk (below_step HBa hb); have n1_ := Aside0.mk (hbox); have n2_ := BSz w hg HBa; have n3_ := BSz w hg HBa; clear HB; have HB := n0_; have BK442 := n1_; have GW442 := n2_; have GE442 := n3_; clear n0_ n1_ n2_ n3_; clear hb hbox hg) | ((with_reducible refine gate_dst (N := 3) rfl ?_); refine box_event ?hg (N := 3) ?hd (cs := #[.int .i64 a1_0, .slice A1_1 l1_1.length c1_1]) (t := 45) ?hr ?_; (case hd => rfl); (case hg => rfl); (case hr => first | (go_simp; done) | (go_simp; rfl)); intro gb443 hg w19 hbox hb; have n0_ := BBz BK442 hb; have n1_ := Aside0.mk (below_step (HBb GE442) hb); have n2_ := Aside0.mk (hbox); have n3_ := BSz w hg (HBb GE442); have n4_ := BSz w hg (HBb GE442); have n5_ := BNz BK442 hg; have n6_ := BMz BK442 hg; clear BK442; clear HB; have BK442 := n0_; have HB := n1_; have BK443 := n2_; have GW443 := n3_; have GE443 := n4_; have NB442_443 := n5_; have NB443_442 := n6_; clear n0_ n1_ n2_ n3_ n4_ n5_ n6_; clear hb hbox hg; have hnb20 := NB442_443.out; have hnc20 := NB443_442.out; have hcz21_0 := C1z BK442; have hcz21_1 := C2z BK442; have hfz21_0 := blk_frozen BK442.out 0; have hfz21_1 := blk_frozen BK442.out 1; have hcz22_0 := C1z BK443; have hcz22_1 := C2z BK443; have hfz22_0 := blk_frozen BK443.out 0; have hfz22_1 := blk_frozen BK443.out 1))
  go_ret
  exact ⟨EZa, HBc GE442 GE443⟩
 rw [if_pos c3] at H
 have c3b0 : (a0_0 == a1_0) = true := beq_iff_eq.mpr c3
 have c3b1 : (a0_0 != a1_0) = false := bne_eq_false_iff_eq.mpr c3
 clear c3
 replace H := Option.bind_eq_some_iff.mp H
 obtain ⟨t444, A40, H⟩ := H
 replace H : (if t444 = true then (some true) else (some false)) = some r := H
 have A4 := Aside0.mk A40
 clear A40
 by_cases c5 : t444 = true
 ·subst c5
  have H1 : (some true) = some r := by rw [if_pos rfl] at H; exact H
  clear H
  have H := H1
  clear H1
  obtain rfl := Option.some.inj H
  go_enter Tryd.func23, Tryd.ntmps23
  go_wp2_with (first | ((with_reducible refine gate_dst (N := 2) rfl ?_); refine box_event ?hg (N := 2) ?hd (cs := #[.int .i64 a0_0, .slice A0_1 l0_1.length c0_1]) (t := 45) ?hr ?_; (case hd => rfl); (case hg => rfl); (case hr => first | (go_simp; done) | (go_simp; rfl)); intro gb442 hg w6 hbox hb; have n0_ := Aside0.mk (below_step HBa hb); have n1_ := Aside0.mk (hbox); have n2_ := BSz w hg HBa; have n3_ := BSz w hg HBa; clear HB; have HB := n0_; have BK442 := n1_; have GW442 := n2_; have GE442 := n3_; clear n0_ n1_ n2_ n3_; clear hb hbox hg) | ((with_reducible refine gate_dst (N := 3) rfl ?_); refine box_event ?hg (N := 3) ?hd (cs := #[.int .i64 a1_0, .slice A1_1 l1_1.length c1_1]) (t := 45) ?hr ?_; (case hd => rfl); (case hg => rfl); (case hr => first | (go_simp; done) | (go_simp; rfl)); intro gb443 hg w7 hbox hb; have n0_ := BBz BK442 hb; have n1_ := Aside0.mk (below_step (HBb GE442) hb); have n2_ := Aside0.mk (hbox); have n3_ := BSz w hg (HBb GE442); have n4_ := BSz w hg (HBb GE442); have n5_ := BNz BK442 hg; have n6_ := BMz BK442 hg; clear BK442; clear HB; have BK442 := n0_; have HB := n1_; have BK443 := n2_; have GW443 := n3_; have GE443 := n4_; have NB442_443 := n5_; have NB443_442 := n6_; clear n0_ n1_ n2_ n3_ n4_ n5_ n6_; clear hb hbox hg; have hnb8 := NB442_443.out; have hnc8 := NB443_442.out; have hcz9_0 := C1z BK442; have hcz9_1 := C2z BK442; have hfz9_0 := blk_frozen BK442.out 0; have hfz9_1 := blk_frozen BK442.out 1; have hcz10_0 := C1z BK443; have hcz10_1 := C2z BK443; have hfz10_0 := blk_frozen BK443.out 0; have hfz10_1 := blk_frozen BK443.out 1) | ((with_reducible refine gate_callee (f := 59) rfl ?_); refine goesL_ (some 14) rfl rfl Tryd.func59 (by kernel_rfl) rfl #[.slice A0_1 l0_1.length c0_1, .slice A1_1 l1_1.length c1_1] rfl MPz ?_; (with_reducible refine (laws_eqChangeS.calls k _ _ l0_1 _ _ l1_1 true _ ?side1 ?side2 ?side3 ?side4 A4.out).mono ?_); (case side1 => exact KCz (Kd.C_below HR0_1.out HB.out)); (case side2 => exact HC0_1.out); (case side3 => exact KCz (Kd.C_below HR1_1.out HB.out)); (case side4 => exact HC1_1.out); rintro e w11 ⟨rfl, hb⟩; refine ⟨_, rfl, ?_⟩; have n0_ := BBz BK442 hb; have n1_ := BBz BK443 hb; have n2_ := Aside0.mk (below_step (HBc GE442 GE443) hb); clear BK442; clear BK443; clear HB; have BK442 := n0_; have BK443 := n1_; have HB := n2_; clear n0_ n1_ n2_; (try clear hb); (try clear hb2); (try clear hk); (try clear hi)))
  go_ret
  exact ⟨EZa, HBc GE442 GE443⟩
 replace c5 := Bool.eq_false_iff.mpr c5
 subst c5
 have H1 : (some false) = some r := by rw [if_neg (show ¬ (false = true) by decide)] at H; exact H
 clear H
 have H := H1
 clear H1
 obtain rfl := Option.some.inj H
 go_enter Tryd.func23, Tryd.ntmps23
 go_wp2_with (first | ((with_reducible refine gate_dst (N := 2) rfl ?_); refine box_event ?hg (N := 2) ?hd (cs := #[.int .i64 a0_0, .slice A0_1 l0_1.length c0_1]) (t := 45) ?hr ?_; (case hd => rfl); (case hg => rfl); (case hr => first | (go_simp; done) | (go_simp; rfl)); intro gb442 hg w12 hbox hb; have n0_ := Aside0.mk (below_step HBa hb); have n1_ := Aside0.mk (hbox); have n2_ := BSz w hg HBa; have n3_ := BSz w hg HBa; clear HB; have HB := n0_; have BK442 := n1_; have GW442 := n2_; have GE442 := n3_; clear n0_ n1_ n2_ n3_; clear hb hbox hg) | ((with_reducible refine gate_dst (N := 3) rfl ?_); refine box_event ?hg (N := 3) ?hd (cs := #[.int .i64 a1_0, .slice A1_1 l1_1.length c1_1]) (t := 45) ?hr ?_; (case hd => rfl); (case hg => rfl); (case hr => first | (go_simp; done) | (go_simp; rfl)); intro gb443 hg w13 hbox hb; have n0_ := BBz BK442 hb; have n1_ := Aside0.mk (below_step (HBb GE442) hb); have n2_ := Aside0.mk (hbox); have n3_ := BSz w hg (HBb GE442); have n4_ := BSz w hg (HBb GE442); have n5_ := BNz BK442 hg; have n6_ := BMz BK442 hg; clear BK442; clear HB; have BK442 := n0_; have HB := n1_; have BK443 := n2_; have GW443 := n3_; have GE443 := n4_; have NB442_443 := n5_; have NB443_442 := n6_; clear n0_ n1_ n2_ n3_ n4_ n5_ n6_; clear hb hbox hg; have hnb14 := NB442_443.out; have hnc14 := NB443_442.out; have hcz15_0 := C1z BK442; have hcz15_1 := C2z BK442; have hfz15_0 := blk_frozen BK442.out 0; have hfz15_1 := blk_frozen BK442.out 1; have hcz16_0 := C1z BK443; have hcz16_1 := C2z BK443; have hfz16_0 := blk_frozen BK443.out 0; have hfz16_1 := blk_frozen BK443.out 1) | ((with_reducible refine gate_callee (f := 59) rfl ?_); refine goesL_ (some 14) rfl rfl Tryd.func59 (by kernel_rfl) rfl #[.slice A0_1 l0_1.length c0_1, .slice A1_1 l1_1.length c1_1] rfl MPz ?_; (with_reducible refine (laws_eqChangeS.calls k _ _ l0_1 _ _ l1_1 false _ ?side1 ?side2 ?side3 ?side4 A4.out).mono ?_); (case side1 => exact KCz (Kd.C_below HR0_1.out HB.out)); (case side2 => exact HC0_1.out); (case side3 => exact KCz (Kd.C_below HR1_1.out HB.out)); (case side4 => exact HC1_1.out); rintro e w17 ⟨rfl, hb⟩; refine ⟨_, rfl, ?_⟩; have n0_ := BBz BK442 hb; have n1_ := BBz BK443 hb; have n2_ := Aside0.mk (below_step (HBc GE442 GE443) hb); clear BK442; clear BK443; clear HB; have BK442 := n0_; have BK443 := n1_; have HB := n2_; clear n0_ n1_ n2_; (try clear hb); (try clear hb2); (try clear hk); (try clear hi)))
 go_ret
 exact ⟨EZa, HBc GE442 GE443⟩
def laws_FnExactChangesRight.f (k : Nat) (a0_0 : Int) (l0_1 : List (S123)) : Option (Bool) := (laws_szChanges.f k a0_0 l0_1 1048576).bind fun t446 => (if t446 < 0 then (some true) else ((laws_toChanges.f k a0_0 l0_1).bind fun bt447 => ((spec_ChangesRight.f k bt447.1 bt447.2).bind fun t451 => ((laws_toChanges.f k a0_0 l0_1).bind fun bt452 => ((impl_ChangesRight.f k bt452.1 bt452.2).bind fun t457 => (if (t457 != t451) = true then (some false) else ((laws_toChanges.f k a0_0 l0_1).bind fun bt458 => ((laws_eqChanges.f k bt452.1 bt452.2 bt458.1 bt458.2).bind fun t462 => (if t462 = true then (some true) else (some false))))))))))
theorem laws_FnExactChangesRight.mono : ∀ a0 a1 k, LeO (laws_FnExactChangesRight.f k a0 a1) (laws_FnExactChangesRight.f (k + 1) a0 a1) := by
 intro a0 a1 k
 unfold laws_FnExactChangesRight.f
 repeat' first
   | (with_reducible exact impl_ChangesRight.mono _ _ _)
   | (with_reducible exact laws_eqChanges.mono _ _ _ _ _)
   | (with_reducible exact laws_szChanges.mono _ _ _ _)
   | (with_reducible exact laws_toChanges.mono _ _ _)
   | (with_reducible exact spec_ChangesRight.mono _ _ _)
   | (with_reducible exact LeO.refl _)
   | (with_reducible exact LeO.none _)
   | (with_reducible refine LeO.ite ?_ ?_)
   | (with_reducible refine LeO.bind ?_ (fun _ => ?_))
   | exact impl_ChangesRight.mono _ _ _
   | exact laws_eqChanges.mono _ _ _ _ _
   | exact laws_szChanges.mono _ _ _ _
   | exact laws_toChanges.mono _ _ _
   | exact spec_ChangesRight.mono _ _ _
   | exact LeO.none _
   | refine LeO.ite ?_ ?_
   | refine LeO.bind ?_ (fun _ => ?_)
set_option maxHeartbeats 8000000 in
set_option maxRecDepth 100000 in
theorem laws_FnExactChangesRight.calls (k : Nat) (a0_0 : Int) (A0_1 : Option Addr) (c0_1 : Nat) (l0_1 : List (S123)) (r : Bool) (w : World) (hr0_1 : Kd.C k123 w A0_1 l0_1.length l0_1) (hc0_1 : l0_1.length ≤ c0_1) (h : laws_FnExactChangesRight.f k a0_0 l0_1 = some r) :
  Calls Tryd.prog 5 #[.agg #[.int .i64 a0_0, .slice A0_1 l0_1.length c0_1]] w fun e w' => e = .returned (.bool r) ∧ Below w.heap.size w w' := by
 have hu40 := Tryd.underlying40
 have hu45 := Tryd.underlying45
 have HR0_1 := Aside0.mk hr0_1
 have HC0_1 := Aside0.mk hc0_1
 clear hr0_1 hc0_1
 have HB := Aside0.mk (Below.refl w.heap.size w)
 have H : ((laws_szChanges.f k a0_0 l0_1 1048576).bind fun t446 => (if t446 < 0 then (some true) else ((laws_toChanges.f k a0_0 l0_1).bind fun bt447 => ((spec_ChangesRight.f k bt447.1 bt447.2).bind fun t451 => ((laws_toChanges.f k a0_0 l0_1).bind fun bt452 => ((impl_ChangesRight.f k bt452.1 bt452.2).bind fun t457 => (if (t457 != t451) = true then (some false) else ((laws_toChanges.f k a0_0 l0_1).bind fun bt458 => ((laws_eqChanges.f k bt452.1 bt452.2 bt458.1 bt458.2).bind fun t462 => (if t462 = true then (some true) else (some false))))))))))) = some r := h
 clear h
 replace H := Option.bind_eq_some_iff.mp H
 obtain ⟨t446, A20, H⟩ := H
 replace H : (if t446 < 0 then (some true) else ((laws_toChanges.f k a0_0 l0_1).bind fun bt447 => ((spec_ChangesRight.f k bt447.1 bt447.2).bind fun t451 => ((laws_toChanges.f k a0_0 l0_1).bind fun bt452 => ((impl_ChangesRight.f k bt452.1 bt452.2).bind fun t457 => (if (t457 != t451) = true then (some false) else ((laws_toChanges.f k a0_0 l0_1).bind fun bt458 => ((laws_eqChanges.f k bt452.1 bt452.2 bt458.1 bt458.2).bind fun t462 => (if t462 = true then (some true) else (some false)))))))))) = some r := H
 have A2 := Aside0.mk A20
 clear A20
 by_cases c3 : t446 < 0
 ·rw [if_pos c3] at H
  have c3b0 : decide (t446 < 0) = true := decide_eq_true c3
  clear c3
  obtain rfl := Option.some.inj H
  go_enter Tryd.func5, Tryd.ntmps5
  go_wp2_with (first | ((with_reducible refine gate_dst (N := 1) rfl ?_); refine box_event ?hg (N := 1) ?hd (cs := #[.int .i64 a0_0, .slice A0_1 l0_1.length c0_1]) (t := 40) ?hr ?_; (case hd => rfl); (case hg => rfl); (case hr => first | (go_simp; done) | (go_simp; rfl)); intro gb445 hg w4 hbox hb; have n0_ := Aside0.mk (below_step HBa hb); have n1_ := Aside0.mk (hbox); have n2_ := BSz w hg HBa; have n3_ := BSz w hg HBa; clear HB; have HB := n0_; have BK445 := n1_; have GW445 := n2_; have GE445 := n3_; clear n0_ n1_ n2_ n3_; clear hb hbox hg; have hcz5_0 := C1z BK445; have hcz5_1 := C2z BK445; have hfz5_0 := blk_frozen BK445.out 0; have hfz5_1 := blk_frozen BK445.out 1) | ((with_reducible refine gate_callee (f := 19) rfl ?_); refine goesL_ (some 9) rfl rfl Tryd.func19 (by kernel_rfl) rfl #[.agg #[.int .i64 a0_0, .slice A0_1 l0_1.length c0_1], .int .i64 1048576] rfl MPz ?_; (with_reducible refine (laws_szChanges.calls k a0_0 _ _ l0_1 1048576 t446 _ ?side1 ?side2 A2.out).mono ?_); (case side1 => exact KCz (Kd.C_below HR0_1.out HB.out)); (case side2 => exact HC0_1.out); rintro e w6 ⟨rfl, hb⟩; refine ⟨_, rfl, ?_⟩; have n0_ := BBz BK445 hb; have n1_ := Aside0.mk (below_step (HBb GE445) hb); clear BK445; clear HB; have BK445 := n0_; have HB := n1_; clear n0_ n1_; (try clear hb); (try clear hb2); (try clear hk); (try clear hi)))
  go_ret
  exact ⟨EZa, HBb GE445⟩
 rw [if_neg c3] at H
 have c3b0 : decide (t446 < 0) = false := decide_eq_false c3
 clear c3
 replace H := Option.bind_eq_some_iff.mp H
 obtain ⟨⟨t447, t448⟩, A70, H⟩ := H
 replace H : ((spec_ChangesRight.f k t447 t448).bind fun t451 => ((laws_toChanges.f k a0_0 l0_1).bind fun bt452 => ((impl_ChangesRight.f k bt452.1 bt452.2).bind fun t457 => (if (t457 != t451) = true then (some false) else ((laws_toChanges.f k a0_0 l0_1).bind fun bt458 => ((laws_eqChanges.f k bt452.1 bt452.2 bt458.1 bt458.2).bind fun t462 => (if t462 = true then (some true) else (some false)))))))) = some r := H
 have A7 := Aside0.mk A70
 clear A70
 replace H := Option.bind_eq_some_iff.mp H
 obtain ⟨t451, A80, H⟩ := H
 replace H : ((laws_toChanges.f k a0_0 l0_1).bind fun bt452 => ((impl_ChangesRight.f k bt452.1 bt452.2).bind fun t457 => (if (t457 != t451) = true then (some false) else ((laws_toChanges.f k a0_0 l0_1).bind fun bt458 => ((laws_eqChanges.f k bt452.1 bt452.2 bt458.1 bt458.2).bind fun t462 => (if t462 = true then (some true) else (some false))))))) = some r := H
 have A8 := Aside0.mk A80
 clear A80
 replace H := Option.bind_eq_some_iff.mp H
 obtain ⟨⟨t452, t453⟩, A90, H⟩ := H
 replace H : ((impl_ChangesRight.f k t452 t453).bind fun t457 => (if (t457 != t451) = true then (some false) else ((laws_toChanges.f k a0_0 l0_1).bind fun bt458 => ((laws_eqChanges.f k t452 t453 bt458.1 bt458.2).bind fun t462 => (if t462 = true then (some true) else (some false)))))) = some r := H
 have A9 := Aside0.mk A90
 clear A90
 replace H := Option.bind_eq_some_iff.mp H
 obtain ⟨t457, A100, H⟩ := H
 replace H : (if (t457 != t451) = true then (some false) else ((laws_toChanges.f k a0_0 l0_1).bind fun bt458 => ((laws_eqChanges.f k t452 t453 bt458.1 bt458.2).bind fun t462 => (if t462 = true then (some true) else (some false))))) = some r := H
 have A10 := Aside0.mk A100
 clear A100
 by_cases c11 : (t457 != t451) = true
 ·rw [if_pos c11] at H
  have c11b0 : (t457 != t451) = true := c11
  (try (have c11b1 : decide (t457 = t451) = false := by simpa using c11))
  (try (have c11b2 : (t457 == t451) = false := by simpa using c11))
  (try (have c11b3 : ¬ (t457 = t451) := by simpa using c11))
  clear c11
  obtain rfl := Option.some.inj H
  go_enter Tryd.func5, Tryd.ntmps5
  go_wp2_with (first | ((with_reducible refine gate_dst (N := 1) rfl ?_); refine box_event ?hg (N := 1) ?hd (cs := #[.int .i64 a0_0, .slice A0_1 l0_1.length c0_1]) (t := 40) ?hr ?_; (case hd => rfl); (case hg => rfl); (case hr => first | (go_simp; done) | (go_simp; rfl)); intro gb445 hg w12 hbox hb; have n0_ := Aside0.mk (below_step HBa hb); have n1_ := Aside0.mk (hbox); have n2_ := BSz w hg HBa; have n3_ := BSz w hg HBa; clear HB; have HB := n0_; have BK445 := n1_; have GW445 := n2_; have GE445 := n3_; clear n0_ n1_ n2_ n3_; clear hb hbox hg; have hcz13_0 := C1z BK445; have hcz13_1 := C2z BK445; have hfz13_0 := blk_frozen BK445.out 0; have hfz13_1 := blk_frozen BK445.out 1) | ((with_reducible refine gate_callee (f := 19) rfl ?_); refine goesL_ (some 9) rfl rfl Tryd.func19 (by kernel_rfl) rfl #[.agg #[.int .i64 a0_0, .slice A0_1 l0_1.length c0_1], .int .i64 1048576] rfl MPz ?_; (with_reducible refine (laws_szChanges.calls k a0_0 _ _ l0_1 1048576 t446 _ ?side1 ?side2 A2.out).mono ?_); (case side1 => exact KCz (Kd.C_below HR0_1.out HB.out)); (case side2 => exact HC0_1.out); rintro e w14 ⟨rfl, hb⟩; refine ⟨_, rfl, ?_⟩; have n0_ := BBz BK445 hb; have n1_ := Aside0.mk (below_step (HBb GE445) hb); clear BK445; clear HB; have BK445 := n0_; have HB := n1_; clear n0_ n1_; (try clear hb); (try clear hb2); (try clear hk); (try clear hi); have hcz15_0 := C1z BK445; have hcz15_1 := C2z BK445; have hfz15_0 := blk_frozen BK445.out 0; have hfz15_1 := blk_frozen BK445.out 1) | ((with_reducible refine gate_callee (f := 21) rfl ?_); refine goesL_ (some 13) rfl rfl Tryd.func21 (by kernel_rfl) rfl #[.agg #[.int .i64 a0_0, .slice A0_1 l0_1.length c0_1]] rfl MPz ?_; (with_reducible refine (laws_toChanges.calls k a0_0 _ _ l0_1 t447 t448 _ ?side1 ?side2 A7.out).mono ?_); (case side1 => exact KCz (Kd.C_below HR0_1.out HB.out)); (case side2 => exact HC0_1.out); rintro e w16 ⟨v449, rfl, ho0, hb⟩; refine ⟨_, rfl, ?_⟩; have n0_ := Aside0.mk (Kd.R_lower ho0 (below_size (HBb GE445))); have n1_ := BBz BK445 hb; have n2_ := Aside0.mk (below_step (HBb GE445) hb); clear BK445; clear HB; have HO450 := n0_; have BK445 := n1_; have HB := n2_; clear n0_ n1_ n2_; (try clear hb); (try clear hb2); (try clear hk); (try clear hi); (try clear ho0); obtain ⟨Ao17, co17, eo17⟩ := Kd.R_slice HO450.out; subst eo17) | ((with_reducible refine gate_callee (f := 20) rfl ?_); refine goesL_ (some 14) rfl rfl Tryd.func20 (by kernel_rfl) rfl #[.agg #[.int .i64 t447, .slice Ao17 t448.length co17]] rfl MPz ?_; (with_reducible refine (spec_ChangesRight.calls k t447 _ _ t448 t451 _ ?side1 ?side2 A8.out).mono ?_); (case side1 => repeat (first | exact (Kd.R_reads' HO450.out).2.2 | (with_reducible refine Kd.C_alloc ?_ _) | (with_reducible refine Kd.C_drewN ?_ _) | (with_reducible refine Kd.C_drew ?_))); (case side2 => exact (Kd.R_reads' HO450.out).2.1); rintro e w18 ⟨rfl, hb⟩; refine ⟨_, rfl, ?_⟩; have n0_ := Aside0.mk (Kd.R_below (KRz HO450) hb); have n1_ := BBz BK445 hb; have n2_ := Aside0.mk (below_step (HBb GE445) hb); clear HO450; clear BK445; clear HB; have HO450 := n0_; have BK445 := n1_; have HB := n2_; clear n0_ n1_ n2_; (try clear hb); (try clear hb2); (try clear hk); (try clear hi); have hcz19_0 := C1z BK445; have hcz19_1 := C2z BK445; have hfz19_0 := blk_frozen BK445.out 0; have hfz19_1 := blk_frozen BK445.out 1) | ((with_reducible refine gate_callee (f := 21) rfl ?_); refine goesL_ (some 16) rfl rfl Tryd.func21 (by kernel_rfl) rfl #[.agg #[.int .i64 a0_0, .slice A0_1 l0_1.length c0_1]] rfl MPz ?_; (with_reducible refine (laws_toChanges.calls k a0_0 _ _ l0_1 t452 t453 _ ?side1 ?side2 A9.out).mono ?_); (case side1 => exact KCz (Kd.C_below HR0_1.out HB.out)); (case side2 => exact HC0_1.out); rintro e w20 ⟨v454, rfl, ho0, hb⟩; refine ⟨_, rfl, ?_⟩; have n0_ := Aside0.mk (Kd.R_elder' (KRz HO450) (Kd.R_base ho0) hb); have n1_ := Aside0.mk (Kd.R_lower (Kd.R_new' ho0 (Kd.R_lt (KRz HO450))) (below_size (HBb GE445))); have n2_ := BBz BK445 hb; have n3_ := Aside0.mk (below_step (HBb GE445) hb); clear HO450; clear BK445; clear HB; have HO450 := n0_; have HO455 := n1_; have BK445 := n2_; have HB := n3_; clear n0_ n1_ n2_ n3_; (try clear hb); (try clear hb2); (try clear hk); (try clear hi); (try clear ho0)) | ((with_reducible refine gate_dst (N := 5) rfl ?_); refine box_event ?hg (N := 5) ?hd (cs := #[.int .i64 0, .slice none 0 0]) (t := 45) ?hr ?_; (case hd => rfl); (case hg => rfl); (case hr => first | (go_simp; done) | (go_simp; rfl)); intro gb456 hg w21 hbox hb; have n0_ := Aside0.mk (Kd.R_below (KRz HO450) hb); have n1_ := Aside0.mk (Kd.R_below (KRz HO455) hb); have n2_ := BBz BK445 hb; have n3_ := Aside0.mk (below_step (HBb GE445) hb); have n4_ := Aside0.mk (hbox); have n5_ := BSz w hg (HBb GE445); have n6_ := BSz w hg (HBb GE445); have n7_ := BNz BK445 hg; have n8_ := BMz BK445 hg; clear HO450; clear HO455; clear BK445; clear HB; have HO450 := n0_; have HO455 := n1_; have BK445 := n2_; have HB := n3_; have BK456 := n4_; have GW456 := n5_; have GE456 := n6_; have NB445_456 := n7_; have NB456_445 := n8_; clear n0_ n1_ n2_ n3_ n4_ n5_ n6_ n7_ n8_; clear hb hbox hg; have hnb22 := NB456_445.out; have hnc22 := NB445_456.out; have hcz23_0 := C1z BK456; have hcz23_1 := C2z BK456; have hfz23_0 := blk_frozen BK456.out 0; have hfz23_1 := blk_frozen BK456.out 1; obtain ⟨Ao24, co24, eo24⟩ := Kd.R_slice HO455.out; subst eo24) | ((with_reducible refine gate_callee (f := 22) rfl ?_); refine goesL_ (some 18) rfl rfl Tryd.func22 (by kernel_rfl) rfl #[.agg #[.int .i64 t452, .slice Ao24 t453.length co24]] rfl MPz ?_; (with_reducible refine (impl_ChangesRight.calls k t452 _ _ t453 t457 _ ?side1 ?side2 A10.out).mono ?_); (case side1 => refine (Kd.R_reads' (e := 83) (base := w.heap.size) (ok := fun k_ => (True ∧ some k_ ≠ (.slice Ao17 t448.length co17 : Value).ownBlock)) (n := t453.length) (c := co24) ?_).2.2; exact (by (with_reducible repeat (first | apply Kd.R_alloc | apply Kd.R_drewN | apply Kd.R_drew)); exact (Kd.R_mono (Kd.R_far (p := ⟨gb456, 1, none⟩) (Kd.R_far (p := ⟨gb456, 0, none⟩) (Kd.R_types HO455.out BK456.out (by decide)) (fun _ hk => hk.2) (.int .i64 t452)) (fun _ hk => hk.2) (.slice Ao24 t453.length co24)) (fun _ h_ => h_.1)))); (case side2 => exact (Kd.R_reads' HO455.out).2.1); rintro e w25 ⟨rfl, hb⟩; refine ⟨_, rfl, ?_⟩; have n0_ := Aside0.mk (Kd.R_below (by (with_reducible repeat (first | apply Kd.R_alloc | apply Kd.R_drewN | apply Kd.R_drew)); exact (Kd.R_mono (Kd.R_far (p := ⟨gb456, 1, none⟩) (Kd.R_far (p := ⟨gb456, 0, none⟩) (Kd.R_types HO450.out BK456.out (by decide)) (fun _ hk => hk.2) (.int .i64 t452)) (fun _ hk => hk.2) (.slice Ao24 t453.length co24)) (fun _ h_ => h_.1))) hb); have n1_ := Aside0.mk (Kd.R_below (by (with_reducible repeat (first | apply Kd.R_alloc | apply Kd.R_drewN | apply Kd.R_drew)); exact (Kd.R_mono (Kd.R_far (p := ⟨gb456, 1, none⟩) (Kd.R_far (p := ⟨gb456, 0, none⟩) (Kd.R_types HO455.out BK456.out (by decide)) (fun _ hk => hk.2) (.int .i64 t452)) (fun _ hk => hk.2) (.slice Ao24 t453.length co24)) (fun _ h_ => h_.1))) hb); have n2_ := Aside0.mk (blk_below (g := gb445) (o := .cells #[.int .i64 a0_0, .slice A0_1 l0_1.length c0_1] 40 (0, 0)) (by (with_reducible repeat (first | refine blk_drewN ?_ _ | refine blk_drew ?_ | refine blk_alloc ?_ _)); refine blk_far ?_ NB445_456.out _; (with_reducible repeat (first | refine blk_drewN ?_ _ | refine blk_drew ?_ | refine blk_alloc ?_ _)); refine blk_far ?_ NB445_456.out _; (with_reducible repeat (first | refine blk_drewN ?_ _ | refine blk_drew ?_ | refine blk_alloc ?_ _)); exact BK445.out) hb); have n3_ := Aside0.mk (blk_below (g := gb456) (o := .cells #[.int .i64 t452, .slice Ao24 t453.length co24] 45 (0, 0)) (by (with_reducible repeat (first | refine blk_drewN ?_ _ | refine blk_drew ?_ | refine blk_alloc ?_ _)); refine blk_put (cs := #[.int .i64 t452, .slice none 0 0]) ?_ 1 _ rfl; (with_reducible repeat (first | refine blk_drewN ?_ _ | refine blk_drew ?_ | refine blk_alloc ?_ _)); refine blk_put (cs := #[.int .i64 0, .slice none 0 0]) ?_ 0 _ rfl; (with_reducible repeat (first | refine blk_drewN ?_ _ | refine blk_drew ?_ | refine blk_alloc ?_ _)); exact BK456.out) hb); have n4_ := Aside0.mk (below_step (HBc GE445 GE456) hb); clear HO450; clear HO455; clear BK445; clear BK456; clear HB; have HO450 := n0_; have HO455 := n1_; have BK445 := n2_; have BK456 := n3_; have HB := n4_; clear n0_ n1_ n2_ n3_ n4_; (try clear hb); (try clear hb2); (try clear hk); (try clear hi)))
  go_ret
  exact ⟨EZa, HBc GE445 GE456⟩
 rw [if_neg c11] at H
 have c11b0 : (t457 != t451) = false := by simpa using c11
 (try (have c11b1 : decide (t457 = t451) = true := by simpa using c11))
 (try (have c11b2 : (t457 == t451) = true := by simpa using c11))
 clear c11
 replace H := Option.bind_eq_some_iff.mp H
 obtain ⟨⟨t458, t459⟩, A260, H⟩ := H
 replace H : ((laws_eqChanges.f k t452 t453 t458 t459).bind fun t462 => (if t462 = true then (some true) else (some false))) = some r := H
 have A26 := Aside0.mk A260
 clear A260
 replace H := Option.bind_eq_some_iff.mp H
 obtain ⟨t462, A270, H⟩ := H
 replace H : (if t462 = true then (some true) else (some false)) = some r := H
 have A27 := Aside0.mk A270
 clear A270
 by_cases c28 : t462 = true
 ·subst c28
  have H1 : (some true) = some r := by rw [if_pos rfl] at H; exact H
  clear H
  have H := H1
  clear H1
  obtain rfl := Option.some.inj H
  go_enter Tryd.func5, Tryd.ntmps5
  try go_wp2_with (first | ((with_reducible refine gate_dst (N := 1) rfl ?_); refine box_event ?hg (N := 1) ?hd (cs := #[.int .i64 a0_0, .slice A0_1 l0_1.length c0_1]) (t := 40) ?hr ?_; (case hd => rfl); (case hg => rfl); (case hr => first | (go_simp; done) | (go_simp; rfl)); intro gb445 hg w29 hbox hb; have n0_ := Aside0.mk (below_step HBa hb); have n1_ := Aside0.mk (hbox); have n2_ := BSz w hg HBa; have n3_ := BSz w hg HBa; clear HB; have HB := n0_; have BK445 := n1_; have GW445 := n2_; have GE445 := n3_; clear n0_ n1_ n2_ n3_; clear hb hbox hg; have hcz30_0 := C1z BK445; have hcz30_1 := C2z BK445; have hfz30_0 := blk_frozen BK445.out 0; have hfz30_1 := blk_frozen BK445.out 1) | ((with_reducible refine gate_callee (f := 19) rfl ?_); refine goesL_ (some 9) rfl rfl Tryd.func19 (by kernel_rfl) rfl #[.agg #[.int .i64 a0_0, .slice A0_1 l0_1.length c0_1], .int .i64 1048576] rfl MPz ?_; (with_reducible refine (laws_szChanges.calls k a0_0 _ _ l0_1 1048576 t446 _ ?side1 ?side2 A2.out).mono ?_); (case side1 => exact KCz (Kd.C_below HR0_1.out HB.out)); (case side2 => exact HC0_1.out); rintro e w31 ⟨rfl, hb⟩; refine ⟨_, rfl, ?_⟩; have n0_ := BBz BK445 hb; have n1_ := Aside0.mk (below_step (HBb GE445) hb); clear BK445; clear HB; have BK445 := n0_; have HB := n1_; clear n0_ n1_; (try clear hb); (try clear hb2); (try clear hk); (try clear hi); have hcz32_0 := C1z BK445; have hcz32_1 := C2z BK445; have hfz32_0 := blk_frozen BK445.out 0; have hfz32_1 := blk_frozen BK445.out 1) | ((with_reducible refine gate_callee (f := 21) rfl ?_); refine goesL_ (some 13) rfl rfl Tryd.func21 (by kernel_rfl) rfl #[.agg #[.int .i64 a0_0, .slice A0_1 l0_1.length c0_1]] rfl MPz ?_; (with_reducible refine (laws_toChanges.calls k a0_0 _ _ l0_1 t447 t448 _ ?side1 ?side2 A7.out).mono ?_); (case side1 => exact KCz (Kd.C_below HR0_1.out HB.out)); (case side2 => exact HC0_1.out); rintro e w33 ⟨v449, rfl, ho0, hb⟩; refine ⟨_, rfl, ?_⟩; have n0_ := Aside0.mk (Kd.R_lower ho0 (below_size (HBb GE445))); have n1_ := BBz BK445 hb; have n2_ := Aside0.mk (below_step (HBb GE445) hb); clear BK445; clear HB; have HO450 := n0_; have BK445 := n1_; have HB := n2_; clear n0_ n1_ n2_; (try clear hb); (try clear hb2); (try clear hk); (try clear hi); (try clear ho0); obtain ⟨Ao34, co34, eo34⟩ := Kd.R_slice HO450.out; subst eo34) | ((with_reducible refine gate_callee (f := 20) rfl ?_); refine goesL_ (some 14) rfl rfl Tryd.func20 (by kernel_rfl) rfl #[.agg #[.int .i64 t447, .slice Ao34 t448.length co34]] rfl MPz ?_; (with_reducible refine (spec_ChangesRight.calls k t447 _ _ t448 t451 _ ?side1 ?side2 A8.out).mono ?_); (case side1 => repeat (first | exact (Kd.R_reads' HO450.out).2.2 | (with_reducible refine Kd.C_alloc ?_ _) | (with_reducible refine Kd.C_drewN ?_ _) | (with_reducible refine Kd.C_drew ?_))); (case side2 => exact (Kd.R_reads' HO450.out).2.1); rintro e w35 ⟨rfl, hb⟩; refine ⟨_, rfl, ?_⟩; have n0_ := Aside0.mk (Kd.R_below (KRz HO450) hb); have n1_ := BBz BK445 hb; have n2_ := Aside0.mk (below_step (HBb GE445) hb); clear HO450; clear BK445; clear HB; have HO450 := n0_; have BK445 := n1_; have HB := n2_; clear n0_ n1_ n2_; (try clear hb); (try clear hb2); (try clear hk); (try clear hi); have hcz36_0 := C1z BK445; have hcz36_1 := C2z BK445; have hfz36_0 := blk_frozen BK445.out 0; have hfz36_1 := blk_frozen BK445.out 1) | ((with_reducible refine gate_callee (f := 21) rfl ?_); refine goesL_ (some 16) rfl rfl Tryd.func21 (by kernel_rfl) rfl #[.agg #[.int .i64 a0_0, .slice A0_1 l0_1.length c0_1]] rfl MPz ?_; (with_reducible refine (laws_toChanges.calls k a0_0 _ _ l0_1 t452 t453 _ ?side1 ?side2 A9.out).mono ?_); (case side1 => exact KCz (Kd.C_below HR0_1.out HB.out)); (case side2 => exact HC0_1.out); rintro e w37 ⟨v454, rfl, ho0, hb⟩; refine ⟨_, rfl, ?_⟩; have n0_ := Aside0.mk (Kd.R_elder' (KRz HO450) (Kd.R_base ho0) hb); have n1_ := Aside0.mk (Kd.R_lower (Kd.R_new' ho0 (Kd.R_lt (KRz HO450))) (below_size (HBb GE445))); have n2_ := BBz BK445 hb; have n3_ := Aside0.mk (below_step (HBb GE445) hb); clear HO450; clear BK445; clear HB; have HO450 := n0_; have HO455 := n1_; have BK445 := n2_; have HB := n3_; clear n0_ n1_ n2_ n3_; (try clear hb); (try clear hb2); (try clear hk); (try clear hi); (try clear ho0)) | ((with_reducible refine gate_dst (N := 5) rfl ?_); refine box_event ?hg (N := 5) ?hd (cs := #[.int .i64 0, .slice none 0 0]) (t := 45) ?hr ?_; (case hd => rfl); (case hg => rfl); (case hr => first | (go_simp; done) | (go_simp; rfl)); intro gb456 hg w38 hbox hb; have n0_ := Aside0.mk (Kd.R_below (KRz HO450) hb); have n1_ := Aside0.mk (Kd.R_below (KRz HO455) hb); have n2_ := BBz BK445 hb; have n3_ := Aside0.mk (below_step (HBb GE445) hb); have n4_ := Aside0.mk (hbox); have n5_ := BSz w hg (HBb GE445); have n6_ := BSz w hg (HBb GE445); have n7_ := BNz BK445 hg; have n8_ := BMz BK445 hg; clear HO450; clear HO455; clear BK445; clear HB; have HO450 := n0_; have HO455 := n1_; have BK445 := n2_; have HB := n3_; have BK456 := n4_; have GW456 := n5_; have GE456 := n6_; have NB445_456 := n7_; have NB456_445 := n8_; clear n0_ n1_ n2_ n3_ n4_ n5_ n6_ n7_ n8_; clear hb hbox hg; have hnb39 := NB456_445.out; have hnc39 := NB445_456.out; have hcz40_0 := C1z BK456; have hcz40_1 := C2z BK456; have hfz40_0 := blk_frozen BK456.out 0; have hfz40_1 := blk_frozen BK456.out 1; obtain ⟨Ao41, co41, eo41⟩ := Kd.R_slice HO455.out; subst eo41) | ((with_reducible refine gate_callee (f := 22) rfl ?_); refine goesL_ (some 18) rfl rfl Tryd.func22 (by kernel_rfl) rfl #[.agg #[.int .i64 t452, .slice Ao41 t453.length co41]] rfl MPz ?_; (with_reducible refine (impl_ChangesRight.calls k t452 _ _ t453 t457 _ ?side1 ?side2 A10.out).mono ?_); (case side1 => refine (Kd.R_reads' (e := 83) (base := w.heap.size) (ok := fun k_ => (True ∧ some k_ ≠ (.slice Ao34 t448.length co34 : Value).ownBlock)) (n := t453.length) (c := co41) ?_).2.2; exact (by (with_reducible repeat (first | apply Kd.R_alloc | apply Kd.R_drewN | apply Kd.R_drew)); exact (Kd.R_mono (Kd.R_far (p := ⟨gb456, 1, none⟩) (Kd.R_far (p := ⟨gb456, 0, none⟩) (Kd.R_types HO455.out BK456.out (by decide)) (fun _ hk => hk.2) (.int .i64 t452)) (fun _ hk => hk.2) (.slice Ao41 t453.length co41)) (fun _ h_ => h_.1)))); (case side2 => exact (Kd.R_reads' HO455.out).2.1); rintro e w42 ⟨rfl, hb⟩; refine ⟨_, rfl, ?_⟩; have n0_ := Aside0.mk (Kd.R_below (by (with_reducible repeat (first | apply Kd.R_alloc | apply Kd.R_drewN | apply Kd.R_drew)); exact (Kd.R_mono (Kd.R_far (p := ⟨gb456, 1, none⟩) (Kd.R_far (p := ⟨gb456, 0, none⟩) (Kd.R_types HO450.out BK456.out (by decide)) (fun _ hk => hk.2) (.int .i64 t452)) (fun _ hk => hk.2) (.slice Ao41 t453.length co41)) (fun _ h_ => h_.1))) hb); have n1_ := Aside0.mk (Kd.R_below (by (with_reducible repeat (first | apply Kd.R_alloc | apply Kd.R_drewN | apply Kd.R_drew)); exact (Kd.R_mono (Kd.R_far (p := ⟨gb456, 1, none⟩) (Kd.R_far (p := ⟨gb456, 0, none⟩) (Kd.R_types HO455.out BK456.out (by decide)) (fun _ hk => hk.2) (.int .i64 t452)) (fun _ hk => hk.2) (.slice Ao41 t453.length co41)) (fun _ h_ => h_.1))) hb); have n2_ := Aside0.mk (blk_below (g := gb445) (o := .cells #[.int .i64 a0_0, .slice A0_1 l0_1.length c0_1] 40 (0, 0)) (by (with_reducible repeat (first | refine blk_drewN ?_ _ | refine blk_drew ?_ | refine blk_alloc ?_ _)); refine blk_far ?_ NB445_456.out _; (with_reducible repeat (first | refine blk_drewN ?_ _ | refine blk_drew ?_ | refine blk_alloc ?_ _)); refine blk_far ?_ NB445_456.out _; (with_reducible repeat (first | refine blk_drewN ?_ _ | refine blk_drew ?_ | refine blk_alloc ?_ _)); exact BK445.out) hb); have n3_ := Aside0.mk (blk_below (g := gb456) (o := .cells #[.int .i64 t452, .slice Ao41 t453.length co41] 45 (0, 0)) (by (with_reducible repeat (first | refine blk_drewN ?_ _ | refine blk_drew ?_ | refine blk_alloc ?_ _)); refine blk_put (cs := #[.int .i64 t452, .slice none 0 0]) ?_ 1 _ rfl; (with_reducible repeat (first | refine blk_drewN ?_ _ | refine blk_drew ?_ | refine blk_alloc ?_ _)); refine blk_put (cs := #[.int .i64 0, .slice none 0 0]) ?_ 0 _ rfl; (with_reducible repeat (first | refine blk_drewN ?_ _ | refine blk_drew ?_ | refine blk_alloc ?_ _)); exact BK456.out) hb); have n4_ := Aside0.mk (below_step (HBc GE445 GE456) hb); clear HO450; clear HO455; clear BK445; clear BK456; clear HB; have HO450 := n0_; have HO455 := n1_; have BK445 := n2_; have BK456 := n3_; have HB := n4_; clear n0_ n1_ n2_ n3_ n4_; (try clear hb); (try clear hb2); (try clear hk); (try clear hi)))
  have n0_ := Aside0.mk (Kd.R_drew HO450.out)
  have n1_ := Aside0.mk (Kd.R_drew HO455.out)
  have n2_ := Aside0.mk (blk_drew BK445.out)
  have n3_ := Aside0.mk (blk_drew BK456.out)
  have n4_ := Aside0.mk (below_drew1 HB.out)
  clear HO450
  clear HO455
  clear BK445
  clear BK456
  clear HB
  have HO450 := n0_
  have HO455 := n1_
  have BK445 := n2_
  have BK456 := n3_
  have HB := n4_
  clear n0_ n1_ n2_ n3_ n4_
  refine start_ (n := 5) (S := fun w' => w'.cell? ⟨gb456, 0, none⟩ = some (.int .i64 t452) ∧ w'.cell? ⟨gb456, 1, none⟩ = some (.slice Ao41 t453.length co41) ∧ w'.cell? ⟨gb445, 0, none⟩ = some (.int .i64 a0_0) ∧ w'.cell? ⟨gb445, 1, none⟩ = some (.slice A0_1 l0_1.length c0_1)) (ds := []) (bz 5 0) (by kernel_rfl) rfl (by kernel_rfl) ⟨(blk_cell BK456.out 0).trans rfl, (blk_cell BK456.out 1).trans rfl, (blk_cell BK445.out 0).trans rfl, (blk_cell BK445.out 1).trans rfl⟩ (fun hHeld => ?_)
  generalize w42.drew = w43 at HO450 HO455 BK445 BK456 HB hHeld ⊢
  refine take_ (i := 0) (N := some 22) (v := ?_) (a' := ?_) (bz 5 1) rfl rfl (by kernel_rfl) (fun _ _ _ h => h) (Or.inl ⟨by rfl, ?_⟩) hHeld ?_ ?_
  rotate_left
  ·rintro w' ⟨s0, s1, s2, s3⟩
   go_simp
   with_reducible rfl
  rotate_left
  ·simp only [PUz]
   rfl
  refine take_ (i := 1) (N := some 23) (v := ?_) (a' := ?_) (bz 5 3) rfl rfl (by kernel_rfl) (fun _ _ _ h => h) (Or.inl ⟨by rfl, ?_⟩) hHeld ?_ ?_
  rotate_left
  ·rintro w' ⟨s0, s1, s2, s3⟩
   go_simp
   with_reducible rfl
  rotate_left
  ·simp only [PUz]
   rfl
  refine one_ (i := 2) (N := some 24) (bz 5 7) rfl rfl (by kernel_rfl) (by decide) (fun K hK => ?_)
  refine goes_ Tryd.func21 (by kernel_rfl) rfl #[.agg #[.int .i64 a0_0, .slice A0_1 l0_1.length c0_1]] (by rfl) rfl rfl MPz ?_
  with_reducible refine (laws_toChanges.calls k a0_0 _ _ l0_1 t458 t459 _ ?side1 ?side2 A26.out).mono ?_
  (case side1 => exact KCz (Kd.C_below HR0_1.out HB.out))
  (case side2 => exact HC0_1.out)
  rintro e w44 ⟨v460, rfl, ho0, hb⟩
  refine ⟨_, rfl, ?_⟩
  have n0_ := Aside0.mk (Kd.R_elder' (KRz HO450) (Kd.R_base ho0) hb)
  have n1_ := Aside0.mk (Kd.R_elder' (KRz HO455) (Kd.R_base ho0) hb)
  have n2_ := Aside0.mk (Kd.R_lower (Kd.R_new' (Kd.R_new' ho0 (Kd.R_lt (KRz HO450))) (Kd.R_lt (KRz HO455))) (below_size (HBc GE445 GE456)))
  have n3_ := BBz BK445 hb
  have n4_ := BBz BK456 hb
  have n5_ := Aside0.mk (below_step (HBc GE445 GE456) hb)
  clear HO450
  clear HO455
  clear BK445
  clear BK456
  clear HB
  have HO450 := n0_
  have HO455 := n1_
  have HO461 := n2_
  have BK445 := n3_
  have BK456 := n4_
  have HB := n5_
  clear n0_ n1_ n2_ n3_ n4_ n5_
  (try clear hb)
  (try clear hb2)
  (try clear hk)
  (try clear hi)
  (try clear ho0)
  obtain ⟨Ao45, co45, eo45⟩ := Kd.R_slice HO461.out
  (first | subst eo45 | (injection eo45 with f1_ f2_ f3_; have f4_ := f1_.symm; have f5_ := f3_.symm; clear f1_ f2_ f3_; subst f4_; subst f5_))
  refine hK.out _ _ ⟨(blk_cell BK456.out 0).trans rfl, (blk_cell BK456.out 1).trans rfl, (blk_cell BK445.out 0).trans rfl, (blk_cell BK445.out 1).trans rfl⟩ (fun hHeld => ?_)
  clear hK K
  refine norm_ (a' := ?_) ?_ ?_
  rotate_left
  ·show Act.put _ (some 24) _ = _
   simp only [PUz]
   rfl
  refine one_ (i := 3) (N := some 25) (bz 5 15) rfl rfl (by kernel_rfl) (by decide) (fun K hK => ?_)
  refine goes_ Tryd.func23 (by kernel_rfl) rfl #[.agg #[.int .i64 t452, .slice Ao41 t453.length co41], .agg #[.int .i64 t458, .slice Ao45 t459.length co45]] (by rfl) rfl rfl MPz ?_
  with_reducible refine (laws_eqChanges.calls k t452 _ _ t453 t458 _ _ t459 true _ ?side1 ?side2 ?side3 ?side4 A27.out).mono ?_
  (case side1 => repeat (first | exact (Kd.R_reads' HO455.out).2.2 | (with_reducible refine Kd.C_alloc ?_ _) | (with_reducible refine Kd.C_drewN ?_ _) | (with_reducible refine Kd.C_drew ?_)))
  (case side2 => exact (Kd.R_reads' HO455.out).2.1)
  (case side3 => repeat (first | exact (Kd.R_reads' HO461.out).2.2 | (with_reducible refine Kd.C_alloc ?_ _) | (with_reducible refine Kd.C_drewN ?_ _) | (with_reducible refine Kd.C_drew ?_)))
  (case side4 => exact (Kd.R_reads' HO461.out).2.1)
  rintro e w46 ⟨rfl, hb⟩
  refine ⟨_, rfl, ?_⟩
  have n0_ := Aside0.mk (Kd.R_below (KRz HO450) hb)
  have n1_ := Aside0.mk (Kd.R_below (KRz HO455) hb)
  have n2_ := Aside0.mk (Kd.R_below (KRz HO461) hb)
  have n3_ := BBz BK445 hb
  have n4_ := BBz BK456 hb
  have n5_ := Aside0.mk (below_step (HBc GE445 GE456) hb)
  clear HO450
  clear HO455
  clear HO461
  clear BK445
  clear BK456
  clear HB
  have HO450 := n0_
  have HO455 := n1_
  have HO461 := n2_
  have BK445 := n3_
  have BK456 := n4_
  have HB := n5_
  clear n0_ n1_ n2_ n3_ n4_ n5_
  (try clear hb)
  (try clear hb2)
  (try clear hk)
  (try clear hi)
  refine hK.out _ _ ⟨(blk_cell BK456.out 0).trans rfl, (blk_cell BK456.out 1).trans rfl, (blk_cell BK445.out 0).trans rfl, (blk_cell BK445.out 1).trans rfl⟩ (fun hHeld => ?_)
  clear hK K
  refine norm_ (a' := ?_) ?_ ?_
  rotate_left
  ·show Act.put _ (some 25) _ = _
   simp only [PUz]
   rfl
  refine pure_ (i := 4) (N := some 26) (v := ?_) (a' := ?_) (bz 5 31) rfl rfl (by kernel_rfl) (fun _ _ _ h => h) (Or.inl ⟨by rfl, ?_⟩) ?_ ?_
  rotate_left
  ·intro w'
   go_simp
   with_reducible rfl
  rotate_left
  ·simp only [PUz]
   rfl
  refine done_ (by kernel_rfl) ?_
  try go_wp2
  go_ret
  exact ⟨EZa, HBc GE445 GE456⟩
 replace c28 := Bool.eq_false_iff.mpr c28
 subst c28
 have H1 : (some false) = some r := by rw [if_neg (show ¬ (false = true) by decide)] at H; exact H
 clear H
 have H := H1
 clear H1
 obtain rfl := Option.some.inj H
 go_enter Tryd.func5, Tryd.ntmps5
 try go_wp2_with (first | ((with_reducible refine gate_dst (N := 1) rfl ?_); refine box_event ?hg (N := 1) ?hd (cs := #[.int .i64 a0_0, .slice A0_1 l0_1.length c0_1]) (t := 40) ?hr ?_; (case hd => rfl); (case hg => rfl); (case hr => first | (go_simp; done) | (go_simp; rfl)); intro gb445 hg w47 hbox hb; have n0_ := Aside0.mk (below_step HBa hb); have n1_ := Aside0.mk (hbox); have n2_ := BSz w hg HBa; have n3_ := BSz w hg HBa; clear HB; have HB := n0_; have BK445 := n1_; have GW445 := n2_; have GE445 := n3_; clear n0_ n1_ n2_ n3_; clear hb hbox hg; have hcz48_0 := C1z BK445; have hcz48_1 := C2z BK445; have hfz48_0 := blk_frozen BK445.out 0; have hfz48_1 := blk_frozen BK445.out 1) | ((with_reducible refine gate_callee (f := 19) rfl ?_); refine goesL_ (some 9) rfl rfl Tryd.func19 (by kernel_rfl) rfl #[.agg #[.int .i64 a0_0, .slice A0_1 l0_1.length c0_1], .int .i64 1048576] rfl MPz ?_; (with_reducible refine (laws_szChanges.calls k a0_0 _ _ l0_1 1048576 t446 _ ?side1 ?side2 A2.out).mono ?_); (case side1 => exact KCz (Kd.C_below HR0_1.out HB.out)); (case side2 => exact HC0_1.out); rintro e w49 ⟨rfl, hb⟩; refine ⟨_, rfl, ?_⟩; have n0_ := BBz BK445 hb; have n1_ := Aside0.mk (below_step (HBb GE445) hb); clear BK445; clear HB; have BK445 := n0_; have HB := n1_; clear n0_ n1_; (try clear hb); (try clear hb2); (try clear hk); (try clear hi); have hcz50_0 := C1z BK445; have hcz50_1 := C2z BK445; have hfz50_0 := blk_frozen BK445.out 0; have hfz50_1 := blk_frozen BK445.out 1) | ((with_reducible refine gate_callee (f := 21) rfl ?_); refine goesL_ (some 13) rfl rfl Tryd.func21 (by kernel_rfl) rfl #[.agg #[.int .i64 a0_0, .slice A0_1 l0_1.length c0_1]] rfl MPz ?_; (with_reducible refine (laws_toChanges.calls k a0_0 _ _ l0_1 t447 t448 _ ?side1 ?side2 A7.out).mono ?_); (case side1 => exact KCz (Kd.C_below HR0_1.out HB.out)); (case side2 => exact HC0_1.out); rintro e w51 ⟨v449, rfl, ho0, hb⟩; refine ⟨_, rfl, ?_⟩; have n0_ := Aside0.mk (Kd.R_lower ho0 (below_size (HBb GE445))); have n1_ := BBz BK445 hb; have n2_ := Aside0.mk (below_step (HBb GE445) hb); clear BK445; clear HB; have HO450 := n0_; have BK445 := n1_; have HB := n2_; clear n0_ n1_ n2_; (try clear hb); (try clear hb2); (try clear hk); (try clear hi); (try clear ho0); obtain ⟨Ao52, co52, eo52⟩ := Kd.R_slice HO450.out; subst eo52) | ((with_reducible refine gate_callee (f := 20) rfl ?_); refine goesL_ (some 14) rfl rfl Tryd.func20 (by kernel_rfl) rfl #[.agg #[.int .i64 t447, .slice Ao52 t448.length co52]] rfl MPz ?_; (with_reducible refine (spec_ChangesRight.calls k t447 _ _ t448 t451 _ ?side1 ?side2 A8.out).mono ?_); (case side1 => repeat (first | exact (Kd.R_reads' HO450.out).2.2 | (with_reducible refine Kd.C_alloc ?_ _) | (with_reducible refine Kd.C_drewN ?_ _) | (with_reducible refine Kd.C_drew ?_))); (case side2 => exact (Kd.R_reads' HO450.out).2.1); rintro e w53 ⟨rfl, hb⟩; refine ⟨_, rfl, ?_⟩; have n0_ := Aside0.mk (Kd.R_below (KRz HO450) hb); have n1_ := BBz BK445 hb; have n2_ := Aside0.mk (below_step (HBb GE445) hb); clear HO450; clear BK445; clear HB; have HO450 := n0_; have BK445 := n1_; have HB := n2_; clear n0_ n1_ n2_; (try clear hb); (try clear hb2); (try clear hk); (try clear hi); have hcz54_0 := C1z BK445; have hcz54_1 := C2z BK445; have hfz54_0 := blk_frozen BK445.out 0; have hfz54_1 := blk_frozen BK445.out 1) | ((with_reducible refine gate_callee (f := 21) rfl ?_); refine goesL_ (some 16) rfl rfl Tryd.func21 (by kernel_rfl) rfl #[.agg #[.int .i64 a0_0, .slice A0_1 l0_1.length c0_1]] rfl MPz ?_; (with_reducible refine (laws_toChanges.calls k a0_0 _ _ l0_1 t452 t453 _ ?side1 ?side2 A9.out).mono ?_); (case side1 => exact KCz (Kd.C_below HR0_1.out HB.out)); (case side2 => exact HC0_1.out); rintro e w55 ⟨v454, rfl, ho0, hb⟩; refine ⟨_, rfl, ?_⟩; have n0_ := Aside0.mk (Kd.R_elder' (KRz HO450) (Kd.R_base ho0) hb); have n1_ := Aside0.mk (Kd.R_lower (Kd.R_new' ho0 (Kd.R_lt (KRz HO450))) (below_size (HBb GE445))); have n2_ := BBz BK445 hb; have n3_ := Aside0.mk (below_step (HBb GE445) hb); clear HO450; clear BK445; clear HB; have HO450 := n0_; have HO455 := n1_; have BK445 := n2_; have HB := n3_; clear n0_ n1_ n2_ n3_; (try clear hb); (try clear hb2); (try clear hk); (try clear hi); (try clear ho0)) | ((with_reducible refine gate_dst (N := 5) rfl ?_); refine box_event ?hg (N := 5) ?hd (cs := #[.int .i64 0, .slice none 0 0]) (t := 45) ?hr ?_; (case hd => rfl); (case hg => rfl); (case hr => first | (go_simp; done) | (go_simp; rfl)); intro gb456 hg w56 hbox hb; have n0_ := Aside0.mk (Kd.R_below (KRz HO450) hb); have n1_ := Aside0.mk (Kd.R_below (KRz HO455) hb); have n2_ := BBz BK445 hb; have n3_ := Aside0.mk (below_step (HBb GE445) hb); have n4_ := Aside0.mk (hbox); have n5_ := BSz w hg (HBb GE445); have n6_ := BSz w hg (HBb GE445); have n7_ := BNz BK445 hg; have n8_ := BMz BK445 hg; clear HO450; clear HO455; clear BK445; clear HB; have HO450 := n0_; have HO455 := n1_; have BK445 := n2_; have HB := n3_; have BK456 := n4_; have GW456 := n5_; have GE456 := n6_; have NB445_456 := n7_; have NB456_445 := n8_; clear n0_ n1_ n2_ n3_ n4_ n5_ n6_ n7_ n8_; clear hb hbox hg; have hnb57 := NB456_445.out; have hnc57 := NB445_456.out; have hcz58_0 := C1z BK456; have hcz58_1 := C2z BK456; have hfz58_0 := blk_frozen BK456.out 0; have hfz58_1 := blk_frozen BK456.out 1; obtain ⟨Ao59, co59, eo59⟩ := Kd.R_slice HO455.out; subst eo59) | ((with_reducible refine gate_callee (f := 22) rfl ?_); refine goesL_ (some 18) rfl rfl Tryd.func22 (by kernel_rfl) rfl #[.agg #[.int .i64 t452, .slice Ao59 t453.length co59]] rfl MPz ?_; (with_reducible refine (impl_ChangesRight.calls k t452 _ _ t453 t457 _ ?side1 ?side2 A10.out).mono ?_); (case side1 => refine (Kd.R_reads' (e := 83) (base := w.heap.size) (ok := fun k_ => (True ∧ some k_ ≠ (.slice Ao52 t448.length co52 : Value).ownBlock)) (n := t453.length) (c := co59) ?_).2.2; exact (by (with_reducible repeat (first | apply Kd.R_alloc | apply Kd.R_drewN | apply Kd.R_drew)); exact (Kd.R_mono (Kd.R_far (p := ⟨gb456, 1, none⟩) (Kd.R_far (p := ⟨gb456, 0, none⟩) (Kd.R_types HO455.out BK456.out (by decide)) (fun _ hk => hk.2) (.int .i64 t452)) (fun _ hk => hk.2) (.slice Ao59 t453.length co59)) (fun _ h_ => h_.1)))); (case side2 => exact (Kd.R_reads' HO455.out).2.1); rintro e w60 ⟨rfl, hb⟩; refine ⟨_, rfl, ?_⟩; have n0_ := Aside0.mk (Kd.R_below (by (with_reducible repeat (first | apply Kd.R_alloc | apply Kd.R_drewN | apply Kd.R_drew)); exact (Kd.R_mono (Kd.R_far (p := ⟨gb456, 1, none⟩) (Kd.R_far (p := ⟨gb456, 0, none⟩) (Kd.R_types HO450.out BK456.out (by decide)) (fun _ hk => hk.2) (.int .i64 t452)) (fun _ hk => hk.2) (.slice Ao59 t453.length co59)) (fun _ h_ => h_.1))) hb); have n1_ := Aside0.mk (Kd.R_below (by (with_reducible repeat (first | apply Kd.R_alloc | apply Kd.R_drewN | apply Kd.R_drew)); exact (Kd.R_mono (Kd.R_far (p := ⟨gb456, 1, none⟩) (Kd.R_far (p := ⟨gb456, 0, none⟩) (Kd.R_types HO455.out BK456.out (by decide)) (fun _ hk => hk.2) (.int .i64 t452)) (fun _ hk => hk.2) (.slice Ao59 t453.length co59)) (fun _ h_ => h_.1))) hb); have n2_ := Aside0.mk (blk_below (g := gb445) (o := .cells #[.int .i64 a0_0, .slice A0_1 l0_1.length c0_1] 40 (0, 0)) (by (with_reducible repeat (first | refine blk_drewN ?_ _ | refine blk_drew ?_ | refine blk_alloc ?_ _)); refine blk_far ?_ NB445_456.out _; (with_reducible repeat (first | refine blk_drewN ?_ _ | refine blk_drew ?_ | refine blk_alloc ?_ _)); refine blk_far ?_ NB445_456.out _; (with_reducible repeat (first | refine blk_drewN ?_ _ | refine blk_drew ?_ | refine blk_alloc ?_ _)); exact BK445.out) hb); have n3_ := Aside0.mk (blk_below (g := gb456) (o := .cells #[.int .i64 t452, .slice Ao59 t453.length co59] 45 (0, 0)) (by (with_reducible repeat (first | refine blk_drewN ?_ _ | refine blk_drew ?_ | refine blk_alloc ?_ _)); refine blk_put (cs := #[.int .i64 t452, .slice none 0 0]) ?_ 1 _ rfl; (with_reducible repeat (first | refine blk_drewN ?_ _ | refine blk_drew ?_ | refine blk_alloc ?_ _)); refine blk_put (cs := #[.int .i64 0, .slice none 0 0]) ?_ 0 _ rfl; (with_reducible repeat (first | refine blk_drewN ?_ _ | refine blk_drew ?_ | refine blk_alloc ?_ _)); exact BK456.out) hb); have n4_ := Aside0.mk (below_step (HBc GE445 GE456) hb); clear HO450; clear HO455; clear BK445; clear BK456; clear HB; have HO450 := n0_; have HO455 := n1_; have BK445 := n2_; have BK456 := n3_; have HB := n4_; clear n0_ n1_ n2_ n3_ n4_; (try clear hb); (try clear hb2); (try clear hk); (try clear hi)))
 have n0_ := Aside0.mk (Kd.R_drew HO450.out)
 have n1_ := Aside0.mk (Kd.R_drew HO455.out)
 have n2_ := Aside0.mk (blk_drew BK445.out)
 have n3_ := Aside0.mk (blk_drew BK456.out)
 have n4_ := Aside0.mk (below_drew1 HB.out)
 clear HO450
 clear HO455
 clear BK445
 clear BK456
 clear HB
 have HO450 := n0_
 have HO455 := n1_
 have BK445 := n2_
 have BK456 := n3_
 have HB := n4_
 clear n0_ n1_ n2_ n3_ n4_
 refine start_ (n := 5) (S := fun w' => w'.cell? ⟨gb456, 0, none⟩ = some (.int .i64 t452) ∧ w'.cell? ⟨gb456, 1, none⟩ = some (.slice Ao59 t453.length co59) ∧ w'.cell? ⟨gb445, 0, none⟩ = some (.int .i64 a0_0) ∧ w'.cell? ⟨gb445, 1, none⟩ = some (.slice A0_1 l0_1.length c0_1)) (ds := []) (bz 5 0) (by kernel_rfl) rfl (by kernel_rfl) ⟨(blk_cell BK456.out 0).trans rfl, (blk_cell BK456.out 1).trans rfl, (blk_cell BK445.out 0).trans rfl, (blk_cell BK445.out 1).trans rfl⟩ (fun hHeld => ?_)
 generalize w60.drew = w61 at HO450 HO455 BK445 BK456 HB hHeld ⊢
 refine take_ (i := 0) (N := some 22) (v := ?_) (a' := ?_) (bz 5 1) rfl rfl (by kernel_rfl) (fun _ _ _ h => h) (Or.inl ⟨by rfl, ?_⟩) hHeld ?_ ?_
 rotate_left
 ·rintro w' ⟨s0, s1, s2, s3⟩
  go_simp
  with_reducible rfl
 rotate_left
 ·simp only [PUz]
  rfl
 refine take_ (i := 1) (N := some 23) (v := ?_) (a' := ?_) (bz 5 3) rfl rfl (by kernel_rfl) (fun _ _ _ h => h) (Or.inl ⟨by rfl, ?_⟩) hHeld ?_ ?_
 rotate_left
 ·rintro w' ⟨s0, s1, s2, s3⟩
  go_simp
  with_reducible rfl
 rotate_left
 ·simp only [PUz]
  rfl
 refine one_ (i := 2) (N := some 24) (bz 5 7) rfl rfl (by kernel_rfl) (by decide) (fun K hK => ?_)
 refine goes_ Tryd.func21 (by kernel_rfl) rfl #[.agg #[.int .i64 a0_0, .slice A0_1 l0_1.length c0_1]] (by rfl) rfl rfl MPz ?_
 with_reducible refine (laws_toChanges.calls k a0_0 _ _ l0_1 t458 t459 _ ?side1 ?side2 A26.out).mono ?_
 (case side1 => exact KCz (Kd.C_below HR0_1.out HB.out))
 (case side2 => exact HC0_1.out)
 rintro e w62 ⟨v460, rfl, ho0, hb⟩
 refine ⟨_, rfl, ?_⟩
 have n0_ := Aside0.mk (Kd.R_elder' (KRz HO450) (Kd.R_base ho0) hb)
 have n1_ := Aside0.mk (Kd.R_elder' (KRz HO455) (Kd.R_base ho0) hb)
 have n2_ := Aside0.mk (Kd.R_lower (Kd.R_new' (Kd.R_new' ho0 (Kd.R_lt (KRz HO450))) (Kd.R_lt (KRz HO455))) (below_size (HBc GE445 GE456)))
 have n3_ := BBz BK445 hb
 have n4_ := BBz BK456 hb
 have n5_ := Aside0.mk (below_step (HBc GE445 GE456) hb)
 clear HO450
 clear HO455
 clear BK445
 clear BK456
 clear HB
 have HO450 := n0_
 have HO455 := n1_
 have HO461 := n2_
 have BK445 := n3_
 have BK456 := n4_
 have HB := n5_
 clear n0_ n1_ n2_ n3_ n4_ n5_
 (try clear hb)
 (try clear hb2)
 (try clear hk)
 (try clear hi)
 (try clear ho0)
 obtain ⟨Ao63, co63, eo63⟩ := Kd.R_slice HO461.out
 (first | subst eo63 | (injection eo63 with f1_ f2_ f3_; have f4_ := f1_.symm; have f5_ := f3_.symm; clear f1_ f2_ f3_; subst f4_; subst f5_))
 refine hK.out _ _ ⟨(blk_cell BK456.out 0).trans rfl, (blk_cell BK456.out 1).trans rfl, (blk_cell BK445.out 0).trans rfl, (blk_cell BK445.out 1).trans rfl⟩ (fun hHeld => ?_)
 clear hK K
 refine norm_ (a' := ?_) ?_ ?_
 rotate_left
 ·show Act.put _ (some 24) _ = _
  simp only [PUz]
  rfl
 refine one_ (i := 3) (N := some 25) (bz 5 15) rfl rfl (by kernel_rfl) (by decide) (fun K hK => ?_)
 refine goes_ Tryd.func23 (by kernel_rfl) rfl #[.agg #[.int .i64 t452, .slice Ao59 t453.length co59], .agg #[.int .i64 t458, .slice Ao63 t459.length co63]] (by rfl) rfl rfl MPz ?_
 with_reducible refine (laws_eqChanges.calls k t452 _ _ t453 t458 _ _ t459 false _ ?side1 ?side2 ?side3 ?side4 A27.out).mono ?_
 (case side1 => repeat (first | exact (Kd.R_reads' HO455.out).2.2 | (with_reducible refine Kd.C_alloc ?_ _) | (with_reducible refine Kd.C_drewN ?_ _) | (with_reducible refine Kd.C_drew ?_)))
 (case side2 => exact (Kd.R_reads' HO455.out).2.1)
 (case side3 => repeat (first | exact (Kd.R_reads' HO461.out).2.2 | (with_reducible refine Kd.C_alloc ?_ _) | (with_reducible refine Kd.C_drewN ?_ _) | (with_reducible refine Kd.C_drew ?_)))
 (case side4 => exact (Kd.R_reads' HO461.out).2.1)
 rintro e w64 ⟨rfl, hb⟩
 refine ⟨_, rfl, ?_⟩
 have n0_ := Aside0.mk (Kd.R_below (KRz HO450) hb)
 have n1_ := Aside0.mk (Kd.R_below (KRz HO455) hb)
 have n2_ := Aside0.mk (Kd.R_below (KRz HO461) hb)
 have n3_ := BBz BK445 hb
 have n4_ := BBz BK456 hb
 have n5_ := Aside0.mk (below_step (HBc GE445 GE456) hb)
 clear HO450
 clear HO455
 clear HO461
 clear BK445
 clear BK456
 clear HB
 have HO450 := n0_
 have HO455 := n1_
 have HO461 := n2_
 have BK445 := n3_
 have BK456 := n4_
 have HB := n5_
 clear n0_ n1_ n2_ n3_ n4_ n5_
 (try clear hb)
 (try clear hb2)
 (try clear hk)
 (try clear hi)
 refine hK.out _ _ ⟨(blk_cell BK456.out 0).trans rfl, (blk_cell BK456.out 1).trans rfl, (blk_cell BK445.out 0).trans rfl, (blk_cell BK445.out 1).trans rfl⟩ (fun hHeld => ?_)
 clear hK K
 refine norm_ (a' := ?_) ?_ ?_
 rotate_left
 ·show Act.put _ (some 25) _ = _
  simp only [PUz]
  rfl
 refine pure_ (i := 4) (N := some 26) (v := ?_) (a' := ?_) (bz 5 31) rfl rfl (by kernel_rfl) (fun _ _ _ h => h) (Or.inl ⟨by rfl, ?_⟩) ?_ ?_
 rotate_left
 ·intro w'
  go_simp
  with_reducible rfl
 rotate_left
 ·simp only [PUz]
  rfl
 refine done_ (by kernel_rfl) ?_
 try go_wp2
 go_ret
 exact ⟨EZa, HBc GE445 GE456⟩
def ok195 (x : S195) : Prop := x.f0.size ≤ 140737488351232 ∧ x.f1.size ≤ 140737488351232
def ok197 (x : S197) : Prop := x.f0.size ≤ 140737488351232 ∧ (x.f1.length * 16 ≤ 140737488351232 ∧ ∀ y_ ∈ x.f1, y_.size ≤ 140737488351232)
def ok121 (x : S121) : Prop := (x.f0.length * 32 ≤ 140737488351232 ∧ ∀ y_ ∈ x.f0, ok195 y_) ∧ (x.f1.length * 40 ≤ 140737488351232 ∧ ∀ y_ ∈ x.f1, ok197 y_)
def ok123 (x : S123) : Prop := (Lit.int .i64 x.f0).wf = true ∧ (Lit.int .i64 x.f1).wf = true ∧ x.f2.size ≤ 140737488351232 ∧ ok121 x.f3
def ok40 (x : S40) : Prop := (Lit.int .i64 x.f0).wf = true ∧ (x.f1.length * 80 ≤ 140737488351232 ∧ ∀ y_ ∈ x.f1, ok123 y_)
def laws_FnExactChangesRight.Pure : Prop := ∀ (a0_0 : Int) (l0_1 : List (S123)), (Lit.int .i64 a0_0).wf = true → (l0_1.length * 80 ≤ 140737488351232 ∧ ∀ y_ ∈ l0_1, ok123 y_) → ∃ k, laws_FnExactChangesRight.f k a0_0 l0_1 = some true
end Go.Proofs.YtgkjlfimjnhbbaaDoor.PFnExactChangesRight
