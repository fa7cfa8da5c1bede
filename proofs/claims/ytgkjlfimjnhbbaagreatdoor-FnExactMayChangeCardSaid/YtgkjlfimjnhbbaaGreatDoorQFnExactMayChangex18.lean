-- Laid by this session's own program out of the translation; Lean checks it.
import Derived.Test.YtgkjlfimjnhbbaaGreatDoorQFnExactMayChangex0
import Derived.Test.YtgkjlfimjnhbbaaGreatDoorQFnExactMayChangex16
import Derived.Test.YtgkjlfimjnhbbaaGreatDoorQFnExactMayChangex17
namespace Go.Proofs.YtgkjlfimjnhbbaaGreatDoor.PFnExactMayChange
open Go.RowKit Go.Proofs.YtgkjlfimjnhbbaaGreatDoorW.PrintWords Go.Proofs.YtgkjlfimjnhbbaaGreatDoorW.PrintLast Go.Proofs.YtgkjlfimjnhbbaaGreatDoorW.PrintMore
attribute [local go_sem] max2_int min2_int max_two min_two max_three min_three max_four min_four   -- for this text's walks alone
set_option linter.unusedVariables false
set_option linter.unusedSimpArgs false
def laws_eqRuleS.l0 : Nat → List (S53) → List (S53) → Int → Option (Bool)
 | 0, _, _, _ => none
 | k + 1, x0, x1, x5 => if x5 < (x0.length : Int) then (if 0 ≤ x5 then (if x5 < (x1.length : Int) then ((laws_eqRule.f k ((rd_T53 x0 x5).f0) ((rd_T53 x0 x5).f1) ((rd_T53 x0 x5).f2) ((rd_T53 x0 x5).f3) ((rd_T53 x0 x5).f4) ((rd_T53 x1 x5).f0) ((rd_T53 x1 x5).f1) ((rd_T53 x1 x5).f2) ((rd_T53 x1 x5).f3) ((rd_T53 x1 x5).f4)).bind fun t345 => (if t345 = true then (laws_eqRuleS.l0 k x0 x1 (wrap64 (x5 + 1))) else (some false))) else (none)) else (none)) else (some true)
def laws_eqRuleS.f (k : Nat) (l0 : List (S53)) (l1 : List (S53)) : Option (Bool) := if (l0.length : Int) = (l1.length : Int) then (laws_eqRuleS.l0 k l0 l1 0) else (some false)
theorem laws_eqRuleS.mono_l : ∀ k, (∀ y0 y1 y2, LeO (laws_eqRuleS.l0 k y0 y1 y2) (laws_eqRuleS.l0 (k + 1) y0 y1 y2))
 | 0 => fun _ _ _ r h => by simp [laws_eqRuleS.l0] at h
 | k + 1 => by
  have ih0 := laws_eqRuleS.mono_l k
  ·intro y0 y1 y2
   unfold laws_eqRuleS.l0
   repeat' first
   | (with_reducible exact ih0 _ _ _)
   | (with_reducible exact laws_eqRule.mono _ _ _ _ _ _ _ _ _ _ _)
   | (with_reducible exact LeO.refl _)
   | (with_reducible exact LeO.none _)
   | (with_reducible refine LeO.ite ?_ ?_)
   | (with_reducible refine LeO.bind ?_ (fun _ => ?_))
   | exact ih0 _ _ _
   | exact laws_eqRule.mono _ _ _ _ _ _ _ _ _ _ _
   | exact LeO.none _
   | refine LeO.ite ?_ ?_
   | refine LeO.bind ?_ (fun _ => ?_)
theorem laws_eqRuleS.mono : ∀ a0 a1 k, LeO (laws_eqRuleS.f k a0 a1) (laws_eqRuleS.f (k + 1) a0 a1) := by
 intro a0 a1 k
 have ih0 := laws_eqRuleS.mono_l k
 unfold laws_eqRuleS.f
 repeat' first
   | (with_reducible exact ih0 _ _ _)
   | (with_reducible exact laws_eqRule.mono _ _ _ _ _ _ _ _ _ _ _)
   | (with_reducible exact LeO.refl _)
   | (with_reducible exact LeO.none _)
   | (with_reducible refine LeO.ite ?_ ?_)
   | (with_reducible refine LeO.bind ?_ (fun _ => ?_))
   | exact ih0 _ _ _
   | exact laws_eqRule.mono _ _ _ _ _ _ _ _ _ _ _
   | exact LeO.none _
   | refine LeO.ite ?_ ?_
   | refine LeO.bind ?_ (fun _ => ?_)
def laws_eqRuleS.T6 : Bool × List (List Nat × List Nat) := (true, [([], []), ([], []), ([0, 1], [0, 1]), ([2], [2]), ([], []), ([], []), ([4, 5], [4, 5]), ([6], [6]), ([3, 7], [3, 7]), ([8], [8])])
def laws_eqRuleS.B6 : List Nat := [0, 0, 3, 7, 0, 0, 48, 112, 255, 511]
theorem laws_eqRuleS.tab6 : rtab .any (opsOf Tryz.f15 6) = laws_eqRuleS.T6 := by kernel_rfl
theorem laws_eqRuleS.bits6 : waitsOk laws_eqRuleS.T6.2 laws_eqRuleS.B6 = true := by kernel_rfl
set_option maxHeartbeats 8000000 in
set_option maxRecDepth 100000 in
theorem laws_eqRuleS.calls (k : Nat) (A0 : Option Addr) (c0 : Nat) (l0 : List (S53)) (A1 : Option Addr) (c1 : Nat) (l1 : List (S53)) (r : Bool) (w : World) (hr0 : Kd.C k53 w A0 l0.length l0) (hc0 : l0.length ≤ c0) (hr1 : Kd.C k53 w A1 l1.length l1) (hc1 : l1.length ≤ c1) (h : laws_eqRuleS.f k l0 l1 = some r) :
  Calls Tryz.prog 15 #[.slice A0 l0.length c0, .slice A1 l1.length c1] w fun e w' => e = .returned (.bool r) ∧ Below w.heap.size w w' := by
 have hu53 := Tryz.underlying53
 have HR0 := Aside0.mk hr0
 have HC0 := Aside0.mk hc0
 clear hr0 hc0
 have HR1 := Aside0.mk hr1
 have HC1 := Aside0.mk hc1
 clear hr1 hc1
 have HB := Aside0.mk (Below.refl w.heap.size w)
 have H : (if (l0.length : Int) = (l1.length : Int) then (laws_eqRuleS.l0 k l0 l1 0) else (some false)) = some r := h
 clear h
 by_cases c3 : (l0.length : Int) = (l1.length : Int)
 rotate_left
 ·rw [if_neg c3] at H
  have c3b0 : ((l0.length : Int) == (l1.length : Int)) = false := beq_eq_false_iff_ne.mpr c3
  have c3b1 : ((l0.length : Int) != (l1.length : Int)) = true := bne_iff_ne.mpr c3
  have c3b2 : (l0.length == l1.length) = false := by first | simpa using c3 | (simp at c3 ⊢; omega)
  obtain rfl := Option.some.inj H
  go_enter Tryz.func15, Tryz.ntmps15
  go_wp2
  go_ret
  exact ⟨EZa, HBa⟩
 rw [if_pos c3] at H
 have c3b0 : ((l0.length : Int) == (l1.length : Int)) = true := beq_iff_eq.mpr c3
 have c3b1 : ((l0.length : Int) != (l1.length : Int)) = false := bne_eq_false_iff_eq.mpr c3
 have c3b2 : (l0.length == l1.length) = true := by first | simpa using c3 | (simp at c3 ⊢; omega)
 clear c3
 have H' := Aside0.mk H
 clear H
 go_enter Tryz.func15, Tryz.ntmps15
 go_wp2
 go_loopg [5] k (fun kq v5 w' => ∃ (x5_1 : Int), v5 = .int .i64 x5_1 ∧ Aside0 (laws_eqRuleS.l0 kq l0 l1 x5_1 = some r) ∧ Aside0 (kq ≤ k) ∧ Aside0 (Below w.heap.size w w'))
 case atStart => exact ⟨(0), EZc, H', ⟨Nat.le_refl _⟩, ⟨HBa⟩⟩
 case round =>
  clear H'
  try clear c1
  try clear p2
  try clear c3
  try clear c3b0
  try clear c3b1
  try clear c3b2
  obtain ⟨x5_1, rfl, HA, HK1, HB⟩ := hrel
  cases gk with
  | zero => exact absurd HA.out (by simp [laws_eqRuleS.l0])
  | succ k1 =>
   have H := HA.out
   clear HA
   simp only [laws_eqRuleS.l0] at H
   by_cases c4 : x5_1 < (l0.length : Int)
   rotate_left
   ·rw [if_neg c4] at H
    have c4b0 : decide (x5_1 < (l0.length : Int)) = false := decide_eq_false c4
    clear c4
    obtain rfl := Option.some.inj H
    go_wp2
    go_ret
    exact ⟨EZa, HBa⟩
   rw [if_pos c4] at H
   have c4b0 : decide (x5_1 < (l0.length : Int)) = true := decide_eq_true c4
   clear c4
   by_cases c5 : 0 ≤ x5_1
   rotate_left
   ·rw [if_neg c5] at H
    exact absurd H (by simp)
   rw [if_pos c5] at H
   have c5b0 : decide (0 ≤ x5_1) = true := decide_eq_true c5
   clear c5
   by_cases c6 : x5_1 < (l1.length : Int)
   rotate_left
   ·rw [if_neg c6] at H
    exact absurd H (by simp)
   rw [if_pos c6] at H
   have c6b0 : decide (x5_1 < (l1.length : Int)) = true := decide_eq_true c6
   clear c6
   replace H := Option.bind_eq_some_iff.mp H
   obtain ⟨t345, A70, H⟩ := H
   replace H : (if t345 = true then (laws_eqRuleS.l0 k1 l0 l1 (wrap64 (x5_1 + 1))) else (some false)) = some r := H
   have A7 := Aside0.mk A70
   clear A70
   by_cases c8 : t345 = true
   rotate_left
   ·replace c8 := Bool.eq_false_iff.mpr c8
    subst c8
    have H1 : (some false) = some r := by rw [if_neg (show ¬ (false = true) by decide)] at H; exact H
    clear H
    have H := H1
    clear H1
    obtain rfl := Option.some.inj H
    try go_wp2
    have n0_ := Aside0.mk (below_drew1 HB.out)
    clear HB
    have HB := n0_
    clear n0_
    have p343 : 0 ≤ (x5_1 : Int) := ODz
    have q343 : x5_1 < (l0.length : Int) := ODz
    obtain ⟨ad343, A343_1, c343_1, A343_2, c343_2, e343, hx343_0, hx343_1, hx343_2, hx343_3, hx343_4, hl343_1, hi343_1, hl343_2, hi343_2⟩ := at_T53 HR0.out x5_1 p343 q343
    have hw343_4 := hx343_4
    have hw343_3 := hx343_3
    have hw343_2 := hx343_2
    have hw343_1 := hx343_1
    have hw343_0 := hx343_0
    cases e343
    replace hx343_0 := HXz HB hx343_0
    replace hx343_1 := HXz HB hx343_1
    replace hx343_2 := HXz HB hx343_2
    replace hx343_3 := HXz HB hx343_3
    replace hx343_4 := HXz HB hx343_4
    have HR343_1 := Aside0.mk hi343_1
    have HC343_1 := Aside0.mk hl343_1
    clear hi343_1 hl343_1
    have HR343_2 := Aside0.mk hi343_2
    have HC343_2 := Aside0.mk hl343_2
    clear hi343_2 hl343_2
    replace p343 := eq_true p343
    replace q343 := eq_true q343
    have p344 : 0 ≤ (x5_1 : Int) := ODz
    have q344 : x5_1 < (l1.length : Int) := ODz
    obtain ⟨ad344, A344_1, c344_1, A344_2, c344_2, e344, hx344_0, hx344_1, hx344_2, hx344_3, hx344_4, hl344_1, hi344_1, hl344_2, hi344_2⟩ := at_T53 HR1.out x5_1 p344 q344
    have hw344_4 := hx344_4
    have hw344_3 := hx344_3
    have hw344_2 := hx344_2
    have hw344_1 := hx344_1
    have hw344_0 := hx344_0
    cases e344
    replace hx344_0 := HXz HB hx344_0
    replace hx344_1 := HXz HB hx344_1
    replace hx344_2 := HXz HB hx344_2
    replace hx344_3 := HXz HB hx344_3
    replace hx344_4 := HXz HB hx344_4
    have HR344_1 := Aside0.mk hi344_1
    have HC344_1 := Aside0.mk hl344_1
    clear hi344_1 hl344_1
    have HR344_2 := Aside0.mk hi344_2
    have HC344_2 := Aside0.mk hl344_2
    clear hi344_2 hl344_2
    replace p344 := eq_true p344
    replace q344 := eq_true q344
    refine start_ (n := 10) (S := fun w' => w'.cell? (ad343.add ((x5_1).toNat * 5)) = some (.string ((rd_T53 l0 x5_1).f0)) ∧ w'.cell? ⟨(ad343.add ((x5_1).toNat * 5)).block, (ad343.add ((x5_1).toNat * 5)).off + 1, none⟩ = some (.slice A343_1 ((rd_T53 l0 x5_1).f1).length c343_1) ∧ w'.cell? ⟨(ad343.add ((x5_1).toNat * 5)).block, (ad343.add ((x5_1).toNat * 5)).off + 2, none⟩ = some (.slice A343_2 ((rd_T53 l0 x5_1).f2).length c343_2) ∧ w'.cell? ⟨(ad343.add ((x5_1).toNat * 5)).block, (ad343.add ((x5_1).toNat * 5)).off + 3, none⟩ = some (.int .i64 ((rd_T53 l0 x5_1).f3)) ∧ w'.cell? ⟨(ad343.add ((x5_1).toNat * 5)).block, (ad343.add ((x5_1).toNat * 5)).off + 4, none⟩ = some (.bool ((rd_T53 l0 x5_1).f4)) ∧ w'.cell? (ad344.add ((x5_1).toNat * 5)) = some (.string ((rd_T53 l1 x5_1).f0)) ∧ w'.cell? ⟨(ad344.add ((x5_1).toNat * 5)).block, (ad344.add ((x5_1).toNat * 5)).off + 1, none⟩ = some (.slice A344_1 ((rd_T53 l1 x5_1).f1).length c344_1) ∧ w'.cell? ⟨(ad344.add ((x5_1).toNat * 5)).block, (ad344.add ((x5_1).toNat * 5)).off + 2, none⟩ = some (.slice A344_2 ((rd_T53 l1 x5_1).f2).length c344_2) ∧ w'.cell? ⟨(ad344.add ((x5_1).toNat * 5)).block, (ad344.add ((x5_1).toNat * 5)).off + 3, none⟩ = some (.int .i64 ((rd_T53 l1 x5_1).f3)) ∧ w'.cell? ⟨(ad344.add ((x5_1).toNat * 5)).block, (ad344.add ((x5_1).toNat * 5)).off + 4, none⟩ = some (.bool ((rd_T53 l1 x5_1).f4))) (ds := []) (bz 10 0) (by kernel_rfl) rfl (by kernel_rfl) ⟨(HXz HB hw343_0 :), (HXz HB hw343_1 :), (HXz HB hw343_2 :), (HXz HB hw343_3 :), (HXz HB hw343_4 :), (HXz HB hw344_0 :), (HXz HB hw344_1 :), (HXz HB hw344_2 :), (HXz HB hw344_3 :), (HXz HB hw344_4 :)⟩ (fun hHeld => ?_); refine with_tabW laws_eqRuleS.tab6 laws_eqRuleS.bits6 (fun HT_ HW_ => ?_)
    generalize wr.drew = w11 at HB HR343_1 HR343_2 HR344_1 HR344_2 hx343_0 hx343_1 hx343_2 hx343_3 hx343_4 hx344_0 hx344_1 hx344_2 hx344_3 hx344_4 hHeld ⊢
    refine PYz 0 17 (bz 10 1) rfl rfl (any_of HT_.out (by kernel_rfl)) ?_
    refine PYz 1 18 (bz 10 3) rfl rfl (any_of HT_.out (by kernel_rfl)) ?_
    refine PYz 2 19 (bz 10 7) rfl rfl (any_of HT_.out (by kernel_rfl)) ?_
    refine PYz 4 21 (bz 10 23) rfl rfl (any_of HT_.out (by kernel_rfl)) ?_
    refine PYz 5 22 (bz 10 55) rfl rfl (any_of HT_.out (by kernel_rfl)) ?_
    refine PYz 6 23 (bz 10 119) rfl rfl (any_of HT_.out (by kernel_rfl)) ?_
    refine take_ (i := 3) (N := some 20) (v := ?_) (a' := ?_) (bz 10 127) rfl rfl (take_ofW HT_.out HW_.out (by kernel_rfl)) (fun _ _ _ h => h) (Or.inl ⟨by rfl, ?_⟩) hHeld ?_ ?_
    rotate_left
    ·rintro w' ⟨s0, s1, s2, s3, s4, s5, s6, s7, s8, s9⟩
     go_simp
     with_reducible rfl
    rotate_left
    ·simp only [PUz]
     rfl
    refine take_ (i := 7) (N := some 24) (v := ?_) (a' := ?_) (bz 10 255) rfl rfl (take_ofW HT_.out HW_.out (by kernel_rfl)) (fun _ _ _ h => h) (Or.inl ⟨by rfl, ?_⟩) hHeld ?_ ?_
    rotate_left
    ·rintro w' ⟨s0, s1, s2, s3, s4, s5, s6, s7, s8, s9⟩
     go_simp
     with_reducible rfl
    rotate_left
    ·simp only [PUz]
     rfl
    refine one_ (i := 8) (N := some 25) (bz 10 511) rfl rfl (one_of HT_.out (by kernel_rfl)) (by decide) (fun K hK => ?_)
    refine goes_ Tryz.func58 (by kernel_rfl) rfl #[.agg #[.string ((rd_T53 l0 x5_1).f0), .slice A343_1 ((rd_T53 l0 x5_1).f1).length c343_1, .slice A343_2 ((rd_T53 l0 x5_1).f2).length c343_2, .int .i64 ((rd_T53 l0 x5_1).f3), .bool ((rd_T53 l0 x5_1).f4)], .agg #[.string ((rd_T53 l1 x5_1).f0), .slice A344_1 ((rd_T53 l1 x5_1).f1).length c344_1, .slice A344_2 ((rd_T53 l1 x5_1).f2).length c344_2, .int .i64 ((rd_T53 l1 x5_1).f3), .bool ((rd_T53 l1 x5_1).f4)]] (by rfl) rfl rfl MPz ?_
    with_reducible refine (laws_eqRule.calls k1 ((rd_T53 l0 x5_1).f0) _ _ ((rd_T53 l0 x5_1).f1) _ _ ((rd_T53 l0 x5_1).f2) ((rd_T53 l0 x5_1).f3) ((rd_T53 l0 x5_1).f4) ((rd_T53 l1 x5_1).f0) _ _ ((rd_T53 l1 x5_1).f1) _ _ ((rd_T53 l1 x5_1).f2) ((rd_T53 l1 x5_1).f3) ((rd_T53 l1 x5_1).f4) false _ ?side1 ?side2 ?side3 ?side4 ?side5 ?side6 ?side7 ?side8 A7.out).mono ?_
    (case side1 => exact KCz (Kd.C_below HR343_1.out HB.out))
    (case side2 => exact HC343_1.out)
    (case side3 => exact KCz (Kd.C_below HR343_2.out HB.out))
    (case side4 => exact HC343_2.out)
    (case side5 => exact KCz (Kd.C_below HR344_1.out HB.out))
    (case side6 => exact HC344_1.out)
    (case side7 => exact KCz (Kd.C_below HR344_2.out HB.out))
    (case side8 => exact HC344_2.out)
    rintro e w12 ⟨rfl, hb⟩
    refine ⟨_, rfl, ?_⟩
    have n0_ := Aside0.mk (below_step HBa hb)
    clear HB
    have HB := n0_
    clear n0_
    (try clear hb)
    (try clear hb2)
    (try clear hk)
    (try clear hi)
    refine hK.out _ _ ⟨(HXz HB hw343_0 :), (HXz HB hw343_1 :), (HXz HB hw343_2 :), (HXz HB hw343_3 :), (HXz HB hw343_4 :), (HXz HB hw344_0 :), (HXz HB hw344_1 :), (HXz HB hw344_2 :), (HXz HB hw344_3 :), (HXz HB hw344_4 :)⟩ (fun hHeld => ?_)
    clear hK K
    refine norm_ (a' := ?_) ?_ ?_
    rotate_left
    ·show Act.put _ (some 25) _ = _
     simp only [PUz]
     rfl
    refine PYz 9 26 (bz 10 1023) rfl rfl (any_of HT_.out (by kernel_rfl)) ?_
    refine done_ (done_of HT_.out (by kernel_rfl)) ?_
    try go_wp2
    go_ret
    exact ⟨EZa, HBa⟩
   subst c8
   have H1 : (laws_eqRuleS.l0 k1 l0 l1 (wrap64 (x5_1 + 1))) = some r := by rw [if_pos rfl] at H; exact H
   clear H
   have H := H1
   clear H1
   have H' := Aside0.mk H
   clear H
   try go_wp2
   have n0_ := Aside0.mk (below_drew1 HB.out)
   clear HB
   have HB := n0_
   clear n0_
   have p343 : 0 ≤ (x5_1 : Int) := ODz
   have q343 : x5_1 < (l0.length : Int) := ODz
   obtain ⟨ad343, A343_1, c343_1, A343_2, c343_2, e343, hx343_0, hx343_1, hx343_2, hx343_3, hx343_4, hl343_1, hi343_1, hl343_2, hi343_2⟩ := at_T53 HR0.out x5_1 p343 q343
   have hw343_4 := hx343_4
   have hw343_3 := hx343_3
   have hw343_2 := hx343_2
   have hw343_1 := hx343_1
   have hw343_0 := hx343_0
   cases e343
   replace hx343_0 := HXz HB hx343_0
   replace hx343_1 := HXz HB hx343_1
   replace hx343_2 := HXz HB hx343_2
   replace hx343_3 := HXz HB hx343_3
   replace hx343_4 := HXz HB hx343_4
   have HR343_1 := Aside0.mk hi343_1
   have HC343_1 := Aside0.mk hl343_1
   clear hi343_1 hl343_1
   have HR343_2 := Aside0.mk hi343_2
   have HC343_2 := Aside0.mk hl343_2
   clear hi343_2 hl343_2
   replace p343 := eq_true p343
   replace q343 := eq_true q343
   have p344 : 0 ≤ (x5_1 : Int) := ODz
   have q344 : x5_1 < (l1.length : Int) := ODz
   obtain ⟨ad344, A344_1, c344_1, A344_2, c344_2, e344, hx344_0, hx344_1, hx344_2, hx344_3, hx344_4, hl344_1, hi344_1, hl344_2, hi344_2⟩ := at_T53 HR1.out x5_1 p344 q344
   have hw344_4 := hx344_4
   have hw344_3 := hx344_3
   have hw344_2 := hx344_2
   have hw344_1 := hx344_1
   have hw344_0 := hx344_0
   cases e344
   replace hx344_0 := HXz HB hx344_0
   replace hx344_1 := HXz HB hx344_1
   replace hx344_2 := HXz HB hx344_2
   replace hx344_3 := HXz HB hx344_3
   replace hx344_4 := HXz HB hx344_4
   have HR344_1 := Aside0.mk hi344_1
   have HC344_1 := Aside0.mk hl344_1
   clear hi344_1 hl344_1
   have HR344_2 := Aside0.mk hi344_2
   have HC344_2 := Aside0.mk hl344_2
   clear hi344_2 hl344_2
   replace p344 := eq_true p344
   replace q344 := eq_true q344
   refine start_ (n := 10) (S := fun w' => w'.cell? (ad343.add ((x5_1).toNat * 5)) = some (.string ((rd_T53 l0 x5_1).f0)) ∧ w'.cell? ⟨(ad343.add ((x5_1).toNat * 5)).block, (ad343.add ((x5_1).toNat * 5)).off + 1, none⟩ = some (.slice A343_1 ((rd_T53 l0 x5_1).f1).length c343_1) ∧ w'.cell? ⟨(ad343.add ((x5_1).toNat * 5)).block, (ad343.add ((x5_1).toNat * 5)).off + 2, none⟩ = some (.slice A343_2 ((rd_T53 l0 x5_1).f2).length c343_2) ∧ w'.cell? ⟨(ad343.add ((x5_1).toNat * 5)).block, (ad343.add ((x5_1).toNat * 5)).off + 3, none⟩ = some (.int .i64 ((rd_T53 l0 x5_1).f3)) ∧ w'.cell? ⟨(ad343.add ((x5_1).toNat * 5)).block, (ad343.add ((x5_1).toNat * 5)).off + 4, none⟩ = some (.bool ((rd_T53 l0 x5_1).f4)) ∧ w'.cell? (ad344.add ((x5_1).toNat * 5)) = some (.string ((rd_T53 l1 x5_1).f0)) ∧ w'.cell? ⟨(ad344.add ((x5_1).toNat * 5)).block, (ad344.add ((x5_1).toNat * 5)).off + 1, none⟩ = some (.slice A344_1 ((rd_T53 l1 x5_1).f1).length c344_1) ∧ w'.cell? ⟨(ad344.add ((x5_1).toNat * 5)).block, (ad344.add ((x5_1).toNat * 5)).off + 2, none⟩ = some (.slice A344_2 ((rd_T53 l1 x5_1).f2).length c344_2) ∧ w'.cell? ⟨(ad344.add ((x5_1).toNat * 5)).block, (ad344.add ((x5_1).toNat * 5)).off + 3, none⟩ = some (.int .i64 ((rd_T53 l1 x5_1).f3)) ∧ w'.cell? ⟨(ad344.add ((x5_1).toNat * 5)).block, (ad344.add ((x5_1).toNat * 5)).off + 4, none⟩ = some (.bool ((rd_T53 l1 x5_1).f4))) (ds := []) (bz 10 0) (by kernel_rfl) rfl (by kernel_rfl) ⟨(HXz HB hw343_0 :), (HXz HB hw343_1 :), (HXz HB hw343_2 :), (HXz HB hw343_3 :), (HXz HB hw343_4 :), (HXz HB hw344_0 :), (HXz HB hw344_1 :), (HXz HB hw344_2 :), (HXz HB hw344_3 :), (HXz HB hw344_4 :)⟩ (fun hHeld => ?_); refine with_tabW laws_eqRuleS.tab6 laws_eqRuleS.bits6 (fun HT_ HW_ => ?_)
   generalize wr.drew = w9 at HB HR343_1 HR343_2 HR344_1 HR344_2 hx343_0 hx343_1 hx343_2 hx343_3 hx343_4 hx344_0 hx344_1 hx344_2 hx344_3 hx344_4 hHeld ⊢
   refine PYz 0 17 (bz 10 1) rfl rfl (any_of HT_.out (by kernel_rfl)) ?_
   refine PYz 1 18 (bz 10 3) rfl rfl (any_of HT_.out (by kernel_rfl)) ?_
   refine PYz 2 19 (bz 10 7) rfl rfl (any_of HT_.out (by kernel_rfl)) ?_
   refine PYz 4 21 (bz 10 23) rfl rfl (any_of HT_.out (by kernel_rfl)) ?_
   refine PYz 5 22 (bz 10 55) rfl rfl (any_of HT_.out (by kernel_rfl)) ?_
   refine PYz 6 23 (bz 10 119) rfl rfl (any_of HT_.out (by kernel_rfl)) ?_
   refine take_ (i := 3) (N := some 20) (v := ?_) (a' := ?_) (bz 10 127) rfl rfl (take_ofW HT_.out HW_.out (by kernel_rfl)) (fun _ _ _ h => h) (Or.inl ⟨by rfl, ?_⟩) hHeld ?_ ?_
   rotate_left
   ·rintro w' ⟨s0, s1, s2, s3, s4, s5, s6, s7, s8, s9⟩
    go_simp
    with_reducible rfl
   rotate_left
   ·simp only [PUz]
    rfl
   refine take_ (i := 7) (N := some 24) (v := ?_) (a' := ?_) (bz 10 255) rfl rfl (take_ofW HT_.out HW_.out (by kernel_rfl)) (fun _ _ _ h => h) (Or.inl ⟨by rfl, ?_⟩) hHeld ?_ ?_
   rotate_left
   ·rintro w' ⟨s0, s1, s2, s3, s4, s5, s6, s7, s8, s9⟩
    go_simp
    with_reducible rfl
   rotate_left
   ·simp only [PUz]
    rfl
   refine one_ (i := 8) (N := some 25) (bz 10 511) rfl rfl (one_of HT_.out (by kernel_rfl)) (by decide) (fun K hK => ?_)
   refine goes_ Tryz.func58 (by kernel_rfl) rfl #[.agg #[.string ((rd_T53 l0 x5_1).f0), .slice A343_1 ((rd_T53 l0 x5_1).f1).length c343_1, .slice A343_2 ((rd_T53 l0 x5_1).f2).length c343_2, .int .i64 ((rd_T53 l0 x5_1).f3), .bool ((rd_T53 l0 x5_1).f4)], .agg #[.string ((rd_T53 l1 x5_1).f0), .slice A344_1 ((rd_T53 l1 x5_1).f1).length c344_1, .slice A344_2 ((rd_T53 l1 x5_1).f2).length c344_2, .int .i64 ((rd_T53 l1 x5_1).f3), .bool ((rd_T53 l1 x5_1).f4)]] (by rfl) rfl rfl MPz ?_
   with_reducible refine (laws_eqRule.calls k1 ((rd_T53 l0 x5_1).f0) _ _ ((rd_T53 l0 x5_1).f1) _ _ ((rd_T53 l0 x5_1).f2) ((rd_T53 l0 x5_1).f3) ((rd_T53 l0 x5_1).f4) ((rd_T53 l1 x5_1).f0) _ _ ((rd_T53 l1 x5_1).f1) _ _ ((rd_T53 l1 x5_1).f2) ((rd_T53 l1 x5_1).f3) ((rd_T53 l1 x5_1).f4) true _ ?side1 ?side2 ?side3 ?side4 ?side5 ?side6 ?side7 ?side8 A7.out).mono ?_
   (case side1 => exact KCz (Kd.C_below HR343_1.out HB.out))
   (case side2 => exact HC343_1.out)
   (case side3 => exact KCz (Kd.C_below HR343_2.out HB.out))
   (case side4 => exact HC343_2.out)
   (case side5 => exact KCz (Kd.C_below HR344_1.out HB.out))
   (case side6 => exact HC344_1.out)
   (case side7 => exact KCz (Kd.C_below HR344_2.out HB.out))
   (case side8 => exact HC344_2.out)
   rintro e w10 ⟨rfl, hb⟩
   refine ⟨_, rfl, ?_⟩
   have n0_ := Aside0.mk (below_step HBa hb)
   clear HB
   have HB := n0_
   clear n0_
   (try clear hb)
   (try clear hb2)
   (try clear hk)
   (try clear hi)
   refine hK.out _ _ ⟨(HXz HB hw343_0 :), (HXz HB hw343_1 :), (HXz HB hw343_2 :), (HXz HB hw343_3 :), (HXz HB hw343_4 :), (HXz HB hw344_0 :), (HXz HB hw344_1 :), (HXz HB hw344_2 :), (HXz HB hw344_3 :), (HXz HB hw344_4 :)⟩ (fun hHeld => ?_)
   clear hK K
   refine norm_ (a' := ?_) ?_ ?_
   rotate_left
   ·show Act.put _ (some 25) _ = _
    simp only [PUz]
    rfl
   refine PYz 9 26 (bz 10 1023) rfl rfl (any_of HT_.out (by kernel_rfl)) ?_
   refine done_ (done_of HT_.out (by kernel_rfl)) ?_
   try go_wp2
   go_roundg k1
   case measure => have := HK1.out; omega
   case rel => exact ⟨(wrap64 (x5_1 + 1)), EZc, H', ⟨by have := HK1.out; omega⟩, ⟨HBa⟩⟩
def laws_eqAttr.f (k : Nat) (a0_0 : ByteArray) (l0_1 : List ByteArray) (a1_0 : ByteArray) (l1_1 : List ByteArray) : Option (Bool) := if a0_0.toList = a1_0.toList then ((laws_eqStringS.f k l0_1 l1_1).bind fun t348 => (if t348 = true then (some true) else (some false))) else (some false)
theorem laws_eqAttr.mono : ∀ a0 a1 a2 a3 k, LeO (laws_eqAttr.f k a0 a1 a2 a3) (laws_eqAttr.f (k + 1) a0 a1 a2 a3) := by
 intro a0 a1 a2 a3 k
 unfold laws_eqAttr.f
 repeat' first
   | (with_reducible exact laws_eqStringS.mono _ _ _)
   | (with_reducible exact LeO.refl _)
   | (with_reducible exact LeO.none _)
   | (with_reducible refine LeO.ite ?_ ?_)
   | (with_reducible refine LeO.bind ?_ (fun _ => ?_))
   | exact laws_eqStringS.mono _ _ _
   | exact LeO.none _
   | refine LeO.ite ?_ ?_
   | refine LeO.bind ?_ (fun _ => ?_)
set_option maxHeartbeats 8000000 in
set_option maxRecDepth 100000 in
theorem laws_eqAttr.calls (k : Nat) (a0_0 : ByteArray) (A0_1 : Option Addr) (c0_1 : Nat) (l0_1 : List ByteArray) (a1_0 : ByteArray) (A1_1 : Option Addr) (c1_1 : Nat) (l1_1 : List ByteArray) (r : Bool) (w : World) (hr0_1 : Kd.C Kd.string w A0_1 l0_1.length l0_1) (hc0_1 : l0_1.length ≤ c0_1) (hr1_1 : Kd.C Kd.string w A1_1 l1_1.length l1_1) (hc1_1 : l1_1.length ≤ c1_1) (h : laws_eqAttr.f k a0_0 l0_1 a1_0 l1_1 = some r) :
  Calls Tryz.prog 104 #[.agg #[.string a0_0, .slice A0_1 l0_1.length c0_1], .agg #[.string a1_0, .slice A1_1 l1_1.length c1_1]] w fun e w' => e = .returned (.bool r) ∧ Below w.heap.size w w' := by
 have hu127 := Tryz.underlying127
 have HR0_1 := Aside0.mk hr0_1
 have HC0_1 := Aside0.mk hc0_1
 clear hr0_1 hc0_1
 have HR1_1 := Aside0.mk hr1_1
 have HC1_1 := Aside0.mk hc1_1
 clear hr1_1 hc1_1
 have HB := Aside0.mk (Below.refl w.heap.size w)
 have H : (if a0_0.toList = a1_0.toList then ((laws_eqStringS.f k l0_1 l1_1).bind fun t348 => (if t348 = true then (some true) else (some false))) else (some false)) = some r := h
 clear h
 by_cases c3 : a0_0.toList = a1_0.toList
 rotate_left
 ·rw [if_neg c3] at H
  have c3b0 : (a0_0.toList == a1_0.toList) = false := beq_eq_false_iff_ne.mpr c3
  have c3b1 : (a0_0.toList != a1_0.toList) = true := bne_iff_ne.mpr c3
  obtain rfl := Option.some.inj H
  go_enter Tryz.func104, Tryz.ntmps104
  go_wp2_with (first | ((with_reducible refine gate_dst (N := 2) rfl ?_); refine box_event ?hg (N := 2) ?hd (cs := #[.string a0_0, .slice A0_1 l0_1.length c0_1]) (t := 127) ?hr ?_; (case hd => rfl); (case hg => rfl); (case hr => first | (go_simp; done) | (go_simp; rfl)); intro gb346 hg w16 hbox hb; have n0_ := Aside0.mk (below_step HBa hb); have n1_ := Aside0.mk (hbox); have n2_ := BSz w hg HBa; have n3_ := BSz w hg HBa; clear HB; have HB := n0_; have BK346 := n1_; have GW346 := n2_; have GE346 := n3_; clear n0_ n1_ n2_ n3_; clear hb hbox hg) | ((with_reducible refine gate_dst (N := 3) rfl ?_); refine box_event ?hg (N := 3) ?hd (cs := #[.string a1_0, .slice A1_1 l1_1.length c1_1]) (t := 127) ?hr ?_; (case hd => rfl); (case hg => rfl); (case hr => first | (go_simp; done) | (go_simp; rfl)); intro gb347 hg w17 hbox hb; have n0_ := BBz BK346 hb; have n1_ := Aside0.mk (below_step (HBb GE346) hb); have n2_ := Aside0.mk (hbox); have n3_ := BSz w hg (HBb GE346); have n4_ := BSz w hg (HBb GE346); have n5_ := BNz BK346 hg; have n6_ := BMz BK346 hg; clear BK346; clear HB; have BK346 := n0_; have HB := n1_; have BK347 := n2_; have GW347 := n3_; have GE347 := n4_; have NB346_347 := n5_; have NB347_346 := n6_; clear n0_ n1_ n2_ n3_ n4_ n5_ n6_; clear hb hbox hg; have hnb18 := NB346_347.out; have hnc18 := NB347_346.out; have hcz19_0 := C1z BK346; have hcz19_1 := C2z BK346; have hfz19_0 := blk_frozen BK346.out 0; have hfz19_1 := blk_frozen BK346.out 1; have hcz20_0 := C1z BK347; have hcz20_1 := C2z BK347; have hfz20_0 := blk_frozen BK347.out 0; have hfz20_1 := blk_frozen BK347.out 1))
  go_ret
  exact ⟨EZa, HBc GE346 GE347⟩
 rw [if_pos c3] at H
 have c3b0 : (a0_0.toList == a1_0.toList) = true := beq_iff_eq.mpr c3
 have c3b1 : (a0_0.toList != a1_0.toList) = false := bne_eq_false_iff_eq.mpr c3
 clear c3
 replace H := Option.bind_eq_some_iff.mp H
 obtain ⟨t348, A40, H⟩ := H
 replace H : (if t348 = true then (some true) else (some false)) = some r := H
 have A4 := Aside0.mk A40
 clear A40
 by_cases c5 : t348 = true
 ·subst c5
  have H1 : (some true) = some r := by rw [if_pos rfl] at H; exact H
  clear H
  have H := H1
  clear H1
  obtain rfl := Option.some.inj H
  go_enter Tryz.func104, Tryz.ntmps104
  go_wp2_with (first | ((with_reducible refine gate_dst (N := 2) rfl ?_); refine box_event ?hg (N := 2) ?hd (cs := #[.string a0_0, .slice A0_1 l0_1.length c0_1]) (t := 127) ?hr ?_; (case hd => rfl); (case hg => rfl); (case hr => first | (go_simp; done) | (go_simp; rfl)); intro gb346 hg w6 hbox hb; have n0_ := Aside0.mk (below_step HBa hb); have n1_ := Aside0.mk (hbox); have n2_ := BSz w hg HBa; have n3_ := BSz w hg HBa; clear HB; have HB := n0_; have BK346 := n1_; have GW346 := n2_; have GE346 := n3_; clear n0_ n1_ n2_ n3_; clear hb hbox hg) | ((with_reducible refine gate_dst (N := 3) rfl ?_); refine box_event ?hg (N := 3) ?hd (cs := #[.string a1_0, .slice A1_1 l1_1.length c1_1]) (t := 127) ?hr ?_; (case hd => rfl); (case hg => rfl); (case hr => first | (go_simp; done) | (go_simp; rfl)); intro gb347 hg w7 hbox hb; have n0_ := BBz BK346 hb; have n1_ := Aside0.mk (below_step (HBb GE346) hb); have n2_ := Aside0.mk (hbox); have n3_ := BSz w hg (HBb GE346); have n4_ := BSz w hg (HBb GE346); have n5_ := BNz BK346 hg; have n6_ := BMz BK346 hg; clear BK346; clear HB; have BK346 := n0_; have HB := n1_; have BK347 := n2_; have GW347 := n3_; have GE347 := n4_; have NB346_347 := n5_; have NB347_346 := n6_; clear n0_ n1_ n2_ n3_ n4_ n5_ n6_; clear hb hbox hg; have hnb8 := NB346_347.out; have hnc8 := NB347_346.out; have hcz9_0 := C1z BK346; have hcz9_1 := C2z BK346; have hfz9_0 := blk_frozen BK346.out 0; have hfz9_1 := blk_frozen BK346.out 1; have hcz10_0 := C1z BK347; have hcz10_1 := C2z BK347; have hfz10_0 := blk_frozen BK347.out 0; have hfz10_1 := blk_frozen BK347.out 1) | ((with_reducible refine gate_callee (f := 17) rfl ?_); refine goesL_ (some 14) rfl rfl Tryz.func17 (by kernel_rfl) rfl #[.slice A0_1 l0_1.length c0_1, .slice A1_1 l1_1.length c1_1] rfl MPz ?_; (with_reducible refine (laws_eqStringS.calls k _ _ l0_1 _ _ l1_1 true _ ?side1 ?side2 ?side3 ?side4 A4.out).mono ?_); (case side1 => exact KCz (Kd.C_below HR0_1.out HB.out)); (case side2 => exact HC0_1.out); (case side3 => exact KCz (Kd.C_below HR1_1.out HB.out)); (case side4 => exact HC1_1.out); rintro e w' ⟨rfl, ⟨nd, rfl⟩⟩; refine ⟨_, rfl, ?_⟩))
  go_ret
  exact ⟨EZa, HBc GE346 GE347⟩
 replace c5 := Bool.eq_false_iff.mpr c5
 subst c5
 have H1 : (some false) = some r := by rw [if_neg (show ¬ (false = true) by decide)] at H; exact H
 clear H
 have H := H1
 clear H1
 obtain rfl := Option.some.inj H
 go_enter Tryz.func104, Tryz.ntmps104
 go_wp2_with (first | ((with_reducible refine gate_dst (N := 2) rfl ?_); refine box_event ?hg (N := 2) ?hd (cs := #[.string a0_0, .slice A0_1 l0_1.length c0_1]) (t := 127) ?hr ?_; (case hd => rfl); (case hg => rfl); (case hr => first | (go_simp; done) | (go_simp; rfl)); intro gb346 hg w11 hbox hb; have n0_ := Aside0.mk (below_step HBa hb); have n1_ := Aside0.mk (hbox); have n2_ := BSz w hg HBa; have n3_ := BSz w hg HBa; clear HB; have HB := n0_; have BK346 := n1_; have GW346 := n2_; have GE346 := n3_; clear n0_ n1_ n2_ n3_; clear hb hbox hg) | ((with_reducible refine gate_dst (N := 3) rfl ?_); refine box_event ?hg (N := 3) ?hd (cs := #[.string a1_0, .slice A1_1 l1_1.length c1_1]) (t := 127) ?hr ?_; (case hd => rfl); (case hg => rfl); (case hr => first | (go_simp; done) | (go_simp; rfl)); intro gb347 hg w12 hbox hb; have n0_ := BBz BK346 hb; have n1_ := Aside0.mk (below_step (HBb GE346) hb); have n2_ := Aside0.mk (hbox); have n3_ := BSz w hg (HBb GE346); have n4_ := BSz w hg (HBb GE346); have n5_ := BNz BK346 hg; have n6_ := BMz BK346 hg; clear BK346; clear HB; have BK346 := n0_; have HB := n1_; have BK347 := n2_; have GW347 := n3_; have GE347 := n4_; have NB346_347 := n5_; have NB347_346 := n6_; clear n0_ n1_ n2_ n3_ n4_ n5_ n6_; clear hb hbox hg; have hnb13 := NB346_347.out; have hnc13 := NB347_346.out; have hcz14_0 := C1z BK346; have hcz14_1 := C2z BK346; have hfz14_0 := blk_frozen BK346.out 0; have hfz14_1 := blk_frozen BK346.out 1; have hcz15_0 := C1z BK347; have hcz15_1 := C2z BK347; have hfz15_0 := blk_frozen BK347.out 0; have hfz15_1 := blk_frozen BK347.out 1) | ((with_reducible refine gate_callee (f := 17) rfl ?_); refine goesL_ (some 14) rfl rfl Tryz.func17 (by kernel_rfl) rfl #[.slice A0_1 l0_1.length c0_1, .slice A1_1 l1_1.length c1_1] rfl MPz ?_; (with_reducible refine (laws_eqStringS.calls k _ _ l0_1 _ _ l1_1 false _ ?side1 ?side2 ?side3 ?side4 A4.out).mono ?_); (case side1 => exact KCz (Kd.C_below HR0_1.out HB.out)); (case side2 => exact HC0_1.out); (case side3 => exact KCz (Kd.C_below HR1_1.out HB.out)); (case side4 => exact HC1_1.out); rintro e w' ⟨rfl, ⟨nd, rfl⟩⟩; refine ⟨_, rfl, ?_⟩))
 go_ret
 exact ⟨EZa, HBc GE346 GE347⟩
end Go.Proofs.YtgkjlfimjnhbbaaGreatDoor.PFnExactMayChange
