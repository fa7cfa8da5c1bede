-- Laid by this session's own program out of the translation; Lean checks it.
import Derived.Test.YtgkjlfimjnhbbaaGreatDoorQFnExactMayChangex0
import Derived.Test.YtgkjlfimjnhbbaaGreatDoorQFnExactMayChangex17
import Derived.Test.YtgkjlfimjnhbbaaGreatDoorQFnExactMayChangex18
namespace Go.Proofs.YtgkjlfimjnhbbaaGreatDoor.PFnExactMayChange
open Go.RowKit Go.Proofs.YtgkjlfimjnhbbaaGreatDoorW.PrintWords Go.Proofs.YtgkjlfimjnhbbaaGreatDoorW.PrintLast Go.Proofs.YtgkjlfimjnhbbaaGreatDoorW.PrintMore
attribute [local go_sem] max2_int min2_int max_two min_two max_three min_three max_four min_four   -- for this text's walks alone
set_option linter.unusedVariables false
set_option linter.unusedSimpArgs false
def laws_eqAttrS.l0 : Nat → List (S127) → List (S127) → Int → Option (Bool)
 | 0, _, _, _ => none
 | k + 1, x0, x1, x5 => if x5 < (x0.length : Int) then (if 0 ≤ x5 then (if x5 < (x1.length : Int) then ((laws_eqAttr.f k ((rd_T127 x0 x5).f0) ((rd_T127 x0 x5).f1) ((rd_T127 x1 x5).f0) ((rd_T127 x1 x5).f1)).bind fun t351 => (if t351 = true then (laws_eqAttrS.l0 k x0 x1 (wrap64 (x5 + 1))) else (some false))) else (none)) else (none)) else (some true)
def laws_eqAttrS.f (k : Nat) (l0 : List (S127)) (l1 : List (S127)) : Option (Bool) := if (l0.length : Int) = (l1.length : Int) then (laws_eqAttrS.l0 k l0 l1 0) else (some false)
theorem laws_eqAttrS.mono_l : ∀ k, (∀ y0 y1 y2, LeO (laws_eqAttrS.l0 k y0 y1 y2) (laws_eqAttrS.l0 (k + 1) y0 y1 y2))
 | 0 => fun _ _ _ r h => by simp [laws_eqAttrS.l0] at h
 | k + 1 => by
  have ih0 := laws_eqAttrS.mono_l k
  ·intro y0 y1 y2
   unfold laws_eqAttrS.l0
   repeat' first
   | (with_reducible exact ih0 _ _ _)
   | (with_reducible exact laws_eqAttr.mono _ _ _ _ _)
   | (with_reducible exact LeO.refl _)
   | (with_reducible exact LeO.none _)
   | (with_reducible refine LeO.ite ?_ ?_)
   | (with_reducible refine LeO.bind ?_ (fun _ => ?_))
   | exact ih0 _ _ _
   | exact laws_eqAttr.mono _ _ _ _ _
   | exact LeO.none _
   | refine LeO.ite ?_ ?_
   | refine LeO.bind ?_ (fun _ => ?_)
theorem laws_eqAttrS.mono : ∀ a0 a1 k, LeO (laws_eqAttrS.f k a0 a1) (laws_eqAttrS.f (k + 1) a0 a1) := by
 intro a0 a1 k
 have ih0 := laws_eqAttrS.mono_l k
 unfold laws_eqAttrS.f
 repeat' first
   | (with_reducible exact ih0 _ _ _)
   | (with_reducible exact laws_eqAttr.mono _ _ _ _ _)
   | (with_reducible exact LeO.refl _)
   | (with_reducible exact LeO.none _)
   | (with_reducible refine LeO.ite ?_ ?_)
   | (with_reducible refine LeO.bind ?_ (fun _ => ?_))
   | exact ih0 _ _ _
   | exact laws_eqAttr.mono _ _ _ _ _
   | exact LeO.none _
   | refine LeO.ite ?_ ?_
   | refine LeO.bind ?_ (fun _ => ?_)
def laws_eqAttrS.T6 : Bool × List (List Nat × List Nat) := (true, [([], []), ([], []), ([0, 1], [0, 1]), ([2], [2]), ([], []), ([], []), ([4, 5], [4, 5]), ([6], [6]), ([3, 7], [3, 7]), ([8], [8])])
def laws_eqAttrS.B6 : List Nat := [0, 0, 3, 7, 0, 0, 48, 112, 255, 511]
theorem laws_eqAttrS.tab6 : rtab .any (opsOf Tryz.f60 6) = laws_eqAttrS.T6 := by kernel_rfl
theorem laws_eqAttrS.bits6 : waitsOk laws_eqAttrS.T6.2 laws_eqAttrS.B6 = true := by kernel_rfl
set_option maxHeartbeats 8000000 in
set_option maxRecDepth 100000 in
theorem laws_eqAttrS.calls (k : Nat) (A0 : Option Addr) (c0 : Nat) (l0 : List (S127)) (A1 : Option Addr) (c1 : Nat) (l1 : List (S127)) (r : Bool) (w : World) (hr0 : Kd.C k127 w A0 l0.length l0) (hc0 : l0.length ≤ c0) (hr1 : Kd.C k127 w A1 l1.length l1) (hc1 : l1.length ≤ c1) (h : laws_eqAttrS.f k l0 l1 = some r) :
  Calls Tryz.prog 60 #[.slice A0 l0.length c0, .slice A1 l1.length c1] w fun e w' => e = .returned (.bool r) ∧ Below w.heap.size w w' := by
 have hu127 := Tryz.underlying127
 have HR0 := Aside0.mk hr0
 have HC0 := Aside0.mk hc0
 clear hr0 hc0
 have HR1 := Aside0.mk hr1
 have HC1 := Aside0.mk hc1
 clear hr1 hc1
 have HB := Aside0.mk (Below.refl w.heap.size w)
 have H : (if (l0.length : Int) = (l1.length : Int) then (laws_eqAttrS.l0 k l0 l1 0) else (some false)) = some r := h
 clear h
 by_cases c3 : (l0.length : Int) = (l1.length : Int)
 rotate_left
 ·rw [if_neg c3] at H
  have c3b0 : ((l0.length : Int) == (l1.length : Int)) = false := beq_eq_false_iff_ne.mpr c3
  have c3b1 : ((l0.length : Int) != (l1.length : Int)) = true := bne_iff_ne.mpr c3
  have c3b2 : (l0.length == l1.length) = false := by first | simpa using c3 | (simp at c3 ⊢; omega)
  obtain rfl := Option.some.inj H
  go_enter Tryz.func60, Tryz.ntmps60
  go_wp2
  go_ret
  exact ⟨EZa, HBa⟩
 rw [if_pos c3] at H
 have c3b0 : ((l0.length : Int) == (l1.length : Int)) = true := beq_iff_eq.mpr c3
 have c3b1 : ((l0.length : Int) != (l1.length : Int)) = false := bne_eq_false_iff_eq.mpr c3
 have c3b2 : (l0.length == l1.length) = true := by first | simpa using c3 | (simp at c3 ⊢; omega)
 clear c3
 have H' := Aside0.mk H
 clear H
 go_enter Tryz.func60, Tryz.ntmps60
 go_wp2
 go_loopg [5] k (fun kq v5 w' => ∃ (x5_1 : Int), v5 = .int .i64 x5_1 ∧ Aside0 (laws_eqAttrS.l0 kq l0 l1 x5_1 = some r) ∧ Aside0 (kq ≤ k) ∧ Aside0 (Below w.heap.size w w'))
 case atStart => exact ⟨(0), EZc, H', ⟨Nat.le_refl _⟩, ⟨HBa⟩⟩
 case round =>
  clear H'
  try clear c1
  try clear p2
  try clear c3
  try clear c3b0
  try clear c3b1
  try clear c3b2
  obtain ⟨x5_1, rfl, HA, HK1, HB⟩ := hrel
  cases gk with
  | zero => exact absurd HA.out (by simp [laws_eqAttrS.l0])
  | succ k1 =>
   have H := HA.out
   clear HA
   simp only [laws_eqAttrS.l0] at H
   by_cases c4 : x5_1 < (l0.length : Int)
   rotate_left
   ·rw [if_neg c4] at H
    have c4b0 : decide (x5_1 < (l0.length : Int)) = false := decide_eq_false c4
    clear c4
    obtain rfl := Option.some.inj H
    go_wp2
    go_ret
    exact ⟨EZa, HBa⟩
   rw [if_pos c4] at H
   have c4b0 : decide (x5_1 < (l0.length : Int)) = true := decide_eq_true c4
   clear c4
   by_cases c5 : 0 ≤ x5_1
   rotate_left
   ·rw [if_neg c5] at H
    exact absurd H (by simp)
   rw [if_pos c5] at H
   have c5b0 : decide (0 ≤ x5_1) = true := decide_eq_true c5
   clear c5
   by_cases c6 : x5_1 < (l1.length : Int)
   rotate_left
   ·rw [if_neg c6] at H
    exact absurd H (by simp)
   rw [if_pos c6] at H
   have c6b0 : decide (x5_1 < (l1.length : Int)) = true := decide_eq_true c6
   clear c6
   replace H := Option.bind_eq_some_iff.mp H
   obtain ⟨t351, A70, H⟩ := H
   replace H : (if t351 = true then (laws_eqAttrS.l0 k1 l0 l1 (wrap64 (x5_1 + 1))) else (some false)) = some r := H
   have A7 := Aside0.mk A70
   clear A70
   by_cases c8 : t351 = true
   rotate_left
   ·replace c8 := Bool.eq_false_iff.mpr c8
    subst c8
    have H1 : (some false) = some r := by rw [if_neg (show ¬ (false = true) by decide)] at H; exact H
    clear H
    have H := H1
    clear H1
    obtain rfl := Option.some.inj H
    try go_wp2
    have n0_ := Aside0.mk (below_drew1 HB.out)
    clear HB
    have HB := n0_
    clear n0_
    have p349 : 0 ≤ (x5_1 : Int) := ODz
    have q349 : x5_1 < (l0.length : Int) := ODz
    obtain ⟨ad349, A349_1, c349_1, e349, hx349_0, hx349_1, hl349_1, hi349_1⟩ := at_T127 HR0.out x5_1 p349 q349
    have hw349_1 := hx349_1
    have hw349_0 := hx349_0
    cases e349
    replace hx349_0 := HXz HB hx349_0
    replace hx349_1 := HXz HB hx349_1
    have HR349_1 := Aside0.mk hi349_1
    have HC349_1 := Aside0.mk hl349_1
    clear hi349_1 hl349_1
    replace p349 := eq_true p349
    replace q349 := eq_true q349
    have p350 : 0 ≤ (x5_1 : Int) := ODz
    have q350 : x5_1 < (l1.length : Int) := ODz
    obtain ⟨ad350, A350_1, c350_1, e350, hx350_0, hx350_1, hl350_1, hi350_1⟩ := at_T127 HR1.out x5_1 p350 q350
    have hw350_1 := hx350_1
    have hw350_0 := hx350_0
    cases e350
    replace hx350_0 := HXz HB hx350_0
    replace hx350_1 := HXz HB hx350_1
    have HR350_1 := Aside0.mk hi350_1
    have HC350_1 := Aside0.mk hl350_1
    clear hi350_1 hl350_1
    replace p350 := eq_true p350
    replace q350 := eq_true q350
    refine start_ (n := 10) (S := fun w' => w'.cell? (ad349.add ((x5_1).toNat * 2)) = some (.string ((rd_T127 l0 x5_1).f0)) ∧ w'.cell? ⟨(ad349.add ((x5_1).toNat * 2)).block, (ad349.add ((x5_1).toNat * 2)).off + 1, none⟩ = some (.slice A349_1 ((rd_T127 l0 x5_1).f1).length c349_1) ∧ w'.cell? (ad350.add ((x5_1).toNat * 2)) = some (.string ((rd_T127 l1 x5_1).f0)) ∧ w'.cell? ⟨(ad350.add ((x5_1).toNat * 2)).block, (ad350.add ((x5_1).toNat * 2)).off + 1, none⟩ = some (.slice A350_1 ((rd_T127 l1 x5_1).f1).length c350_1)) (ds := []) (bz 10 0) (by kernel_rfl) rfl (by kernel_rfl) ⟨(HXz HB hw349_0 :), (HXz HB hw349_1 :), (HXz HB hw350_0 :), (HXz HB hw350_1 :)⟩ (fun hHeld => ?_); refine with_tabW laws_eqAttrS.tab6 laws_eqAttrS.bits6 (fun HT_ HW_ => ?_)
    generalize wr.drew = w11 at HB HR349_1 HR350_1 hx349_0 hx349_1 hx350_0 hx350_1 hHeld ⊢
    refine PYz 0 17 (bz 10 1) rfl rfl (any_of HT_.out (by kernel_rfl)) ?_
    refine PYz 1 18 (bz 10 3) rfl rfl (any_of HT_.out (by kernel_rfl)) ?_
    refine PYz 2 19 (bz 10 7) rfl rfl (any_of HT_.out (by kernel_rfl)) ?_
    refine PYz 4 21 (bz 10 23) rfl rfl (any_of HT_.out (by kernel_rfl)) ?_
    refine PYz 5 22 (bz 10 55) rfl rfl (any_of HT_.out (by kernel_rfl)) ?_
    refine PYz 6 23 (bz 10 119) rfl rfl (any_of HT_.out (by kernel_rfl)) ?_
    refine take_ (i := 3) (N := some 20) (v := ?_) (a' := ?_) (bz 10 127) rfl rfl (take_ofW HT_.out HW_.out (by kernel_rfl)) (fun _ _ _ h => h) (Or.inl ⟨by rfl, ?_⟩) hHeld ?_ ?_
    rotate_left
    ·rintro w' ⟨s0, s1, s2, s3⟩
     go_simp
     with_reducible rfl
    rotate_left
    ·simp only [PUz]
     rfl
    refine take_ (i := 7) (N := some 24) (v := ?_) (a' := ?_) (bz 10 255) rfl rfl (take_ofW HT_.out HW_.out (by kernel_rfl)) (fun _ _ _ h => h) (Or.inl ⟨by rfl, ?_⟩) hHeld ?_ ?_
    rotate_left
    ·rintro w' ⟨s0, s1, s2, s3⟩
     go_simp
     with_reducible rfl
    rotate_left
    ·simp only [PUz]
     rfl
    refine one_ (i := 8) (N := some 25) (bz 10 511) rfl rfl (one_of HT_.out (by kernel_rfl)) (by decide) (fun K hK => ?_)
    refine goes_ Tryz.func104 (by kernel_rfl) rfl #[.agg #[.string ((rd_T127 l0 x5_1).f0), .slice A349_1 ((rd_T127 l0 x5_1).f1).length c349_1], .agg #[.string ((rd_T127 l1 x5_1).f0), .slice A350_1 ((rd_T127 l1 x5_1).f1).length c350_1]] (by rfl) rfl rfl MPz ?_
    with_reducible refine (laws_eqAttr.calls k1 ((rd_T127 l0 x5_1).f0) _ _ ((rd_T127 l0 x5_1).f1) ((rd_T127 l1 x5_1).f0) _ _ ((rd_T127 l1 x5_1).f1) false _ ?side1 ?side2 ?side3 ?side4 A7.out).mono ?_
    (case side1 => exact KCz (Kd.C_below HR349_1.out HB.out))
    (case side2 => exact HC349_1.out)
    (case side3 => exact KCz (Kd.C_below HR350_1.out HB.out))
    (case side4 => exact HC350_1.out)
    rintro e w12 ⟨rfl, hb⟩
    refine ⟨_, rfl, ?_⟩
    have n0_ := Aside0.mk (below_step HBa hb)
    clear HB
    have HB := n0_
    clear n0_
    (try clear hb)
    (try clear hb2)
    (try clear hk)
    (try clear hi)
    refine hK.out _ _ ⟨(HXz HB hw349_0 :), (HXz HB hw349_1 :), (HXz HB hw350_0 :), (HXz HB hw350_1 :)⟩ (fun hHeld => ?_)
    clear hK K
    refine norm_ (a' := ?_) ?_ ?_
    rotate_left
    ·show Act.put _ (some 25) _ = _
     simp only [PUz]
     rfl
    refine PYz 9 26 (bz 10 1023) rfl rfl (any_of HT_.out (by kernel_rfl)) ?_
    refine done_ (done_of HT_.out (by kernel_rfl)) ?_
    try go_wp2
    go_ret
    exact ⟨EZa, HBa⟩
   subst c8
   have H1 : (laws_eqAttrS.l0 k1 l0 l1 (wrap64 (x5_1 + 1))) = some r := by rw [if_pos rfl] at H; exact H
   clear H
   have H := H1
   clear H1
   have H' := Aside0.mk H
   clear H
   try go_wp2
   have n0_ := Aside0.mk (below_drew1 HB.out)
   clear HB
   have HB := n0_
   clear n0_
   have p349 : 0 ≤ (x5_1 : Int) := ODz
   have q349 : x5_1 < (l0.length : Int) := ODz
   obtain ⟨ad349, A349_1, c349_1, e349, hx349_0, hx349_1, hl349_1, hi349_1⟩ := at_T127 HR0.out x5_1 p349 q349
   have hw349_1 := hx349_1
   have hw349_0 := hx349_0
   cases e349
   replace hx349_0 := HXz HB hx349_0
   replace hx349_1 := HXz HB hx349_1
   have HR349_1 := Aside0.mk hi349_1
   have HC349_1 := Aside0.mk hl349_1
   clear hi349_1 hl349_1
   replace p349 := eq_true p349
   replace q349 := eq_true q349
   have p350 : 0 ≤ (x5_1 : Int) := ODz
   have q350 : x5_1 < (l1.length : Int) := ODz
   obtain ⟨ad350, A350_1, c350_1, e350, hx350_0, hx350_1, hl350_1, hi350_1⟩ := at_T127 HR1.out x5_1 p350 q350
   have hw350_1 := hx350_1
   have hw350_0 := hx350_0
   cases e350
   replace hx350_0 := HXz HB hx350_0
   replace hx350_1 := HXz HB hx350_1
   have HR350_1 := Aside0.mk hi350_1
   have HC350_1 := Aside0.mk hl350_1
   clear hi350_1 hl350_1
   replace p350 := eq_true p350
   replace q350 := eq_true q350
   refine start_ (n := 10) (S := fun w' => w'.cell? (ad349.add ((x5_1).toNat * 2)) = some (.string ((rd_T127 l0 x5_1).f0)) ∧ w'.cell? ⟨(ad349.add ((x5_1).toNat * 2)).block, (ad349.add ((x5_1).toNat * 2)).off + 1, none⟩ = some (.slice A349_1 ((rd_T127 l0 x5_1).f1).length c349_1) ∧ w'.cell? (ad350.add ((x5_1).toNat * 2)) = some (.string ((rd_T127 l1 x5_1).f0)) ∧ w'.cell? ⟨(ad350.add ((x5_1).toNat * 2)).block, (ad350.add ((x5_1).toNat * 2)).off + 1, none⟩ = some (.slice A350_1 ((rd_T127 l1 x5_1).f1).length c350_1)) (ds := []) (bz 10 0) (by kernel_rfl) rfl (by kernel_rfl) ⟨(HXz HB hw349_0 :), (HXz HB hw349_1 :), (HXz HB hw350_0 :), (HXz HB hw350_1 :)⟩ (fun hHeld => ?_); refine with_tabW laws_eqAttrS.tab6 laws_eqAttrS.bits6 (fun HT_ HW_ => ?_)
   generalize wr.drew = w9 at HB HR349_1 HR350_1 hx349_0 hx349_1 hx350_0 hx350_1 hHeld ⊢
   refine PYz 0 17 (bz 10 1) rfl rfl (any_of HT_.out (by kernel_rfl)) ?_
   refine PYz 1 18 (bz 10 3) rfl rfl (any_of HT_.out (by kernel_rfl)) ?_
   refine PYz 2 19 (bz 10 7) rfl rfl (any_of HT_.out (by kernel_rfl)) ?_
   refine PYz 4 21 (bz 10 23) rfl rfl (any_of HT_.out (by kernel_rfl)) ?_
   refine PYz 5 22 (bz 10 55) rfl rfl (any_of HT_.out (by kernel_rfl)) ?_
   refine PYz 6 23 (bz 10 119) rfl rfl (any_of HT_.out (by kernel_rfl)) ?_
   refine take_ (i := 3) (N := some 20) (v := ?_) (a' := ?_) (bz 10 127) rfl rfl (take_ofW HT_.out HW_.out (by kernel_rfl)) (fun _ _ _ h => h) (Or.inl ⟨by rfl, ?_⟩) hHeld ?_ ?_
   rotate_left
   ·rintro w' ⟨s0, s1, s2, s3⟩
    go_simp
    with_reducible rfl
   rotate_left
   ·simp only [PUz]
    rfl
   refine take_ (i := 7) (N := some 24) (v := ?_) (a' := ?_) (bz 10 255) rfl rfl (take_ofW HT_.out HW_.out (by kernel_rfl)) (fun _ _ _ h => h) (Or.inl ⟨by rfl, ?_⟩) hHeld ?_ ?_
   rotate_left
   ·rintro w' ⟨s0, s1, s2, s3⟩
    go_simp
    with_reducible rfl
   rotate_left
   ·simp only [PUz]
    rfl
   refine one_ (i := 8) (N := some 25) (bz 10 511) rfl rfl (one_of HT_.out (by kernel_rfl)) (by decide) (fun K hK => ?_)
   refine goes_ Tryz.func104 (by kernel_rfl) rfl #[.agg #[.string ((rd_T127 l0 x5_1).f0), .slice A349_1 ((rd_T127 l0 x5_1).f1).length c349_1], .agg #[.string ((rd_T127 l1 x5_1).f0), .slice A350_1 ((rd_T127 l1 x5_1).f1).length c350_1]] (by rfl) rfl rfl MPz ?_
   with_reducible refine (laws_eqAttr.calls k1 ((rd_T127 l0 x5_1).f0) _ _ ((rd_T127 l0 x5_1).f1) ((rd_T127 l1 x5_1).f0) _ _ ((rd_T127 l1 x5_1).f1) true _ ?side1 ?side2 ?side3 ?side4 A7.out).mono ?_
   (case side1 => exact KCz (Kd.C_below HR349_1.out HB.out))
   (case side2 => exact HC349_1.out)
   (case side3 => exact KCz (Kd.C_below HR350_1.out HB.out))
   (case side4 => exact HC350_1.out)
   rintro e w10 ⟨rfl, hb⟩
   refine ⟨_, rfl, ?_⟩
   have n0_ := Aside0.mk (below_step HBa hb)
   clear HB
   have HB := n0_
   clear n0_
   (try clear hb)
   (try clear hb2)
   (try clear hk)
   (try clear hi)
   refine hK.out _ _ ⟨(HXz HB hw349_0 :), (HXz HB hw349_1 :), (HXz HB hw350_0 :), (HXz HB hw350_1 :)⟩ (fun hHeld => ?_)
   clear hK K
   refine norm_ (a' := ?_) ?_ ?_
   rotate_left
   ·show Act.put _ (some 25) _ = _
    simp only [PUz]
    rfl
   refine PYz 9 26 (bz 10 1023) rfl rfl (any_of HT_.out (by kernel_rfl)) ?_
   refine done_ (done_of HT_.out (by kernel_rfl)) ?_
   try go_wp2
   go_roundg k1
   case measure => have := HK1.out; omega
   case rel => exact ⟨(wrap64 (x5_1 + 1)), EZc, H', ⟨by have := HK1.out; omega⟩, ⟨HBa⟩⟩
def laws_eqEntry.f (k : Nat) (l0_0 : List (S98)) (l0_1 : List (S127)) (l1_0 : List (S98)) (l1_1 : List (S127)) : Option (Bool) := (laws_eqRdnS.f k l0_0 l1_0).bind fun t354 => (if t354 = true then ((laws_eqAttrS.f k l0_1 l1_1).bind fun t355 => (if t355 = true then (some true) else (some false))) else (some false))
theorem laws_eqEntry.mono : ∀ a0 a1 a2 a3 k, LeO (laws_eqEntry.f k a0 a1 a2 a3) (laws_eqEntry.f (k + 1) a0 a1 a2 a3) := by
 intro a0 a1 a2 a3 k
 unfold laws_eqEntry.f
 repeat' first
   | (with_reducible exact laws_eqAttrS.mono _ _ _)
   | (with_reducible exact laws_eqRdnS.mono _ _ _)
   | (with_reducible exact LeO.refl _)
   | (with_reducible exact LeO.none _)
   | (with_reducible refine LeO.ite ?_ ?_)
   | (with_reducible refine LeO.bind ?_ (fun _ => ?_))
   | exact laws_eqAttrS.mono _ _ _
   | exact laws_eqRdnS.mono _ _ _
   | exact LeO.none _
   | refine LeO.ite ?_ ?_
   | refine LeO.bind ?_ (fun _ => ?_)
set_option maxHeartbeats 8000000 in
set_option maxRecDepth 100000 in
theorem laws_eqEntry.calls (k : Nat) (A0_0 : Option Addr) (c0_0 : Nat) (l0_0 : List (S98)) (A0_1 : Option Addr) (c0_1 : Nat) (l0_1 : List (S127)) (A1_0 : Option Addr) (c1_0 : Nat) (l1_0 : List (S98)) (A1_1 : Option Addr) (c1_1 : Nat) (l1_1 : List (S127)) (r : Bool) (w : World) (hr0_0 : Kd.C k98 w A0_0 l0_0.length l0_0) (hc0_0 : l0_0.length ≤ c0_0) (hr0_1 : Kd.C k127 w A0_1 l0_1.length l0_1) (hc0_1 : l0_1.length ≤ c0_1) (hr1_0 : Kd.C k98 w A1_0 l1_0.length l1_0) (hc1_0 : l1_0.length ≤ c1_0) (hr1_1 : Kd.C k127 w A1_1 l1_1.length l1_1) (hc1_1 : l1_1.length ≤ c1_1) (h : laws_eqEntry.f k l0_0 l0_1 l1_0 l1_1 = some r) :
  Calls Tryz.prog 16 #[.agg #[.slice A0_0 l0_0.length c0_0, .slice A0_1 l0_1.length c0_1], .agg #[.slice A1_0 l1_0.length c1_0, .slice A1_1 l1_1.length c1_1]] w fun e w' => e = .returned (.bool r) ∧ Below w.heap.size w w' := by
 have hu37 := Tryz.underlying37
 have HR0_0 := Aside0.mk hr0_0
 have HC0_0 := Aside0.mk hc0_0
 clear hr0_0 hc0_0
 have HR0_1 := Aside0.mk hr0_1
 have HC0_1 := Aside0.mk hc0_1
 clear hr0_1 hc0_1
 have HR1_0 := Aside0.mk hr1_0
 have HC1_0 := Aside0.mk hc1_0
 clear hr1_0 hc1_0
 have HR1_1 := Aside0.mk hr1_1
 have HC1_1 := Aside0.mk hc1_1
 clear hr1_1 hc1_1
 have HB := Aside0.mk (Below.refl w.heap.size w)
 have H : ((laws_eqRdnS.f k l0_0 l1_0).bind fun t354 => (if t354 = true then ((laws_eqAttrS.f k l0_1 l1_1).bind fun t355 => (if t355 = true then (some true) else (some false))) else (some false))) = some r := h
 clear h
 replace H := Option.bind_eq_some_iff.mp H
 obtain ⟨t354, A30, H⟩ := H
 replace H : (if t354 = true then ((laws_eqAttrS.f k l0_1 l1_1).bind fun t355 => (if t355 = true then (some true) else (some false))) else (some false)) = some r := H
 have A3 := Aside0.mk A30
 clear A30
 by_cases c4 : t354 = true
 rotate_left
 ·replace c4 := Bool.eq_false_iff.mpr c4
  subst c4
  have H1 : (some false) = some r := by rw [if_neg (show ¬ (false = true) by decide)] at H; exact H
  clear H
  have H := H1
  clear H1
  obtain rfl := Option.some.inj H
  go_enter Tryz.func16, Tryz.ntmps16
  go_wp2_with (first | ((with_reducible refine gate_dst (N := 2) rfl ?_); refine box_event ?hg (N := 2) ?hd (cs := #[.slice A0_0 l0_0.length c0_0, .slice A0_1 l0_1.length c0_1]) (t := 37) ?hr ?_; (case hd => rfl); (case hg => rfl); (case hr => first | (go_simp; done) | (go_simp; rfl)); intro gb352 hg w25 hbox hb; have n0_ := Aside0.mk (below_step HBa hb); have n1_ := Aside0.mk (hbox); have n2_ := BSz w hg HBa; have n3_ := BSz w hg HBa; clear HB; have HB := n0_; have BK352 := n1_; have GW352 := n2_; have GE352 := n3_; clear n0_ n1_ n2_ n3_; clear hb hbox hg) | ((with_reducible refine gate_dst (N := 3) rfl ?_); refine box_event ?hg (N := 3) ?hd (cs := #[.slice A1_0 l1_0.length c1_0, .slice A1_1 l1_1.length c1_1]) (t := 37) ?hr ?_; (case hd => rfl); (case hg => rfl); (case hr => first | (go_simp; done) | (go_simp; rfl)); intro gb353 hg w26 hbox hb; have n0_ := BBz BK352 hb; have n1_ := Aside0.mk (below_step (HBb GE352) hb); have n2_ := Aside0.mk (hbox); have n3_ := BSz w hg (HBb GE352); have n4_ := BSz w hg (HBb GE352); have n5_ := BNz BK352 hg; have n6_ := BMz BK352 hg; clear BK352; clear HB; have BK352 := n0_; have HB := n1_; have BK353 := n2_; have GW353 := n3_; have GE353 := n4_; have NB352_353 := n5_; have NB353_352 := n6_; clear n0_ n1_ n2_ n3_ n4_ n5_ n6_; clear hb hbox hg; have hnb27 := NB352_353.out; have hnc27 := NB353_352.out; have hcz28_0 := C1z BK352; have hcz28_1 := C2z BK352; have hfz28_0 := blk_frozen BK352.out 0; have hfz28_1 := blk_frozen BK352.out 1; have hcz29_0 := C1z BK353; have hcz29_1 := C2z BK353; have hfz29_0 := blk_frozen BK353.out 0; have hfz29_1 := blk_frozen BK353.out 1) | ((with_reducible refine gate_callee (f := 59) rfl ?_); refine goesL_ (some 9) rfl rfl Tryz.func59 (by kernel_rfl) rfl #[.slice A0_0 l0_0.length c0_0, .slice A1_0 l1_0.length c1_0] rfl MPz ?_; (with_reducible refine (laws_eqRdnS.calls k _ _ l0_0 _ _ l1_0 false _ ?side1 ?side2 ?side3 ?side4 A3.out).mono ?_); (case side1 => exact KCz (Kd.C_below HR0_0.out HB.out)); (case side2 => exact HC0_0.out); (case side3 => exact KCz (Kd.C_below HR1_0.out HB.out)); (case side4 => exact HC1_0.out); rintro e w30 ⟨rfl, hb⟩; refine ⟨_, rfl, ?_⟩; have n0_ := BBz BK352 hb; have n1_ := BBz BK353 hb; have n2_ := Aside0.mk (below_step (HBc GE352 GE353) hb); clear BK352; clear BK353; clear HB; have BK352 := n0_; have BK353 := n1_; have HB := n2_; clear n0_ n1_ n2_; (try clear hb); (try clear hb2); (try clear hk); (try clear hi)))
  go_ret
  exact ⟨EZa, HBc GE352 GE353⟩
 subst c4
 have H1 : ((laws_eqAttrS.f k l0_1 l1_1).bind fun t355 => (if t355 = true then (some true) else (some false))) = some r := by rw [if_pos rfl] at H; exact H
 clear H
 have H := H1
 clear H1
 replace H := Option.bind_eq_some_iff.mp H
 obtain ⟨t355, A50, H⟩ := H
 replace H : (if t355 = true then (some true) else (some false)) = some r := H
 have A5 := Aside0.mk A50
 clear A50
 by_cases c6 : t355 = true
 ·subst c6
  have H1 : (some true) = some r := by rw [if_pos rfl] at H; exact H
  clear H
  have H := H1
  clear H1
  obtain rfl := Option.some.inj H
  go_enter Tryz.func16, Tryz.ntmps16
  go_wp2_with (first | ((with_reducible refine gate_dst (N := 2) rfl ?_); refine box_event ?hg (N := 2) ?hd (cs := #[.slice A0_0 l0_0.length c0_0, .slice A0_1 l0_1.length c0_1]) (t := 37) ?hr ?_; (case hd => rfl); (case hg => rfl); (case hr => first | (go_simp; done) | (go_simp; rfl)); intro gb352 hg w7 hbox hb; have n0_ := Aside0.mk (below_step HBa hb); have n1_ := Aside0.mk (hbox); have n2_ := BSz w hg HBa; have n3_ := BSz w hg HBa; clear HB; have HB := n0_; have BK352 := n1_; have GW352 := n2_; have GE352 := n3_; clear n0_ n1_ n2_ n3_; clear hb hbox hg) | ((with_reducible refine gate_dst (N := 3) rfl ?_); refine box_event ?hg (N := 3) ?hd (cs := #[.slice A1_0 l1_0.length c1_0, .slice A1_1 l1_1.length c1_1]) (t := 37) ?hr ?_; (case hd => rfl); (case hg => rfl); (case hr => first | (go_simp; done) | (go_simp; rfl)); intro gb353 hg w8 hbox hb; have n0_ := BBz BK352 hb; have n1_ := Aside0.mk (below_step (HBb GE352) hb); have n2_ := Aside0.mk (hbox); have n3_ := BSz w hg (HBb GE352); have n4_ := BSz w hg (HBb GE352); have n5_ := BNz BK352 hg; have n6_ := BMz BK352 hg; clear BK352; clear HB; have BK352 := n0_; have HB := n1_; have BK353 := n2_; have GW353 := n3_; have GE353 := n4_; have NB352_353 := n5_; have NB353_352 := n6_; clear n0_ n1_ n2_ n3_ n4_ n5_ n6_; clear hb hbox hg; have hnb9 := NB352_353.out; have hnc9 := NB353_352.out; have hcz10_0 := C1z BK352; have hcz10_1 := C2z BK352; have hfz10_0 := blk_frozen BK352.out 0; have hfz10_1 := blk_frozen BK352.out 1; have hcz11_0 := C1z BK353; have hcz11_1 := C2z BK353; have hfz11_0 := blk_frozen BK353.out 0; have hfz11_1 := blk_frozen BK353.out 1) | ((with_reducible refine gate_callee (f := 59) rfl ?_); refine goesL_ (some 9) rfl rfl Tryz.func59 (by kernel_rfl) rfl #[.slice A0_0 l0_0.length c0_0, .slice A1_0 l1_0.length c1_0] rfl MPz ?_; (with_reducible refine (laws_eqRdnS.calls k _ _ l0_0 _ _ l1_0 true _ ?side1 ?side2 ?side3 ?side4 A3.out).mono ?_); (case side1 => exact KCz (Kd.C_below HR0_0.out HB.out)); (case side2 => exact HC0_0.out); (case side3 => exact KCz (Kd.C_below HR1_0.out HB.out)); (case side4 => exact HC1_0.out); rintro e w12 ⟨rfl, hb⟩; refine ⟨_, rfl, ?_⟩; have n0_ := BBz BK352 hb; have n1_ := BBz BK353 hb; have n2_ := Aside0.mk (below_step (HBc GE352 GE353) hb); clear BK352; clear BK353; clear HB; have BK352 := n0_; have BK353 := n1_; have HB := n2_; clear n0_ n1_ n2_; (try clear hb); (try clear hb2); (try clear hk); (try clear hi); have hcz13_0 := C1z BK352; have hcz13_1 := C2z BK352; have hfz13_0 := blk_frozen BK352.out 0; have hfz13_1 := blk_frozen BK352.out 1; have hcz14_0 := C1z BK353; have hcz14_1 := C2z BK353; have hfz14_0 := blk_frozen BK353.out 0; have hfz14_1 := blk_frozen BK353.out 1) | ((with_reducible refine gate_callee (f := 60) rfl ?_); refine goesL_ (some 15) rfl rfl Tryz.func60 (by kernel_rfl) rfl #[.slice A0_1 l0_1.length c0_1, .slice A1_1 l1_1.length c1_1] rfl MPz ?_; (with_reducible refine (laws_eqAttrS.calls k _ _ l0_1 _ _ l1_1 true _ ?side1 ?side2 ?side3 ?side4 A5.out).mono ?_); (case side1 => exact KCz (Kd.C_below HR0_1.out HB.out)); (case side2 => exact HC0_1.out); (case side3 => exact KCz (Kd.C_below HR1_1.out HB.out)); (case side4 => exact HC1_1.out); rintro e w15 ⟨rfl, hb⟩; refine ⟨_, rfl, ?_⟩; have n0_ := BBz BK352 hb; have n1_ := BBz BK353 hb; have n2_ := Aside0.mk (below_step (HBc GE352 GE353) hb); clear BK352; clear BK353; clear HB; have BK352 := n0_; have BK353 := n1_; have HB := n2_; clear n0_ n1_ n2_; (try clear hb); (try clear hb2); (try clear hk); (try clear hi)))
  go_ret
  exact ⟨EZa, HBc GE352 GE353⟩
 replace c6 := Bool.eq_false_iff.mpr c6
 subst c6
 have H1 : (some false) = some r := by rw [if_neg (show ¬ (false = true) by decide)] at H; exact H
 clear H
 have H := H1
 clear H1
 obtain rfl := Option.some.inj H
 go_enter Tryz.func16, Tryz.ntmps16
 go_wp2_with (first | ((with_reducible refine gate_dst (N := 2) rfl ?_); refine box_event ?hg (N := 2) ?hd (cs := #[.slice A0_0 l0_0.length c0_0, .slice A0_1 l0_1.length c0_1]) (t := 37) ?hr ?_; (case hd => rfl); (case hg => rfl); (case hr => first | (go_simp; done) | (go_simp; rfl)); intro gb352 hg w16 hbox hb; have n0_ := Aside0.mk (below_step HBa hb); have n1_ := Aside0.mk (hbox); have n2_ := BSz w hg HBa; have n3_ := BSz w hg HBa; clear HB; have HB := n0_; have BK352 := n1_; have GW352 := n2_; have GE352 := n3_; clear n0_ n1_ n2_ n3_; clear hb hbox hg) | ((with_reducible refine gate_dst (N := 3) rfl ?_); refine box_event ?hg (N := 3) ?hd (cs := #[.slice A1_0 l1_0.length c1_0, .slice A1_1 l1_1.length c1_1]) (t := 37) ?hr ?_; (case hd => rfl); (case hg => rfl); (case hr => first | (go_simp; done) | (go_simp; rfl)); intro gb353 hg w17 hbox hb; have n0_ := BBz BK352 hb; have n1_ := Aside0.mk (below_step (HBb GE352) hb); have n2_ := Aside0.mk (hbox); have n3_ := BSz w hg (HBb GE352); have n4_ := BSz w hg (HBb GE352); have n5_ := BNz BK352 hg; have n6_ := BMz BK352 hg; clear BK352; clear HB; have BK352 := n0_; have HB := n1_; have BK353 := n2_; have GW353 := n3_; have GE353 := n4_; have NB352_353 := n5_; have NB353_352 := n6_; clear n0_ n1_ n2_ n3_ n4_ n5_ n6_; clear hb hbox hg; have hnb18 := NB352_353.out; have hnc18 := NB353_352.out; have hcz19_0 := C1z BK352; have hcz19_1 := C2z BK352; have hfz19_0 := blk_frozen BK352.out 0; have hfz19_1 := blk_frozen BK352.out 1; have hcz20_0 := C1z BK353; have hcz20_1 := C2z BK353; have hfz20_0 := blk_frozen BK353.out 0; have hfz20_1 := blk_frozen BK353.out 1) | ((with_reducible refine gate_callee (f := 59) rfl ?_); refine goesL_ (some 9) rfl rfl Tryz.func59 (by kernel_rfl) rfl #[.slice A0_0 l0_0.length c0_0, .slice A1_0 l1_0.length c1_0] rfl MPz ?_; (with_reducible refine (laws_eqRdnS.calls k _ _ l0_0 _ _ l1_0 true _ ?side1 ?side2 ?side3 ?side4 A3.out).mono ?_); (case side1 => exact KCz (Kd.C_below HR0_0.out HB.out)); (case side2 => exact HC0_0.out); (case side3 => exact KCz (Kd.C_below HR1_0.out HB.out)); (case side4 => exact HC1_0.out); rintro e w21 ⟨rfl, hb⟩; refine ⟨_, rfl, ?_⟩; have n0_ := BBz BK352 hb; have n1_ := BBz BK353 hb; have n2_ := Aside0.mk (below_step (HBc GE352 GE353) hb); clear BK352; clear BK353; clear HB; have BK352 := n0_; have BK353 := n1_; have HB := n2_; clear n0_ n1_ n2_; (try clear hb); (try clear hb2); (try clear hk); (try clear hi); have hcz22_0 := C1z BK352; have hcz22_1 := C2z BK352; have hfz22_0 := blk_frozen BK352.out 0; have hfz22_1 := blk_frozen BK352.out 1; have hcz23_0 := C1z BK353; have hcz23_1 := C2z BK353; have hfz23_0 := blk_frozen BK353.out 0; have hfz23_1 := blk_frozen BK353.out 1) | ((with_reducible refine gate_callee (f := 60) rfl ?_); refine goesL_ (some 15) rfl rfl Tryz.func60 (by kernel_rfl) rfl #[.slice A0_1 l0_1.length c0_1, .slice A1_1 l1_1.length c1_1] rfl MPz ?_; (with_reducible refine (laws_eqAttrS.calls k _ _ l0_1 _ _ l1_1 false _ ?side1 ?side2 ?side3 ?side4 A5.out).mono ?_); (case side1 => exact KCz (Kd.C_below HR0_1.out HB.out)); (case side2 => exact HC0_1.out); (case side3 => exact KCz (Kd.C_below HR1_1.out HB.out)); (case side4 => exact HC1_1.out); rintro e w24 ⟨rfl, hb⟩; refine ⟨_, rfl, ?_⟩; have n0_ := BBz BK352 hb; have n1_ := BBz BK353 hb; have n2_ := Aside0.mk (below_step (HBc GE352 GE353) hb); clear BK352; clear BK353; clear HB; have BK352 := n0_; have BK353 := n1_; have HB := n2_; clear n0_ n1_ n2_; (try clear hb); (try clear hb2); (try clear hk); (try clear hi)))
 go_ret
 exact ⟨EZa, HBc GE352 GE353⟩
end Go.Proofs.YtgkjlfimjnhbbaaGreatDoor.PFnExactMayChange
