-- Laid by this session's own program out of the translation; Lean checks it.
import Derived.Test.YtgkjlfimjnhbbaaDoorQFnExactChangesRightx0
import Derived.Test.YtgkjlfimjnhbbaaDoorQFnExactChangesRightx3
import Derived.Test.YtgkjlfimjnhbbaaDoorQFnExactChangesRightx7
namespace Go.Proofs.YtgkjlfimjnhbbaaDoor.PFnExactChangesRight
open Go.RowKit Go.Proofs.YtgkjlfimjnhbbaaDoorW.PrintWords Go.Proofs.YtgkjlfimjnhbbaaDoorW.PrintLast Go.Proofs.YtgkjlfimjnhbbaaDoorW.PrintMore
attribute [local go_sem] max2_int min2_int max_two min_two max_three min_three max_four min_four   -- for this text's walks alone
set_option linter.unusedVariables false
set_option linter.unusedSimpArgs false
def spec_l03Attrs.l0 : Nat → List (S111) → Int → Option (Bool)
 | 0, _, _ => none
 | k + 1, x0, x3 => if x3 < (x0.length : Int) then (if 0 ≤ x3 then ((spec_NameRight.f k ((rd_T111 x0 x3).f0)).bind fun t224 => (if t224 = true then (if x3 > 0 then (if 0 ≤ (wrap64 (x3 - 1)) then (if (wrap64 (x3 - 1)) < (x0.length : Int) then (if ((Op.bytesLess (((rd_T111 x0 (wrap64 (x3 - 1))).f0).toList) (((rd_T111 x0 x3).f0).toList)) = true) then ((spec_l03Values.f k ((rd_T111 x0 x3).f1)).bind fun t228 => (if t228 = true then (spec_l03Attrs.l0 k x0 (wrap64 (x3 + 1))) else (some false))) else (some false)) else (none)) else (none)) else ((spec_l03Values.f k ((rd_T111 x0 x3).f1)).bind fun t230 => (if t230 = true then (spec_l03Attrs.l0 k x0 (wrap64 (x3 + 1))) else (some false)))) else (some false))) else (none)) else (some (decide ((x0.length : Int) ≤ 8)))
def spec_l03Attrs.f (k : Nat) (l0 : List (S111)) : Option (Bool) := spec_l03Attrs.l0 k l0 0
theorem spec_l03Attrs.mono_l : ∀ k, (∀ y0 y1, LeO (spec_l03Attrs.l0 k y0 y1) (spec_l03Attrs.l0 (k + 1) y0 y1))
 | 0 => fun _ _ r h => by simp [spec_l03Attrs.l0] at h
 | k + 1 => by
  have ih0 := spec_l03Attrs.mono_l k
  ·intro y0 y1
   unfold spec_l03Attrs.l0
   repeat' first
   | (with_reducible exact ih0 _ _)
   | (with_reducible exact spec_NameRight.mono _ _)
   | (with_reducible exact spec_l03Values.mono _ _)
   | (with_reducible exact LeO.refl _)
   | (with_reducible exact LeO.none _)
   | (with_reducible refine LeO.ite ?_ ?_)
   | (with_reducible refine LeO.bind ?_ (fun _ => ?_))
   | exact ih0 _ _
   | exact spec_NameRight.mono _ _
   | exact spec_l03Values.mono _ _
   | exact LeO.none _
   | refine LeO.ite ?_ ?_
   | refine LeO.bind ?_ (fun _ => ?_)
theorem spec_l03Attrs.mono : ∀ a0 k, LeO (spec_l03Attrs.f k a0) (spec_l03Attrs.f (k + 1) a0) := by
 intro a0 k
 have ih0 := spec_l03Attrs.mono_l k
 unfold spec_l03Attrs.f
 repeat' first
   | (with_reducible exact ih0 _ _)
   | (with_reducible exact spec_NameRight.mono _ _)
   | (with_reducible exact spec_l03Values.mono _ _)
   | (with_reducible exact LeO.refl _)
   | (with_reducible exact LeO.none _)
   | (with_reducible refine LeO.ite ?_ ?_)
   | (with_reducible refine LeO.bind ?_ (fun _ => ?_))
   | exact ih0 _ _
   | exact spec_NameRight.mono _ _
   | exact spec_l03Values.mono _ _
   | exact LeO.none _
   | refine LeO.ite ?_ ?_
   | refine LeO.bind ?_ (fun _ => ?_)
def spec_l03Attrs.T4 : Bool × List (List Nat × List Nat) := (true, [([], []), ([], []), ([0, 1], [0, 1]), ([2], [2]), ([3], [3]), ([4], [4]), ([5], [5]), ([6, 5], [6]), ([7], [7]), ([8, 7], [7, 8]), ([9, 7, 7], [7, 9]), ([10], [10]), ([10], [10]), ([12, 10], [10, 12]), ([11, 13, 10], [10, 11, 13]), ([14, 10], [10, 14]), ([15, 10], [10, 15]), ([10], [10]), ([10], [10]), ([17, 18, 10], [10, 17, 18]), ([19, 10], [10, 19]), ([20, 10], [10, 20]), ([16, 21, 10], [10, 16, 21]), ([10, 22, 7], [7, 10, 22]), ([7, 23], [7, 23]), ([24, 10], [24]), ([25], [25]), ([25], [25]), ([26, 27, 25], [25, 26, 27]), ([28, 25], [25, 28]), ([29, 25], [25, 29]), ([30, 25, 25], [25, 30]), ([31, 25], [25, 31]), ([25, 32], [25, 32])])
def spec_l03Attrs.B4 : List Nat := [0, 0, 3, 7, 15, 31, 63, 127, 255, 511, 1023, 2047, 2047, 6143, 16383, 32767, 65535, 2047, 2047, 395263, 919551, 1968127, 4194303, 8388607, 16777215, 33554431, 67108863, 67108863, 268435455, 536870911, 1073741823, 2147483647, 4294967295, 8589934591]
theorem spec_l03Attrs.tab4 : rtab .any (opsOf Tryd.f127 4) = spec_l03Attrs.T4 := by kernel_rfl
theorem spec_l03Attrs.bits4 : waitsOk spec_l03Attrs.T4.2 spec_l03Attrs.B4 = true := by kernel_rfl
set_option maxHeartbeats 8000000 in
set_option maxRecDepth 100000 in
theorem spec_l03Attrs.calls (k : Nat) (A0 : Option Addr) (c0 : Nat) (l0 : List (S111)) (r : Bool) (w : World) (hr0 : Kd.C k111 w A0 l0.length l0) (hc0 : l0.length ≤ c0) (h : spec_l03Attrs.f k l0 = some r) :
  Calls Tryd.prog 127 #[.slice A0 l0.length c0] w fun e w' => e = .returned (.bool r) ∧ Below w.heap.size w w' := by
 have HR0 := Aside0.mk hr0
 have HC0 := Aside0.mk hc0
 clear hr0 hc0
 have HB := Aside0.mk (Below.refl w.heap.size w)
 have H : (spec_l03Attrs.l0 k l0 0) = some r := h
 clear h
 have H' := Aside0.mk H
 clear H
 go_enter Tryd.func127, Tryd.ntmps127
 go_wp2
 go_loopg [3] k (fun kq v3 w' => ∃ (x3_1 : Int), v3 = .int .i64 x3_1 ∧ Aside0 (spec_l03Attrs.l0 kq l0 x3_1 = some r) ∧ Aside0 (kq ≤ k) ∧ Aside0 (Below w.heap.size w w'))
 case atStart => exact ⟨(0), EZc, H', ⟨Nat.le_refl _⟩, ⟨HBa⟩⟩
 case round =>
  clear H'
  try clear c1
  obtain ⟨x3_1, rfl, HA, HK1, HB⟩ := hrel
  cases gk with
  | zero => exact absurd HA.out (by simp [spec_l03Attrs.l0])
  | succ k1 =>
   have H := HA.out
   clear HA
   simp only [spec_l03Attrs.l0] at H
   by_cases c2 : x3_1 < (l0.length : Int)
   rotate_left
   ·rw [if_neg c2] at H
    have c2b0 : decide (x3_1 < (l0.length : Int)) = false := decide_eq_false c2
    clear c2
    obtain rfl := Option.some.inj H
    go_wp2
    go_ret
    exact ⟨EZa, HBa⟩
   rw [if_pos c2] at H
   have c2b0 : decide (x3_1 < (l0.length : Int)) = true := decide_eq_true c2
   clear c2
   by_cases c3 : 0 ≤ x3_1
   rotate_left
   ·rw [if_neg c3] at H
    exact absurd H (by simp)
   rw [if_pos c3] at H
   have c3b0 : decide (0 ≤ x3_1) = true := decide_eq_true c3
   clear c3
   replace H := Option.bind_eq_some_iff.mp H
   obtain ⟨t224, A40, H⟩ := H
   replace H : (if t224 = true then (if x3_1 > 0 then (if 0 ≤ (wrap64 (x3_1 - 1)) then (if (wrap64 (x3_1 - 1)) < (l0.length : Int) then (if ((Op.bytesLess (((rd_T111 l0 (wrap64 (x3_1 - 1))).f0).toList) (((rd_T111 l0 x3_1).f0).toList)) = true) then ((spec_l03Values.f k1 ((rd_T111 l0 x3_1).f1)).bind fun t228 => (if t228 = true then (spec_l03Attrs.l0 k1 l0 (wrap64 (x3_1 + 1))) else (some false))) else (some false)) else (none)) else (none)) else ((spec_l03Values.f k1 ((rd_T111 l0 x3_1).f1)).bind fun t230 => (if t230 = true then (spec_l03Attrs.l0 k1 l0 (wrap64 (x3_1 + 1))) else (some false)))) else (some false)) = some r := H
   have A4 := Aside0.mk A40
   clear A40
   by_cases c5 : t224 = true
   rotate_left
   ·replace c5 := Bool.eq_false_iff.mpr c5
    subst c5
    have H1 : (some false) = some r := by rw [if_neg (show ¬ (false = true) by decide)] at H; exact H
    clear H
    have H := H1
    clear H1
    obtain rfl := Option.some.inj H
    try go_wp2
    have n0_ := Aside0.mk (below_drew1 HB.out)
    clear HB
    have HB := n0_
    clear n0_
    have p223 : 0 ≤ (x3_1 : Int) := ODz
    have q223 : x3_1 < (l0.length : Int) := ODz
    obtain ⟨ad223, A223_1, c223_1, e223, hx223_0, hx223_1, hl223_1, hi223_1⟩ := at_T111 HR0.out x3_1 p223 q223
    have hw223_1 := hx223_1
    have hw223_0 := hx223_0
    cases e223
    replace hx223_0 := HXz HB hx223_0
    replace hx223_1 := HXz HB hx223_1
    have HR223_1 := Aside0.mk hi223_1
    have HC223_1 := Aside0.mk hl223_1
    clear hi223_1 hl223_1
    replace p223 := eq_true p223
    replace q223 := eq_true q223
    refine start_ (n := 34) (S := fun w' => w'.cell? (ad223.add ((x3_1).toNat * 2)) = some (.string ((rd_T111 l0 x3_1).f0)) ∧ w'.cell? ⟨(ad223.add ((x3_1).toNat * 2)).block, (ad223.add ((x3_1).toNat * 2)).off + 1, none⟩ = some (.slice A223_1 ((rd_T111 l0 x3_1).f1).length c223_1)) (ds := []) (bz 34 0) (by kernel_rfl) rfl (by kernel_rfl) ⟨(HXz HB hw223_0 :), (HXz HB hw223_1 :)⟩ (fun hHeld => ?_); refine with_tabW spec_l03Attrs.tab4 spec_l03Attrs.bits4 (fun HT_ HW_ => ?_)
    generalize wr.drew = w24 at HB HR223_1 hx223_0 hx223_1 hHeld ⊢
    refine PYz 0 10 (bz 34 1) rfl rfl (any_of HT_.out (by kernel_rfl)) ?_
    refine PYz 1 11 (bz 34 3) rfl rfl (any_of HT_.out (by kernel_rfl)) ?_
    refine PYz 2 12 (bz 34 7) rfl rfl (any_of HT_.out (by kernel_rfl)) ?_
    refine PYz 3 13 (bz 34 15) rfl rfl (any_of HT_.out (by kernel_rfl)) ?_
    refine take_ (i := 4) (N := some 14) (v := ?_) (a' := ?_) (bz 34 31) rfl rfl (take_ofW HT_.out HW_.out (by kernel_rfl)) (fun _ _ _ h => h) (Or.inl ⟨by rfl, ?_⟩) hHeld ?_ ?_
    rotate_left
    ·rintro w' ⟨s0, s1⟩
     go_simp
     with_reducible rfl
    rotate_left
    ·simp only [PUz]
     rfl
    refine one_ (i := 5) (N := some 15) (bz 34 63) rfl rfl (one_of HT_.out (by kernel_rfl)) (by decide) (fun K hK => ?_)
    refine goes_ Tryd.func43 (by kernel_rfl) rfl #[.string ((rd_T111 l0 x3_1).f0)] (by rfl) rfl rfl MPz ?_
    with_reducible refine (spec_NameRight.calls k1 ((rd_T111 l0 x3_1).f0) false _ A4.out).mono ?_
    rintro e w' ⟨rfl, ⟨nd, rfl⟩⟩
    refine ⟨_, rfl, ?_⟩
    refine hK.out _ _ ⟨(HXz HB hw223_0 :), (HXz HB hw223_1 :)⟩ (fun hHeld => ?_)
    clear hK K
    refine norm_ (a' := ?_) ?_ ?_
    rotate_left
    ·show Act.put _ (some 15) _ = _
     simp only [PUz]
     rfl
    refine PYz 6 16 (bz 34 127) rfl rfl (any_of HT_.out (by kernel_rfl)) ?_
    refine PYz 7 17 (bz 34 255) rfl rfl (any_of HT_.out (by kernel_rfl)) ?_
    refine PXz 8 18 (bz 34 511) rfl rfl (any_of HT_.out (by kernel_rfl)) ?_
    refine PXz 9 19 (bz 34 1023) rfl rfl (any_of HT_.out (by kernel_rfl)) ?_
    refine PXz 10 20 (bz 34 2047) rfl rfl (any_of HT_.out (by kernel_rfl)) ?_
    refine PXz 11 21 (bz 34 4095) rfl rfl (any_of HT_.out (by kernel_rfl)) ?_
    refine PXz 12 22 (bz 34 8191) rfl rfl (any_of HT_.out (by kernel_rfl)) ?_
    refine PXz 13 23 (bz 34 16383) rfl rfl (any_of HT_.out (by kernel_rfl)) ?_
    refine PXz 14 24 (bz 34 32767) rfl rfl (any_of HT_.out (by kernel_rfl)) ?_
    refine PXz 15 25 (bz 34 65535) rfl rfl (any_of HT_.out (by kernel_rfl)) ?_
    refine PXz 16 26 (bz 34 131071) rfl rfl (any_of HT_.out (by kernel_rfl)) ?_
    refine PXz 17 27 (bz 34 262143) rfl rfl (any_of HT_.out (by kernel_rfl)) ?_
    refine PXz 18 28 (bz 34 524287) rfl rfl (any_of HT_.out (by kernel_rfl)) ?_
    refine PXz 19 29 (bz 34 1048575) rfl rfl (any_of HT_.out (by kernel_rfl)) ?_
    refine PXz 20 30 (bz 34 2097151) rfl rfl (any_of HT_.out (by kernel_rfl)) ?_
    refine PXz 21 31 (bz 34 4194303) rfl rfl (any_of HT_.out (by kernel_rfl)) ?_
    refine PXz 22 32 (bz 34 8388607) rfl rfl (any_of HT_.out (by kernel_rfl)) ?_
    refine PXz 23 33 (bz 34 16777215) rfl rfl (any_of HT_.out (by kernel_rfl)) ?_
    refine PYz 24 34 (bz 34 33554431) rfl rfl (any_of HT_.out (by kernel_rfl)) ?_
    refine PYz 25 35 (bz 34 67108863) rfl rfl (any_of HT_.out (by kernel_rfl)) ?_
    refine PXz 26 36 (bz 34 134217727) rfl rfl (any_of HT_.out (by kernel_rfl)) ?_
    refine PXz 27 37 (bz 34 268435455) rfl rfl (any_of HT_.out (by kernel_rfl)) ?_
    refine PXz 28 38 (bz 34 536870911) rfl rfl (any_of HT_.out (by kernel_rfl)) ?_
    refine PXz 29 39 (bz 34 1073741823) rfl rfl (any_of HT_.out (by kernel_rfl)) ?_
    refine PXz 30 40 (bz 34 2147483647) rfl rfl (any_of HT_.out (by kernel_rfl)) ?_
    refine PXz 31 41 (bz 34 4294967295) rfl rfl (any_of HT_.out (by kernel_rfl)) ?_
    refine PXz 32 42 (bz 34 8589934591) rfl rfl (any_of HT_.out (by kernel_rfl)) ?_
    refine PYz 33 43 (bz 34 17179869183) rfl rfl (any_of HT_.out (by kernel_rfl)) ?_
    refine done_ (done_of HT_.out (by kernel_rfl)) ?_
    try go_wp2
    go_ret
    exact ⟨EZa, HBa⟩
   subst c5
   have H1 : (if x3_1 > 0 then (if 0 ≤ (wrap64 (x3_1 - 1)) then (if (wrap64 (x3_1 - 1)) < (l0.length : Int) then (if ((Op.bytesLess (((rd_T111 l0 (wrap64 (x3_1 - 1))).f0).toList) (((rd_T111 l0 x3_1).f0).toList)) = true) then ((spec_l03Values.f k1 ((rd_T111 l0 x3_1).f1)).bind fun t228 => (if t228 = true then (spec_l03Attrs.l0 k1 l0 (wrap64 (x3_1 + 1))) else (some false))) else (some false)) else (none)) else (none)) else ((spec_l03Values.f k1 ((rd_T111 l0 x3_1).f1)).bind fun t230 => (if t230 = true then (spec_l03Attrs.l0 k1 l0 (wrap64 (x3_1 + 1))) else (some false)))) = some r := by rw [if_pos rfl] at H; exact H
   clear H
   have H := H1
   clear H1
   by_cases c6 : x3_1 > 0
   rotate_left
   ·rw [if_neg c6] at H
    have c6b0 : decide (0 < x3_1) = false := decide_eq_false c6
    clear c6
    replace H := Option.bind_eq_some_iff.mp H
    obtain ⟨t230, A180, H⟩ := H
    replace H : (if t230 = true then (spec_l03Attrs.l0 k1 l0 (wrap64 (x3_1 + 1))) else (some false)) = some r := H
    have A18 := Aside0.mk A180
    clear A180
    by_cases c19 : t230 = true
    rotate_left
    ·replace c19 := Bool.eq_false_iff.mpr c19
     subst c19
     have H1 : (some false) = some r := by rw [if_neg (show ¬ (false = true) by decide)] at H; exact H
     clear H
     have H := H1
     clear H1
     obtain rfl := Option.some.inj H
     try go_wp2
     have n0_ := Aside0.mk (below_drew1 HB.out)
     clear HB
     have HB := n0_
     clear n0_
     have p223 : 0 ≤ (x3_1 : Int) := ODz
     have q223 : x3_1 < (l0.length : Int) := ODz
     obtain ⟨ad223, A223_1, c223_1, e223, hx223_0, hx223_1, hl223_1, hi223_1⟩ := at_T111 HR0.out x3_1 p223 q223
     have hw223_1 := hx223_1
     have hw223_0 := hx223_0
     cases e223
     replace hx223_0 := HXz HB hx223_0
     replace hx223_1 := HXz HB hx223_1
     have HR223_1 := Aside0.mk hi223_1
     have HC223_1 := Aside0.mk hl223_1
     clear hi223_1 hl223_1
     replace p223 := eq_true p223
     replace q223 := eq_true q223
     have p229 : 0 ≤ (x3_1 : Int) := ODz
     have q229 : x3_1 < (l0.length : Int) := ODz
     obtain ⟨ad229, A229_1, c229_1, e229, hx229_0, hx229_1, hl229_1, hi229_1⟩ := at_T111 HR0.out x3_1 p229 q229
     have hw229_1 := hx229_1
     have hw229_0 := hx229_0
     obtain rfl : ad223 = ad229 := (by injection e229)
     replace hx229_0 := HXz HB hx229_0
     replace hx229_1 := HXz HB hx229_1
     have HR229_1 := Aside0.mk hi229_1
     have HC229_1 := Aside0.mk hl229_1
     clear hi229_1 hl229_1
     replace p229 := eq_true p229
     replace q229 := eq_true q229
     have ea_ := Option.some.inj (hx223_1.symm.trans hx229_1)
     injection ea_ with ea_ en_ ec_
     subst ea_
     subst ec_
     clear en_
     refine start_ (n := 34) (S := fun w' => w'.cell? (ad223.add ((x3_1).toNat * 2)) = some (.string ((rd_T111 l0 x3_1).f0)) ∧ w'.cell? ⟨(ad223.add ((x3_1).toNat * 2)).block, (ad223.add ((x3_1).toNat * 2)).off + 1, none⟩ = some (.slice A223_1 ((rd_T111 l0 x3_1).f1).length c223_1) ∧ w'.cell? (ad223.add ((x3_1).toNat * 2)) = some (.string ((rd_T111 l0 x3_1).f0)) ∧ w'.cell? ⟨(ad223.add ((x3_1).toNat * 2)).block, (ad223.add ((x3_1).toNat * 2)).off + 1, none⟩ = some (.slice A223_1 ((rd_T111 l0 x3_1).f1).length c223_1)) (ds := []) (bz 34 0) (by kernel_rfl) rfl (by kernel_rfl) ⟨(HXz HB hw223_0 :), (HXz HB hw223_1 :), (HXz HB hw229_0 :), (HXz HB hw229_1 :)⟩ (fun hHeld => ?_); refine with_tabW spec_l03Attrs.tab4 spec_l03Attrs.bits4 (fun HT_ HW_ => ?_)
     generalize wr.drew = w22 at HB HR223_1 HR229_1 hx223_0 hx223_1 hx229_0 hx229_1 hHeld ⊢
     refine PYz 0 10 (bz 34 1) rfl rfl (any_of HT_.out (by kernel_rfl)) ?_
     refine PYz 1 11 (bz 34 3) rfl rfl (any_of HT_.out (by kernel_rfl)) ?_
     refine PYz 2 12 (bz 34 7) rfl rfl (any_of HT_.out (by kernel_rfl)) ?_
     refine PYz 3 13 (bz 34 15) rfl rfl (any_of HT_.out (by kernel_rfl)) ?_
     refine take_ (i := 4) (N := some 14) (v := ?_) (a' := ?_) (bz 34 31) rfl rfl (take_ofW HT_.out HW_.out (by kernel_rfl)) (fun _ _ _ h => h) (Or.inl ⟨by rfl, ?_⟩) hHeld ?_ ?_
     rotate_left
     ·rintro w' ⟨s0, s1, s2, s3⟩
      go_simp
      with_reducible rfl
     rotate_left
     ·simp only [PUz]
      rfl
     refine one_ (i := 5) (N := some 15) (bz 34 63) rfl rfl (one_of HT_.out (by kernel_rfl)) (by decide) (fun K hK => ?_)
     refine goes_ Tryd.func43 (by kernel_rfl) rfl #[.string ((rd_T111 l0 x3_1).f0)] (by rfl) rfl rfl MPz ?_
     with_reducible refine (spec_NameRight.calls k1 ((rd_T111 l0 x3_1).f0) true _ A4.out).mono ?_
     rintro e w' ⟨rfl, ⟨nd, rfl⟩⟩
     refine ⟨_, rfl, ?_⟩
     refine hK.out _ _ ⟨(HXz HB hw223_0 :), (HXz HB hw223_1 :), (HXz HB hw229_0 :), (HXz HB hw229_1 :)⟩ (fun hHeld => ?_)
     clear hK K
     refine norm_ (a' := ?_) ?_ ?_
     rotate_left
     ·show Act.put _ (some 15) _ = _
      simp only [PUz]
      rfl
     refine PYz 6 16 (bz 34 127) rfl rfl (any_of HT_.out (by kernel_rfl)) ?_
     refine PYz 7 17 (bz 34 255) rfl rfl (any_of HT_.out (by kernel_rfl)) ?_
     refine PYz 8 18 (bz 34 511) rfl rfl (any_of HT_.out (by kernel_rfl)) ?_
     refine PYz 9 19 (bz 34 1023) rfl rfl (any_of HT_.out (by kernel_rfl)) ?_
     refine PYz 10 20 (bz 34 2047) rfl rfl (any_of HT_.out (by kernel_rfl)) ?_
     refine PXz 11 21 (bz 34 4095) rfl rfl (any_of HT_.out (by kernel_rfl)) ?_
     refine PXz 12 22 (bz 34 8191) rfl rfl (any_of HT_.out (by kernel_rfl)) ?_
     refine PXz 13 23 (bz 34 16383) rfl rfl (any_of HT_.out (by kernel_rfl)) ?_
     refine PXz 14 24 (bz 34 32767) rfl rfl (any_of HT_.out (by kernel_rfl)) ?_
     refine PXz 15 25 (bz 34 65535) rfl rfl (any_of HT_.out (by kernel_rfl)) ?_
     refine PXz 16 26 (bz 34 131071) rfl rfl (any_of HT_.out (by kernel_rfl)) ?_
     refine PXz 17 27 (bz 34 262143) rfl rfl (any_of HT_.out (by kernel_rfl)) ?_
     refine PXz 18 28 (bz 34 524287) rfl rfl (any_of HT_.out (by kernel_rfl)) ?_
     refine PXz 19 29 (bz 34 1048575) rfl rfl (any_of HT_.out (by kernel_rfl)) ?_
     refine PXz 20 30 (bz 34 2097151) rfl rfl (any_of HT_.out (by kernel_rfl)) ?_
     refine PXz 21 31 (bz 34 4194303) rfl rfl (any_of HT_.out (by kernel_rfl)) ?_
     refine PXz 22 32 (bz 34 8388607) rfl rfl (any_of HT_.out (by kernel_rfl)) ?_
     refine PYz 23 33 (bz 34 16777215) rfl rfl (any_of HT_.out (by kernel_rfl)) ?_
     refine PYz 24 34 (bz 34 33554431) rfl rfl (any_of HT_.out (by kernel_rfl)) ?_
     refine PYz 25 35 (bz 34 67108863) rfl rfl (any_of HT_.out (by kernel_rfl)) ?_
     refine PYz 26 36 (bz 34 134217727) rfl rfl (any_of HT_.out (by kernel_rfl)) ?_
     refine PYz 27 37 (bz 34 268435455) rfl rfl (any_of HT_.out (by kernel_rfl)) ?_
     refine PYz 28 38 (bz 34 536870911) rfl rfl (any_of HT_.out (by kernel_rfl)) ?_
     refine PYz 29 39 (bz 34 1073741823) rfl rfl (any_of HT_.out (by kernel_rfl)) ?_
     refine take_ (i := 30) (N := some 40) (v := ?_) (a' := ?_) (bz 34 2147483647) rfl rfl (take_ofW HT_.out HW_.out (by kernel_rfl)) (fun _ _ _ h => h) (Or.inl ⟨by rfl, ?_⟩) hHeld ?_ ?_
     rotate_left
     ·rintro w' ⟨s0, s1, s2, s3⟩
      go_simp
      with_reducible rfl
     rotate_left
     ·simp only [PUz]
      rfl
     refine one_ (i := 31) (N := some 41) (bz 34 4294967295) rfl rfl (one_of HT_.out (by kernel_rfl)) (by decide) (fun K hK => ?_)
     refine goes_ Tryd.func155 (by kernel_rfl) rfl #[.slice A223_1 ((rd_T111 l0 x3_1).f1).length c223_1] (by rfl) rfl rfl MPz ?_
     with_reducible refine (spec_l03Values.calls k1 _ _ ((rd_T111 l0 x3_1).f1) false _ ?side1 ?side2 A18.out).mono ?_
     (case side1 => repeat (first | exact (Kd.C_below HR229_1.out HBa) | (with_reducible refine Kd.C_alloc ?_ _) | (with_reducible refine Kd.C_drewN ?_ _) | (with_reducible refine Kd.C_drew ?_)))
     (case side2 => exact HC229_1.out)
     rintro e w23 ⟨rfl, hb⟩
     refine ⟨_, rfl, ?_⟩
     have n0_ := Aside0.mk (below_step HBa hb)
     clear HB
     have HB := n0_
     clear n0_
     (try clear hb)
     (try clear hb2)
     (try clear hk)
     (try clear hi)
     refine hK.out _ _ ⟨(HXz HB hw223_0 :), (HXz HB hw223_1 :), (HXz HB hw229_0 :), (HXz HB hw229_1 :)⟩ (fun hHeld => ?_)
     clear hK K
     refine norm_ (a' := ?_) ?_ ?_
     rotate_left
     ·show Act.put _ (some 41) _ = _
      simp only [PUz]
      rfl
     refine PYz 32 42 (bz 34 8589934591) rfl rfl (any_of HT_.out (by kernel_rfl)) ?_
     refine PYz 33 43 (bz 34 17179869183) rfl rfl (any_of HT_.out (by kernel_rfl)) ?_
     refine done_ (done_of HT_.out (by kernel_rfl)) ?_
     try go_wp2
     go_ret
     exact ⟨EZa, HBa⟩
    subst c19
    have H1 : (spec_l03Attrs.l0 k1 l0 (wrap64 (x3_1 + 1))) = some r := by rw [if_pos rfl] at H; exact H
    clear H
    have H := H1
    clear H1
    have H' := Aside0.mk H
    clear H
    try go_wp2
    have n0_ := Aside0.mk (below_drew1 HB.out)
    clear HB
    have HB := n0_
    clear n0_
    have p223 : 0 ≤ (x3_1 : Int) := ODz
    have q223 : x3_1 < (l0.length : Int) := ODz
    obtain ⟨ad223, A223_1, c223_1, e223, hx223_0, hx223_1, hl223_1, hi223_1⟩ := at_T111 HR0.out x3_1 p223 q223
    have hw223_1 := hx223_1
    have hw223_0 := hx223_0
    cases e223
    replace hx223_0 := HXz HB hx223_0
    replace hx223_1 := HXz HB hx223_1
    have HR223_1 := Aside0.mk hi223_1
    have HC223_1 := Aside0.mk hl223_1
    clear hi223_1 hl223_1
    replace p223 := eq_true p223
    replace q223 := eq_true q223
    have p229 : 0 ≤ (x3_1 : Int) := ODz
    have q229 : x3_1 < (l0.length : Int) := ODz
    obtain ⟨ad229, A229_1, c229_1, e229, hx229_0, hx229_1, hl229_1, hi229_1⟩ := at_T111 HR0.out x3_1 p229 q229
    have hw229_1 := hx229_1
    have hw229_0 := hx229_0
    obtain rfl : ad223 = ad229 := (by injection e229)
    replace hx229_0 := HXz HB hx229_0
    replace hx229_1 := HXz HB hx229_1
    have HR229_1 := Aside0.mk hi229_1
    have HC229_1 := Aside0.mk hl229_1
    clear hi229_1 hl229_1
    replace p229 := eq_true p229
    replace q229 := eq_true q229
    have ea_ := Option.some.inj (hx223_1.symm.trans hx229_1)
    injection ea_ with ea_ en_ ec_
    subst ea_
    subst ec_
    clear en_
    refine start_ (n := 34) (S := fun w' => w'.cell? (ad223.add ((x3_1).toNat * 2)) = some (.string ((rd_T111 l0 x3_1).f0)) ∧ w'.cell? ⟨(ad223.add ((x3_1).toNat * 2)).block, (ad223.add ((x3_1).toNat * 2)).off + 1, none⟩ = some (.slice A223_1 ((rd_T111 l0 x3_1).f1).length c223_1) ∧ w'.cell? (ad223.add ((x3_1).toNat * 2)) = some (.string ((rd_T111 l0 x3_1).f0)) ∧ w'.cell? ⟨(ad223.add ((x3_1).toNat * 2)).block, (ad223.add ((x3_1).toNat * 2)).off + 1, none⟩ = some (.slice A223_1 ((rd_T111 l0 x3_1).f1).length c223_1)) (ds := []) (bz 34 0) (by kernel_rfl) rfl (by kernel_rfl) ⟨(HXz HB hw223_0 :), (HXz HB hw223_1 :), (HXz HB hw229_0 :), (HXz HB hw229_1 :)⟩ (fun hHeld => ?_); refine with_tabW spec_l03Attrs.tab4 spec_l03Attrs.bits4 (fun HT_ HW_ => ?_)
    generalize wr.drew = w20 at HB HR223_1 HR229_1 hx223_0 hx223_1 hx229_0 hx229_1 hHeld ⊢
    refine PYz 0 10 (bz 34 1) rfl rfl (any_of HT_.out (by kernel_rfl)) ?_
    refine PYz 1 11 (bz 34 3) rfl rfl (any_of HT_.out (by kernel_rfl)) ?_
    refine PYz 2 12 (bz 34 7) rfl rfl (any_of HT_.out (by kernel_rfl)) ?_
    refine PYz 3 13 (bz 34 15) rfl rfl (any_of HT_.out (by kernel_rfl)) ?_
    refine take_ (i := 4) (N := some 14) (v := ?_) (a' := ?_) (bz 34 31) rfl rfl (take_ofW HT_.out HW_.out (by kernel_rfl)) (fun _ _ _ h => h) (Or.inl ⟨by rfl, ?_⟩) hHeld ?_ ?_
    rotate_left
    ·rintro w' ⟨s0, s1, s2, s3⟩
     go_simp
     with_reducible rfl
    rotate_left
    ·simp only [PUz]
     rfl
    refine one_ (i := 5) (N := some 15) (bz 34 63) rfl rfl (one_of HT_.out (by kernel_rfl)) (by decide) (fun K hK => ?_)
    refine goes_ Tryd.func43 (by kernel_rfl) rfl #[.string ((rd_T111 l0 x3_1).f0)] (by rfl) rfl rfl MPz ?_
    with_reducible refine (spec_NameRight.calls k1 ((rd_T111 l0 x3_1).f0) true _ A4.out).mono ?_
    rintro e w' ⟨rfl, ⟨nd, rfl⟩⟩
    refine ⟨_, rfl, ?_⟩
    refine hK.out _ _ ⟨(HXz HB hw223_0 :), (HXz HB hw223_1 :), (HXz HB hw229_0 :), (HXz HB hw229_1 :)⟩ (fun hHeld => ?_)
    clear hK K
    refine norm_ (a' := ?_) ?_ ?_
    rotate_left
    ·show Act.put _ (some 15) _ = _
     simp only [PUz]
     rfl
    refine PYz 6 16 (bz 34 127) rfl rfl (any_of HT_.out (by kernel_rfl)) ?_
    refine PYz 7 17 (bz 34 255) rfl rfl (any_of HT_.out (by kernel_rfl)) ?_
    refine PYz 8 18 (bz 34 511) rfl rfl (any_of HT_.out (by kernel_rfl)) ?_
    refine PYz 9 19 (bz 34 1023) rfl rfl (any_of HT_.out (by kernel_rfl)) ?_
    refine PYz 10 20 (bz 34 2047) rfl rfl (any_of HT_.out (by kernel_rfl)) ?_
    refine PXz 11 21 (bz 34 4095) rfl rfl (any_of HT_.out (by kernel_rfl)) ?_
    refine PXz 12 22 (bz 34 8191) rfl rfl (any_of HT_.out (by kernel_rfl)) ?_
    refine PXz 13 23 (bz 34 16383) rfl rfl (any_of HT_.out (by kernel_rfl)) ?_
    refine PXz 14 24 (bz 34 32767) rfl rfl (any_of HT_.out (by kernel_rfl)) ?_
    refine PXz 15 25 (bz 34 65535) rfl rfl (any_of HT_.out (by kernel_rfl)) ?_
    refine PXz 16 26 (bz 34 131071) rfl rfl (any_of HT_.out (by kernel_rfl)) ?_
    refine PXz 17 27 (bz 34 262143) rfl rfl (any_of HT_.out (by kernel_rfl)) ?_
    refine PXz 18 28 (bz 34 524287) rfl rfl (any_of HT_.out (by kernel_rfl)) ?_
    refine PXz 19 29 (bz 34 1048575) rfl rfl (any_of HT_.out (by kernel_rfl)) ?_
    refine PXz 20 30 (bz 34 2097151) rfl rfl (any_of HT_.out (by kernel_rfl)) ?_
    refine PXz 21 31 (bz 34 4194303) rfl rfl (any_of HT_.out (by kernel_rfl)) ?_
    refine PXz 22 32 (bz 34 8388607) rfl rfl (any_of HT_.out (by kernel_rfl)) ?_
    refine PYz 23 33 (bz 34 16777215) rfl rfl (any_of HT_.out (by kernel_rfl)) ?_
    refine PYz 24 34 (bz 34 33554431) rfl rfl (any_of HT_.out (by kernel_rfl)) ?_
    refine PYz 25 35 (bz 34 67108863) rfl rfl (any_of HT_.out (by kernel_rfl)) ?_
    refine PYz 26 36 (bz 34 134217727) rfl rfl (any_of HT_.out (by kernel_rfl)) ?_
    refine PYz 27 37 (bz 34 268435455) rfl rfl (any_of HT_.out (by kernel_rfl)) ?_
    refine PYz 28 38 (bz 34 536870911) rfl rfl (any_of HT_.out (by kernel_rfl)) ?_
    refine PYz 29 39 (bz 34 1073741823) rfl rfl (any_of HT_.out (by kernel_rfl)) ?_
    refine take_ (i := 30) (N := some 40) (v := ?_) (a' := ?_) (bz 34 2147483647) rfl rfl (take_ofW HT_.out HW_.out (by kernel_rfl)) (fun _ _ _ h => h) (Or.inl ⟨by rfl, ?_⟩) hHeld ?_ ?_
    rotate_left
    ·rintro w' ⟨s0, s1, s2, s3⟩
     go_simp
     with_reducible rfl
    rotate_left
    ·simp only [PUz]
     rfl
    refine one_ (i := 31) (N := some 41) (bz 34 4294967295) rfl rfl (one_of HT_.out (by kernel_rfl)) (by decide) (fun K hK => ?_)
    refine goes_ Tryd.func155 (by kernel_rfl) rfl #[.slice A223_1 ((rd_T111 l0 x3_1).f1).length c223_1] (by rfl) rfl rfl MPz ?_
    with_reducible refine (spec_l03Values.calls k1 _ _ ((rd_T111 l0 x3_1).f1) true _ ?side1 ?side2 A18.out).mono ?_
    (case side1 => repeat (first | exact (Kd.C_below HR229_1.out HBa) | (with_reducible refine Kd.C_alloc ?_ _) | (with_reducible refine Kd.C_drewN ?_ _) | (with_reducible refine Kd.C_drew ?_)))
    (case side2 => exact HC229_1.out)
    rintro e w21 ⟨rfl, hb⟩
    refine ⟨_, rfl, ?_⟩
    have n0_ := Aside0.mk (below_step HBa hb)
    clear HB
    have HB := n0_
    clear n0_
    (try clear hb)
    (try clear hb2)
    (try clear hk)
    (try clear hi)
    refine hK.out _ _ ⟨(HXz HB hw223_0 :), (HXz HB hw223_1 :), (HXz HB hw229_0 :), (HXz HB hw229_1 :)⟩ (fun hHeld => ?_)
    clear hK K
    refine norm_ (a' := ?_) ?_ ?_
    rotate_left
    ·show Act.put _ (some 41) _ = _
     simp only [PUz]
     rfl
    refine PYz 32 42 (bz 34 8589934591) rfl rfl (any_of HT_.out (by kernel_rfl)) ?_
    refine PYz 33 43 (bz 34 17179869183) rfl rfl (any_of HT_.out (by kernel_rfl)) ?_
    refine done_ (done_of HT_.out (by kernel_rfl)) ?_
    try go_wp2
    go_roundg k1
    case measure => have := HK1.out; omega
    case rel => exact ⟨(wrap64 (x3_1 + 1)), EZc, H', ⟨by have := HK1.out; omega⟩, ⟨HBa⟩⟩
   rw [if_pos c6] at H
   have c6b0 : decide (0 < x3_1) = true := decide_eq_true c6
   clear c6
   obtain ⟨ji7, hji7⟩ : ∃ j_ : Int, (wrap64 (x3_1 - 1)) = j_ := ⟨_, rfl⟩
   replace H : (if 0 ≤ (ji7) then (if (ji7) < (l0.length : Int) then (if ((Op.bytesLess (((rd_T111 l0 (ji7)).f0).toList) (((rd_T111 l0 x3_1).f0).toList)) = true) then ((spec_l03Values.f k1 ((rd_T111 l0 x3_1).f1)).bind fun t228 => (if t228 = true then (spec_l03Attrs.l0 k1 l0 (wrap64 (x3_1 + 1))) else (some false))) else (some false)) else (none)) else (none)) = some r := by first | (rw [hji7] at H; exact H) | (simp only [hji7] at H ⊢; exact H)
   (try rw [hji7] at A4)
   have hji7w : (IntKind.i64.wrap (x3_1 - 1)) = ji7 := (i64_w _).trans hji7
   by_cases c8 : 0 ≤ (ji7)
   rotate_left
   ·rw [if_neg c8] at H
    exact absurd H (by simp)
   rw [if_pos c8] at H
   have c8b0 : decide (0 ≤ (ji7)) = true := decide_eq_true c8
   clear c8
   by_cases c9 : (ji7) < (l0.length : Int)
   rotate_left
   ·rw [if_neg c9] at H
    exact absurd H (by simp)
   rw [if_pos c9] at H
   have c9b0 : decide ((ji7) < (l0.length : Int)) = true := decide_eq_true c9
   clear c9
   by_cases c10 : ((Op.bytesLess (((rd_T111 l0 (ji7)).f0).toList) (((rd_T111 l0 x3_1).f0).toList)) = true)
   rotate_left
   ·rw [if_neg c10] at H
    have c10b0 : (Op.bytesLess (((rd_T111 l0 (ji7)).f0).toList) (((rd_T111 l0 x3_1).f0).toList)) = false := by simpa using c10
    clear c10
    obtain rfl := Option.some.inj H
    try go_wp2
    have n0_ := Aside0.mk (below_drew1 HB.out)
    clear HB
    have HB := n0_
    clear n0_
    have p223 : 0 ≤ (x3_1 : Int) := ODz
    have q223 : x3_1 < (l0.length : Int) := ODz
    obtain ⟨ad223, A223_1, c223_1, e223, hx223_0, hx223_1, hl223_1, hi223_1⟩ := at_T111 HR0.out x3_1 p223 q223
    have hw223_1 := hx223_1
    have hw223_0 := hx223_0
    cases e223
    replace hx223_0 := HXz HB hx223_0
    replace hx223_1 := HXz HB hx223_1
    have HR223_1 := Aside0.mk hi223_1
    have HC223_1 := Aside0.mk hl223_1
    clear hi223_1 hl223_1
    replace p223 := eq_true p223
    replace q223 := eq_true q223
    have p225 : 0 ≤ ((ji7) : Int) := ODz
    have q225 : (ji7) < (l0.length : Int) := ODz
    obtain ⟨ad225, A225_1, c225_1, e225, hx225_0, hx225_1, hl225_1, hi225_1⟩ := at_T111 HR0.out (ji7) p225 q225
    have hw225_1 := hx225_1
    have hw225_0 := hx225_0
    obtain rfl : ad223 = ad225 := (by injection e225)
    replace hx225_0 := HXz HB hx225_0
    replace hx225_1 := HXz HB hx225_1
    have HR225_1 := Aside0.mk hi225_1
    have HC225_1 := Aside0.mk hl225_1
    clear hi225_1 hl225_1
    replace p225 := eq_true p225
    replace q225 := eq_true q225
    have p226 : 0 ≤ (x3_1 : Int) := ODz
    have q226 : x3_1 < (l0.length : Int) := ODz
    obtain ⟨ad226, A226_1, c226_1, e226, hx226_0, hx226_1, hl226_1, hi226_1⟩ := at_T111 HR0.out x3_1 p226 q226
    have hw226_1 := hx226_1
    have hw226_0 := hx226_0
    obtain rfl : ad223 = ad226 := (by injection e226)
    replace hx226_0 := HXz HB hx226_0
    replace hx226_1 := HXz HB hx226_1
    have HR226_1 := Aside0.mk hi226_1
    have HC226_1 := Aside0.mk hl226_1
    clear hi226_1 hl226_1
    replace p226 := eq_true p226
    replace q226 := eq_true q226
    have ea_ := Option.some.inj (hx223_1.symm.trans hx226_1)
    injection ea_ with ea_ en_ ec_
    subst ea_
    subst ec_
    clear en_
    refine start_ (n := 34) (S := fun w' => w'.cell? (ad223.add ((x3_1).toNat * 2)) = some (.string ((rd_T111 l0 x3_1).f0)) ∧ w'.cell? ⟨(ad223.add ((x3_1).toNat * 2)).block, (ad223.add ((x3_1).toNat * 2)).off + 1, none⟩ = some (.slice A223_1 ((rd_T111 l0 x3_1).f1).length c223_1) ∧ w'.cell? (ad223.add (((ji7)).toNat * 2)) = some (.string ((rd_T111 l0 (ji7)).f0)) ∧ w'.cell? ⟨(ad223.add (((ji7)).toNat * 2)).block, (ad223.add (((ji7)).toNat * 2)).off + 1, none⟩ = some (.slice A225_1 ((rd_T111 l0 (ji7)).f1).length c225_1) ∧ w'.cell? (ad223.add ((x3_1).toNat * 2)) = some (.string ((rd_T111 l0 x3_1).f0)) ∧ w'.cell? ⟨(ad223.add ((x3_1).toNat * 2)).block, (ad223.add ((x3_1).toNat * 2)).off + 1, none⟩ = some (.slice A223_1 ((rd_T111 l0 x3_1).f1).length c223_1)) (ds := []) (bz 34 0) (by kernel_rfl) rfl (by kernel_rfl) ⟨(HXz HB hw223_0 :), (HXz HB hw223_1 :), (HXz HB hw225_0 :), (HXz HB hw225_1 :), (HXz HB hw226_0 :), (HXz HB hw226_1 :)⟩ (fun hHeld => ?_); refine with_tabW spec_l03Attrs.tab4 spec_l03Attrs.bits4 (fun HT_ HW_ => ?_)
    generalize wr.drew = w17 at HB HR223_1 HR225_1 HR226_1 hx223_0 hx223_1 hx225_0 hx225_1 hx226_0 hx226_1 hHeld ⊢
    refine PYz 0 10 (bz 34 1) rfl rfl (any_of HT_.out (by kernel_rfl)) ?_
    refine PYz 1 11 (bz 34 3) rfl rfl (any_of HT_.out (by kernel_rfl)) ?_
    refine PYz 2 12 (bz 34 7) rfl rfl (any_of HT_.out (by kernel_rfl)) ?_
    refine PYz 3 13 (bz 34 15) rfl rfl (any_of HT_.out (by kernel_rfl)) ?_
    refine take_ (i := 4) (N := some 14) (v := ?_) (a' := ?_) (bz 34 31) rfl rfl (take_ofW HT_.out HW_.out (by kernel_rfl)) (fun _ _ _ h => h) (Or.inl ⟨by rfl, ?_⟩) hHeld ?_ ?_
    rotate_left
    ·rintro w' ⟨s0, s1, s2, s3, s4, s5⟩
     go_simp
     with_reducible rfl
    rotate_left
    ·simp only [PUz]
     rfl
    refine one_ (i := 5) (N := some 15) (bz 34 63) rfl rfl (one_of HT_.out (by kernel_rfl)) (by decide) (fun K hK => ?_)
    refine goes_ Tryd.func43 (by kernel_rfl) rfl #[.string ((rd_T111 l0 x3_1).f0)] (by rfl) rfl rfl MPz ?_
    with_reducible refine (spec_NameRight.calls k1 ((rd_T111 l0 x3_1).f0) true _ A4.out).mono ?_
    rintro e w' ⟨rfl, ⟨nd, rfl⟩⟩
    refine ⟨_, rfl, ?_⟩
    refine hK.out _ _ ⟨(HXz HB hw223_0 :), (HXz HB hw223_1 :), (HXz HB hw225_0 :), (HXz HB hw225_1 :), (HXz HB hw226_0 :), (HXz HB hw226_1 :)⟩ (fun hHeld => ?_)
    clear hK K
    refine norm_ (a' := ?_) ?_ ?_
    rotate_left
    ·show Act.put _ (some 15) _ = _
     simp only [PUz]
     rfl
    refine PYz 6 16 (bz 34 127) rfl rfl (any_of HT_.out (by kernel_rfl)) ?_
    refine PYz 7 17 (bz 34 255) rfl rfl (any_of HT_.out (by kernel_rfl)) ?_
    refine PYz 8 18 (bz 34 511) rfl rfl (any_of HT_.out (by kernel_rfl)) ?_
    refine PYz 9 19 (bz 34 1023) rfl rfl (any_of HT_.out (by kernel_rfl)) ?_
    refine PYz 10 20 (bz 34 2047) rfl rfl (any_of HT_.out (by kernel_rfl)) ?_
    refine PYz 11 21 (bz 34 4095) rfl rfl (any_of HT_.out (by kernel_rfl)) ?_
    refine PYz 12 22 (bz 34 8191) rfl rfl (any_of HT_.out (by kernel_rfl)) ?_
    refine PYz 13 23 (bz 34 16383) rfl rfl (any_of HT_.out (by kernel_rfl)) ?_
    refine PYz 14 24 (bz 34 32767) rfl rfl (any_of HT_.out (by kernel_rfl)) ?_
    refine PYz 15 25 (bz 34 65535) rfl rfl (any_of HT_.out (by kernel_rfl)) ?_
    refine PYz 17 27 (bz 34 196607) rfl rfl (any_of HT_.out (by kernel_rfl)) ?_
    refine PYz 18 28 (bz 34 458751) rfl rfl (any_of HT_.out (by kernel_rfl)) ?_
    refine PYz 19 29 (bz 34 983039) rfl rfl (any_of HT_.out (by kernel_rfl)) ?_
    refine PYz 20 30 (bz 34 2031615) rfl rfl (any_of HT_.out (by kernel_rfl)) ?_
    refine take_ (i := 16) (N := some 26) (v := ?_) (a' := ?_) (bz 34 2097151) rfl rfl (take_ofW HT_.out HW_.out (by kernel_rfl)) (fun _ _ _ h => h) (Or.inl ⟨by rfl, ?_⟩) hHeld ?_ ?_
    rotate_left
    ·rintro w' ⟨s0, s1, s2, s3, s4, s5⟩
     go_simp
     with_reducible rfl
    rotate_left
    ·simp only [PUz]
     rfl
    refine take_ (i := 21) (N := some 31) (v := ?_) (a' := ?_) (bz 34 4194303) rfl rfl (take_ofW HT_.out HW_.out (by kernel_rfl)) (fun _ _ _ h => h) (Or.inl ⟨by rfl, ?_⟩) hHeld ?_ ?_
    rotate_left
    ·rintro w' ⟨s0, s1, s2, s3, s4, s5⟩
     go_simp
     with_reducible rfl
    rotate_left
    ·simp only [PUz]
     rfl
    refine PYz 22 32 (bz 34 8388607) rfl rfl (any_of HT_.out (by kernel_rfl)) ?_
    refine PYz 23 33 (bz 34 16777215) rfl rfl (any_of HT_.out (by kernel_rfl)) ?_
    refine PYz 24 34 (bz 34 33554431) rfl rfl (any_of HT_.out (by kernel_rfl)) ?_
    refine PYz 25 35 (bz 34 67108863) rfl rfl (any_of HT_.out (by kernel_rfl)) ?_
    refine PXz 26 36 (bz 34 134217727) rfl rfl (any_of HT_.out (by kernel_rfl)) ?_
    refine PXz 27 37 (bz 34 268435455) rfl rfl (any_of HT_.out (by kernel_rfl)) ?_
    refine PXz 28 38 (bz 34 536870911) rfl rfl (any_of HT_.out (by kernel_rfl)) ?_
    refine PXz 29 39 (bz 34 1073741823) rfl rfl (any_of HT_.out (by kernel_rfl)) ?_
    refine PXz 30 40 (bz 34 2147483647) rfl rfl (any_of HT_.out (by kernel_rfl)) ?_
    refine PXz 31 41 (bz 34 4294967295) rfl rfl (any_of HT_.out (by kernel_rfl)) ?_
    refine PXz 32 42 (bz 34 8589934591) rfl rfl (any_of HT_.out (by kernel_rfl)) ?_
    refine PYz 33 43 (bz 34 17179869183) rfl rfl (any_of HT_.out (by kernel_rfl)) ?_
    refine done_ (done_of HT_.out (by kernel_rfl)) ?_
    try go_wp2
    go_ret
    exact ⟨by first | rfl | (simp only [bne_nil_, beq_nil_]; rfl) | (simp [errW_none, errW_some] <;> rfl) | (simp only [← hji7]; first | rfl | (simp [errW_none, errW_some] <;> rfl)) | (simp [*, errW_none, errW_some] <;> rfl), HBa⟩
   rw [if_pos c10] at H
   have c10b0 : (Op.bytesLess (((rd_T111 l0 (ji7)).f0).toList) (((rd_T111 l0 x3_1).f0).toList)) = true := c10
   clear c10
   replace H := Option.bind_eq_some_iff.mp H
   obtain ⟨t228, A110, H⟩ := H
   replace H : (if t228 = true then (spec_l03Attrs.l0 k1 l0 (wrap64 (x3_1 + 1))) else (some false)) = some r := H
   have A11 := Aside0.mk A110
   clear A110
   by_cases c12 : t228 = true
   rotate_left
   ·replace c12 := Bool.eq_false_iff.mpr c12
    subst c12
    have H1 : (some false) = some r := by rw [if_neg (show ¬ (false = true) by decide)] at H; exact H
    clear H
    have H := H1
    clear H1
    obtain rfl := Option.some.inj H
    try go_wp2
    have n0_ := Aside0.mk (below_drew1 HB.out)
    clear HB
    have HB := n0_
    clear n0_
    have p223 : 0 ≤ (x3_1 : Int) := ODz
    have q223 : x3_1 < (l0.length : Int) := ODz
    obtain ⟨ad223, A223_1, c223_1, e223, hx223_0, hx223_1, hl223_1, hi223_1⟩ := at_T111 HR0.out x3_1 p223 q223
    have hw223_1 := hx223_1
    have hw223_0 := hx223_0
    cases e223
    replace hx223_0 := HXz HB hx223_0
    replace hx223_1 := HXz HB hx223_1
    have HR223_1 := Aside0.mk hi223_1
    have HC223_1 := Aside0.mk hl223_1
    clear hi223_1 hl223_1
    replace p223 := eq_true p223
    replace q223 := eq_true q223
    have p225 : 0 ≤ ((ji7) : Int) := ODz
    have q225 : (ji7) < (l0.length : Int) := ODz
    obtain ⟨ad225, A225_1, c225_1, e225, hx225_0, hx225_1, hl225_1, hi225_1⟩ := at_T111 HR0.out (ji7) p225 q225
    have hw225_1 := hx225_1
    have hw225_0 := hx225_0
    obtain rfl : ad223 = ad225 := (by injection e225)
    replace hx225_0 := HXz HB hx225_0
    replace hx225_1 := HXz HB hx225_1
    have HR225_1 := Aside0.mk hi225_1
    have HC225_1 := Aside0.mk hl225_1
    clear hi225_1 hl225_1
    replace p225 := eq_true p225
    replace q225 := eq_true q225
    have p226 : 0 ≤ (x3_1 : Int) := ODz
    have q226 : x3_1 < (l0.length : Int) := ODz
    obtain ⟨ad226, A226_1, c226_1, e226, hx226_0, hx226_1, hl226_1, hi226_1⟩ := at_T111 HR0.out x3_1 p226 q226
    have hw226_1 := hx226_1
    have hw226_0 := hx226_0
    obtain rfl : ad223 = ad226 := (by injection e226)
    replace hx226_0 := HXz HB hx226_0
    replace hx226_1 := HXz HB hx226_1
    have HR226_1 := Aside0.mk hi226_1
    have HC226_1 := Aside0.mk hl226_1
    clear hi226_1 hl226_1
    replace p226 := eq_true p226
    replace q226 := eq_true q226
    have ea_ := Option.some.inj (hx223_1.symm.trans hx226_1)
    injection ea_ with ea_ en_ ec_
    subst ea_
    subst ec_
    clear en_
    have p227 : 0 ≤ (x3_1 : Int) := ODz
    have q227 : x3_1 < (l0.length : Int) := ODz
    obtain ⟨ad227, A227_1, c227_1, e227, hx227_0, hx227_1, hl227_1, hi227_1⟩ := at_T111 HR0.out x3_1 p227 q227
    have hw227_1 := hx227_1
    have hw227_0 := hx227_0
    obtain rfl : ad223 = ad227 := (by injection e227)
    replace hx227_0 := HXz HB hx227_0
    replace hx227_1 := HXz HB hx227_1
    have HR227_1 := Aside0.mk hi227_1
    have HC227_1 := Aside0.mk hl227_1
    clear hi227_1 hl227_1
    replace p227 := eq_true p227
    replace q227 := eq_true q227
    have ea_ := Option.some.inj (hx223_1.symm.trans hx227_1)
    injection ea_ with ea_ en_ ec_
    subst ea_
    subst ec_
    clear en_
    refine start_ (n := 34) (S := fun w' => w'.cell? (ad223.add ((x3_1).toNat * 2)) = some (.string ((rd_T111 l0 x3_1).f0)) ∧ w'.cell? ⟨(ad223.add ((x3_1).toNat * 2)).block, (ad223.add ((x3_1).toNat * 2)).off + 1, none⟩ = some (.slice A223_1 ((rd_T111 l0 x3_1).f1).length c223_1) ∧ w'.cell? (ad223.add (((ji7)).toNat * 2)) = some (.string ((rd_T111 l0 (ji7)).f0)) ∧ w'.cell? ⟨(ad223.add (((ji7)).toNat * 2)).block, (ad223.add (((ji7)).toNat * 2)).off + 1, none⟩ = some (.slice A225_1 ((rd_T111 l0 (ji7)).f1).length c225_1) ∧ w'.cell? (ad223.add ((x3_1).toNat * 2)) = some (.string ((rd_T111 l0 x3_1).f0)) ∧ w'.cell? ⟨(ad223.add ((x3_1).toNat * 2)).block, (ad223.add ((x3_1).toNat * 2)).off + 1, none⟩ = some (.slice A223_1 ((rd_T111 l0 x3_1).f1).length c223_1) ∧ w'.cell? (ad223.add ((x3_1).toNat * 2)) = some (.string ((rd_T111 l0 x3_1).f0)) ∧ w'.cell? ⟨(ad223.add ((x3_1).toNat * 2)).block, (ad223.add ((x3_1).toNat * 2)).off + 1, none⟩ = some (.slice A223_1 ((rd_T111 l0 x3_1).f1).length c223_1)) (ds := []) (bz 34 0) (by kernel_rfl) rfl (by kernel_rfl) ⟨(HXz HB hw223_0 :), (HXz HB hw223_1 :), (HXz HB hw225_0 :), (HXz HB hw225_1 :), (HXz HB hw226_0 :), (HXz HB hw226_1 :), (HXz HB hw227_0 :), (HXz HB hw227_1 :)⟩ (fun hHeld => ?_); refine with_tabW spec_l03Attrs.tab4 spec_l03Attrs.bits4 (fun HT_ HW_ => ?_)
    generalize wr.drew = w15 at HB HR223_1 HR225_1 HR226_1 HR227_1 hx223_0 hx223_1 hx225_0 hx225_1 hx226_0 hx226_1 hx227_0 hx227_1 hHeld ⊢
    refine PYz 0 10 (bz 34 1) rfl rfl (any_of HT_.out (by kernel_rfl)) ?_
    refine PYz 1 11 (bz 34 3) rfl rfl (any_of HT_.out (by kernel_rfl)) ?_
    refine PYz 2 12 (bz 34 7) rfl rfl (any_of HT_.out (by kernel_rfl)) ?_
    refine PYz 3 13 (bz 34 15) rfl rfl (any_of HT_.out (by kernel_rfl)) ?_
    refine take_ (i := 4) (N := some 14) (v := ?_) (a' := ?_) (bz 34 31) rfl rfl (take_ofW HT_.out HW_.out (by kernel_rfl)) (fun _ _ _ h => h) (Or.inl ⟨by rfl, ?_⟩) hHeld ?_ ?_
    rotate_left
    ·rintro w' ⟨s0, s1, s2, s3, s4, s5, s6, s7⟩
     go_simp
     with_reducible rfl
    rotate_left
    ·simp only [PUz]
     rfl
    refine one_ (i := 5) (N := some 15) (bz 34 63) rfl rfl (one_of HT_.out (by kernel_rfl)) (by decide) (fun K hK => ?_)
    refine goes_ Tryd.func43 (by kernel_rfl) rfl #[.string ((rd_T111 l0 x3_1).f0)] (by rfl) rfl rfl MPz ?_
    with_reducible refine (spec_NameRight.calls k1 ((rd_T111 l0 x3_1).f0) true _ A4.out).mono ?_
    rintro e w' ⟨rfl, ⟨nd, rfl⟩⟩
    refine ⟨_, rfl, ?_⟩
    refine hK.out _ _ ⟨(HXz HB hw223_0 :), (HXz HB hw223_1 :), (HXz HB hw225_0 :), (HXz HB hw225_1 :), (HXz HB hw226_0 :), (HXz HB hw226_1 :), (HXz HB hw227_0 :), (HXz HB hw227_1 :)⟩ (fun hHeld => ?_)
    clear hK K
    refine norm_ (a' := ?_) ?_ ?_
    rotate_left
    ·show Act.put _ (some 15) _ = _
     simp only [PUz]
     rfl
    refine PYz 6 16 (bz 34 127) rfl rfl (any_of HT_.out (by kernel_rfl)) ?_
    refine PYz 7 17 (bz 34 255) rfl rfl (any_of HT_.out (by kernel_rfl)) ?_
    refine PYz 8 18 (bz 34 511) rfl rfl (any_of HT_.out (by kernel_rfl)) ?_
    refine PYz 9 19 (bz 34 1023) rfl rfl (any_of HT_.out (by kernel_rfl)) ?_
    refine PYz 10 20 (bz 34 2047) rfl rfl (any_of HT_.out (by kernel_rfl)) ?_
    refine PYz 11 21 (bz 34 4095) rfl rfl (any_of HT_.out (by kernel_rfl)) ?_
    refine PYz 12 22 (bz 34 8191) rfl rfl (any_of HT_.out (by kernel_rfl)) ?_
    refine PYz 13 23 (bz 34 16383) rfl rfl (any_of HT_.out (by kernel_rfl)) ?_
    refine PYz 14 24 (bz 34 32767) rfl rfl (any_of HT_.out (by kernel_rfl)) ?_
    refine PYz 15 25 (bz 34 65535) rfl rfl (any_of HT_.out (by kernel_rfl)) ?_
    refine PYz 17 27 (bz 34 196607) rfl rfl (any_of HT_.out (by kernel_rfl)) ?_
    refine PYz 18 28 (bz 34 458751) rfl rfl (any_of HT_.out (by kernel_rfl)) ?_
    refine PYz 19 29 (bz 34 983039) rfl rfl (any_of HT_.out (by kernel_rfl)) ?_
    refine PYz 20 30 (bz 34 2031615) rfl rfl (any_of HT_.out (by kernel_rfl)) ?_
    refine take_ (i := 16) (N := some 26) (v := ?_) (a' := ?_) (bz 34 2097151) rfl rfl (take_ofW HT_.out HW_.out (by kernel_rfl)) (fun _ _ _ h => h) (Or.inl ⟨by rfl, ?_⟩) hHeld ?_ ?_
    rotate_left
    ·rintro w' ⟨s0, s1, s2, s3, s4, s5, s6, s7⟩
     go_simp
     with_reducible rfl
    rotate_left
    ·simp only [PUz]
     rfl
    refine take_ (i := 21) (N := some 31) (v := ?_) (a' := ?_) (bz 34 4194303) rfl rfl (take_ofW HT_.out HW_.out (by kernel_rfl)) (fun _ _ _ h => h) (Or.inl ⟨by rfl, ?_⟩) hHeld ?_ ?_
    rotate_left
    ·rintro w' ⟨s0, s1, s2, s3, s4, s5, s6, s7⟩
     go_simp
     with_reducible rfl
    rotate_left
    ·simp only [PUz]
     rfl
    refine PYz 22 32 (bz 34 8388607) rfl rfl (any_of HT_.out (by kernel_rfl)) ?_
    refine PYz 23 33 (bz 34 16777215) rfl rfl (any_of HT_.out (by kernel_rfl)) ?_
    refine PYz 24 34 (bz 34 33554431) rfl rfl (any_of HT_.out (by kernel_rfl)) ?_
    refine PYz 25 35 (bz 34 67108863) rfl rfl (any_of HT_.out (by kernel_rfl)) ?_
    refine PYz 26 36 (bz 34 134217727) rfl rfl (any_of HT_.out (by kernel_rfl)) ?_
    refine PYz 27 37 (bz 34 268435455) rfl rfl (any_of HT_.out (by kernel_rfl)) ?_
    refine PYz 28 38 (bz 34 536870911) rfl rfl (any_of HT_.out (by kernel_rfl)) ?_
    refine PYz 29 39 (bz 34 1073741823) rfl rfl (any_of HT_.out (by kernel_rfl)) ?_
    refine take_ (i := 30) (N := some 40) (v := ?_) (a' := ?_) (bz 34 2147483647) rfl rfl (take_ofW HT_.out HW_.out (by kernel_rfl)) (fun _ _ _ h => h) (Or.inl ⟨by rfl, ?_⟩) hHeld ?_ ?_
    rotate_left
    ·rintro w' ⟨s0, s1, s2, s3, s4, s5, s6, s7⟩
     go_simp
     with_reducible rfl
    rotate_left
    ·simp only [PUz]
     rfl
    refine one_ (i := 31) (N := some 41) (bz 34 4294967295) rfl rfl (one_of HT_.out (by kernel_rfl)) (by decide) (fun K hK => ?_)
    refine goes_ Tryd.func155 (by kernel_rfl) rfl #[.slice A223_1 ((rd_T111 l0 x3_1).f1).length c223_1] (by rfl) rfl rfl MPz ?_
    with_reducible refine (spec_l03Values.calls k1 _ _ ((rd_T111 l0 x3_1).f1) false _ ?side1 ?side2 A11.out).mono ?_
    (case side1 => repeat (first | exact (Kd.C_below HR227_1.out HBa) | (with_reducible refine Kd.C_alloc ?_ _) | (with_reducible refine Kd.C_drewN ?_ _) | (with_reducible refine Kd.C_drew ?_)))
    (case side2 => exact HC227_1.out)
    rintro e w16 ⟨rfl, hb⟩
    refine ⟨_, rfl, ?_⟩
    have n0_ := Aside0.mk (below_step HBa hb)
    clear HB
    have HB := n0_
    clear n0_
    (try clear hb)
    (try clear hb2)
    (try clear hk)
    (try clear hi)
    refine hK.out _ _ ⟨(HXz HB hw223_0 :), (HXz HB hw223_1 :), (HXz HB hw225_0 :), (HXz HB hw225_1 :), (HXz HB hw226_0 :), (HXz HB hw226_1 :), (HXz HB hw227_0 :), (HXz HB hw227_1 :)⟩ (fun hHeld => ?_)
    clear hK K
    refine norm_ (a' := ?_) ?_ ?_
    rotate_left
    ·show Act.put _ (some 41) _ = _
     simp only [PUz]
     rfl
    refine PYz 32 42 (bz 34 8589934591) rfl rfl (any_of HT_.out (by kernel_rfl)) ?_
    refine PYz 33 43 (bz 34 17179869183) rfl rfl (any_of HT_.out (by kernel_rfl)) ?_
    refine done_ (done_of HT_.out (by kernel_rfl)) ?_
    try go_wp2
    go_ret
    exact ⟨by first | rfl | (simp only [bne_nil_, beq_nil_]; rfl) | (simp [errW_none, errW_some] <;> rfl) | (simp only [← hji7]; first | rfl | (simp [errW_none, errW_some] <;> rfl)) | (simp [*, errW_none, errW_some] <;> rfl), HBa⟩
   subst c12
   have H1 : (spec_l03Attrs.l0 k1 l0 (wrap64 (x3_1 + 1))) = some r := by rw [if_pos rfl] at H; exact H
   clear H
   have H := H1
   clear H1
   have H' := Aside0.mk H
   clear H
   try go_wp2
   have n0_ := Aside0.mk (below_drew1 HB.out)
   clear HB
   have HB := n0_
   clear n0_
   have p223 : 0 ≤ (x3_1 : Int) := ODz
   have q223 : x3_1 < (l0.length : Int) := ODz
   obtain ⟨ad223, A223_1, c223_1, e223, hx223_0, hx223_1, hl223_1, hi223_1⟩ := at_T111 HR0.out x3_1 p223 q223
   have hw223_1 := hx223_1
   have hw223_0 := hx223_0
   cases e223
   replace hx223_0 := HXz HB hx223_0
   replace hx223_1 := HXz HB hx223_1
   have HR223_1 := Aside0.mk hi223_1
   have HC223_1 := Aside0.mk hl223_1
   clear hi223_1 hl223_1
   replace p223 := eq_true p223
   replace q223 := eq_true q223
   have p225 : 0 ≤ ((ji7) : Int) := ODz
   have q225 : (ji7) < (l0.length : Int) := ODz
   obtain ⟨ad225, A225_1, c225_1, e225, hx225_0, hx225_1, hl225_1, hi225_1⟩ := at_T111 HR0.out (ji7) p225 q225
   have hw225_1 := hx225_1
   have hw225_0 := hx225_0
   obtain rfl : ad223 = ad225 := (by injection e225)
   replace hx225_0 := HXz HB hx225_0
   replace hx225_1 := HXz HB hx225_1
   have HR225_1 := Aside0.mk hi225_1
   have HC225_1 := Aside0.mk hl225_1
   clear hi225_1 hl225_1
   replace p225 := eq_true p225
   replace q225 := eq_true q225
   have p226 : 0 ≤ (x3_1 : Int) := ODz
   have q226 : x3_1 < (l0.length : Int) := ODz
   obtain ⟨ad226, A226_1, c226_1, e226, hx226_0, hx226_1, hl226_1, hi226_1⟩ := at_T111 HR0.out x3_1 p226 q226
   have hw226_1 := hx226_1
   have hw226_0 := hx226_0
   obtain rfl : ad223 = ad226 := (by injection e226)
   replace hx226_0 := HXz HB hx226_0
   replace hx226_1 := HXz HB hx226_1
   have HR226_1 := Aside0.mk hi226_1
   have HC226_1 := Aside0.mk hl226_1
   clear hi226_1 hl226_1
   replace p226 := eq_true p226
   replace q226 := eq_true q226
   have ea_ := Option.some.inj (hx223_1.symm.trans hx226_1)
   injection ea_ with ea_ en_ ec_
   subst ea_
   subst ec_
   clear en_
   have p227 : 0 ≤ (x3_1 : Int) := ODz
   have q227 : x3_1 < (l0.length : Int) := ODz
   obtain ⟨ad227, A227_1, c227_1, e227, hx227_0, hx227_1, hl227_1, hi227_1⟩ := at_T111 HR0.out x3_1 p227 q227
   have hw227_1 := hx227_1
   have hw227_0 := hx227_0
   obtain rfl : ad223 = ad227 := (by injection e227)
   replace hx227_0 := HXz HB hx227_0
   replace hx227_1 := HXz HB hx227_1
   have HR227_1 := Aside0.mk hi227_1
   have HC227_1 := Aside0.mk hl227_1
   clear hi227_1 hl227_1
   replace p227 := eq_true p227
   replace q227 := eq_true q227
   have ea_ := Option.some.inj (hx223_1.symm.trans hx227_1)
   injection ea_ with ea_ en_ ec_
   subst ea_
   subst ec_
   clear en_
   refine start_ (n := 34) (S := fun w' => w'.cell? (ad223.add ((x3_1).toNat * 2)) = some (.string ((rd_T111 l0 x3_1).f0)) ∧ w'.cell? ⟨(ad223.add ((x3_1).toNat * 2)).block, (ad223.add ((x3_1).toNat * 2)).off + 1, none⟩ = some (.slice A223_1 ((rd_T111 l0 x3_1).f1).length c223_1) ∧ w'.cell? (ad223.add (((ji7)).toNat * 2)) = some (.string ((rd_T111 l0 (ji7)).f0)) ∧ w'.cell? ⟨(ad223.add (((ji7)).toNat * 2)).block, (ad223.add (((ji7)).toNat * 2)).off + 1, none⟩ = some (.slice A225_1 ((rd_T111 l0 (ji7)).f1).length c225_1) ∧ w'.cell? (ad223.add ((x3_1).toNat * 2)) = some (.string ((rd_T111 l0 x3_1).f0)) ∧ w'.cell? ⟨(ad223.add ((x3_1).toNat * 2)).block, (ad223.add ((x3_1).toNat * 2)).off + 1, none⟩ = some (.slice A223_1 ((rd_T111 l0 x3_1).f1).length c223_1) ∧ w'.cell? (ad223.add ((x3_1).toNat * 2)) = some (.string ((rd_T111 l0 x3_1).f0)) ∧ w'.cell? ⟨(ad223.add ((x3_1).toNat * 2)).block, (ad223.add ((x3_1).toNat * 2)).off + 1, none⟩ = some (.slice A223_1 ((rd_T111 l0 x3_1).f1).length c223_1)) (ds := []) (bz 34 0) (by kernel_rfl) rfl (by kernel_rfl) ⟨(HXz HB hw223_0 :), (HXz HB hw223_1 :), (HXz HB hw225_0 :), (HXz HB hw225_1 :), (HXz HB hw226_0 :), (HXz HB hw226_1 :), (HXz HB hw227_0 :), (HXz HB hw227_1 :)⟩ (fun hHeld => ?_); refine with_tabW spec_l03Attrs.tab4 spec_l03Attrs.bits4 (fun HT_ HW_ => ?_)
   generalize wr.drew = w13 at HB HR223_1 HR225_1 HR226_1 HR227_1 hx223_0 hx223_1 hx225_0 hx225_1 hx226_0 hx226_1 hx227_0 hx227_1 hHeld ⊢
   refine PYz 0 10 (bz 34 1) rfl rfl (any_of HT_.out (by kernel_rfl)) ?_
   refine PYz 1 11 (bz 34 3) rfl rfl (any_of HT_.out (by kernel_rfl)) ?_
   refine PYz 2 12 (bz 34 7) rfl rfl (any_of HT_.out (by kernel_rfl)) ?_
   refine PYz 3 13 (bz 34 15) rfl rfl (any_of HT_.out (by kernel_rfl)) ?_
   refine take_ (i := 4) (N := some 14) (v := ?_) (a' := ?_) (bz 34 31) rfl rfl (take_ofW HT_.out HW_.out (by kernel_rfl)) (fun _ _ _ h => h) (Or.inl ⟨by rfl, ?_⟩) hHeld ?_ ?_
   rotate_left
   ·rintro w' ⟨s0, s1, s2, s3, s4, s5, s6, s7⟩
    go_simp
    with_reducible rfl
   rotate_left
   ·simp only [PUz]
    rfl
   refine one_ (i := 5) (N := some 15) (bz 34 63) rfl rfl (one_of HT_.out (by kernel_rfl)) (by decide) (fun K hK => ?_)
   refine goes_ Tryd.func43 (by kernel_rfl) rfl #[.string ((rd_T111 l0 x3_1).f0)] (by rfl) rfl rfl MPz ?_
   with_reducible refine (spec_NameRight.calls k1 ((rd_T111 l0 x3_1).f0) true _ A4.out).mono ?_
   rintro e w' ⟨rfl, ⟨nd, rfl⟩⟩
   refine ⟨_, rfl, ?_⟩
   refine hK.out _ _ ⟨(HXz HB hw223_0 :), (HXz HB hw223_1 :), (HXz HB hw225_0 :), (HXz HB hw225_1 :), (HXz HB hw226_0 :), (HXz HB hw226_1 :), (HXz HB hw227_0 :), (HXz HB hw227_1 :)⟩ (fun hHeld => ?_)
   clear hK K
   refine norm_ (a' := ?_) ?_ ?_
   rotate_left
   ·show Act.put _ (some 15) _ = _
    simp only [PUz]
    rfl
   refine PYz 6 16 (bz 34 127) rfl rfl (any_of HT_.out (by kernel_rfl)) ?_
   refine PYz 7 17 (bz 34 255) rfl rfl (any_of HT_.out (by kernel_rfl)) ?_
   refine PYz 8 18 (bz 34 511) rfl rfl (any_of HT_.out (by kernel_rfl)) ?_
   refine PYz 9 19 (bz 34 1023) rfl rfl (any_of HT_.out (by kernel_rfl)) ?_
   refine PYz 10 20 (bz 34 2047) rfl rfl (any_of HT_.out (by kernel_rfl)) ?_
   refine PYz 11 21 (bz 34 4095) rfl rfl (any_of HT_.out (by kernel_rfl)) ?_
   refine PYz 12 22 (bz 34 8191) rfl rfl (any_of HT_.out (by kernel_rfl)) ?_
   refine PYz 13 23 (bz 34 16383) rfl rfl (any_of HT_.out (by kernel_rfl)) ?_
   refine PYz 14 24 (bz 34 32767) rfl rfl (any_of HT_.out (by kernel_rfl)) ?_
   refine PYz 15 25 (bz 34 65535) rfl rfl (any_of HT_.out (by kernel_rfl)) ?_
   refine PYz 17 27 (bz 34 196607) rfl rfl (any_of HT_.out (by kernel_rfl)) ?_
   refine PYz 18 28 (bz 34 458751) rfl rfl (any_of HT_.out (by kernel_rfl)) ?_
   refine PYz 19 29 (bz 34 983039) rfl rfl (any_of HT_.out (by kernel_rfl)) ?_
   refine PYz 20 30 (bz 34 2031615) rfl rfl (any_of HT_.out (by kernel_rfl)) ?_
   refine take_ (i := 16) (N := some 26) (v := ?_) (a' := ?_) (bz 34 2097151) rfl rfl (take_ofW HT_.out HW_.out (by kernel_rfl)) (fun _ _ _ h => h) (Or.inl ⟨by rfl, ?_⟩) hHeld ?_ ?_
   rotate_left
   ·rintro w' ⟨s0, s1, s2, s3, s4, s5, s6, s7⟩
    go_simp
    with_reducible rfl
   rotate_left
   ·simp only [PUz]
    rfl
   refine take_ (i := 21) (N := some 31) (v := ?_) (a' := ?_) (bz 34 4194303) rfl rfl (take_ofW HT_.out HW_.out (by kernel_rfl)) (fun _ _ _ h => h) (Or.inl ⟨by rfl, ?_⟩) hHeld ?_ ?_
   rotate_left
   ·rintro w' ⟨s0, s1, s2, s3, s4, s5, s6, s7⟩
    go_simp
    with_reducible rfl
   rotate_left
   ·simp only [PUz]
    rfl
   refine PYz 22 32 (bz 34 8388607) rfl rfl (any_of HT_.out (by kernel_rfl)) ?_
   refine PYz 23 33 (bz 34 16777215) rfl rfl (any_of HT_.out (by kernel_rfl)) ?_
   refine PYz 24 34 (bz 34 33554431) rfl rfl (any_of HT_.out (by kernel_rfl)) ?_
   refine PYz 25 35 (bz 34 67108863) rfl rfl (any_of HT_.out (by kernel_rfl)) ?_
   refine PYz 26 36 (bz 34 134217727) rfl rfl (any_of HT_.out (by kernel_rfl)) ?_
   refine PYz 27 37 (bz 34 268435455) rfl rfl (any_of HT_.out (by kernel_rfl)) ?_
   refine PYz 28 38 (bz 34 536870911) rfl rfl (any_of HT_.out (by kernel_rfl)) ?_
   refine PYz 29 39 (bz 34 1073741823) rfl rfl (any_of HT_.out (by kernel_rfl)) ?_
   refine take_ (i := 30) (N := some 40) (v := ?_) (a' := ?_) (bz 34 2147483647) rfl rfl (take_ofW HT_.out HW_.out (by kernel_rfl)) (fun _ _ _ h => h) (Or.inl ⟨by rfl, ?_⟩) hHeld ?_ ?_
   rotate_left
   ·rintro w' ⟨s0, s1, s2, s3, s4, s5, s6, s7⟩
    go_simp
    with_reducible rfl
   rotate_left
   ·simp only [PUz]
    rfl
   refine one_ (i := 31) (N := some 41) (bz 34 4294967295) rfl rfl (one_of HT_.out (by kernel_rfl)) (by decide) (fun K hK => ?_)
   refine goes_ Tryd.func155 (by kernel_rfl) rfl #[.slice A223_1 ((rd_T111 l0 x3_1).f1).length c223_1] (by rfl) rfl rfl MPz ?_
   with_reducible refine (spec_l03Values.calls k1 _ _ ((rd_T111 l0 x3_1).f1) true _ ?side1 ?side2 A11.out).mono ?_
   (case side1 => repeat (first | exact (Kd.C_below HR227_1.out HBa) | (with_reducible refine Kd.C_alloc ?_ _) | (with_reducible refine Kd.C_drewN ?_ _) | (with_reducible refine Kd.C_drew ?_)))
   (case side2 => exact HC227_1.out)
   rintro e w14 ⟨rfl, hb⟩
   refine ⟨_, rfl, ?_⟩
   have n0_ := Aside0.mk (below_step HBa hb)
   clear HB
   have HB := n0_
   clear n0_
   (try clear hb)
   (try clear hb2)
   (try clear hk)
   (try clear hi)
   refine hK.out _ _ ⟨(HXz HB hw223_0 :), (HXz HB hw223_1 :), (HXz HB hw225_0 :), (HXz HB hw225_1 :), (HXz HB hw226_0 :), (HXz HB hw226_1 :), (HXz HB hw227_0 :), (HXz HB hw227_1 :)⟩ (fun hHeld => ?_)
   clear hK K
   refine norm_ (a' := ?_) ?_ ?_
   rotate_left
   ·show Act.put _ (some 41) _ = _
    simp only [PUz]
    rfl
   refine PYz 32 42 (bz 34 8589934591) rfl rfl (any_of HT_.out (by kernel_rfl)) ?_
   refine PYz 33 43 (bz 34 17179869183) rfl rfl (any_of HT_.out (by kernel_rfl)) ?_
   refine done_ (done_of HT_.out (by kernel_rfl)) ?_
   try go_wp2
   go_roundg k1
   case measure => have := HK1.out; omega
   case rel => exact ⟨(wrap64 (x3_1 + 1)), EZc, H', ⟨by have := HK1.out; omega⟩, ⟨HBa⟩⟩
end Go.Proofs.YtgkjlfimjnhbbaaDoor.PFnExactChangesRight
