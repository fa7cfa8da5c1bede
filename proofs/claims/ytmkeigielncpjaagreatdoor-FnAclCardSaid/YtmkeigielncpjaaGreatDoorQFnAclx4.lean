import Derived.Test.YtmkeigielncpjaaGreatDoorQFnAclx0
import Derived.Test.YtmkeigielncpjaaGreatDoorQFnAclx3
namespace Go.Proofs.YtmkeigielncpjaaGreatDoor.PFnAcl
open Go.RowKit Go.Proofs.YtmkeigielncpjaaGreatDoorW.PrintWords Go.Proofs.YtmkeigielncpjaaGreatDoorW.PrintLast Go.Proofs.YtmkeigielncpjaaGreatDoorW.PrintMore
set_option maxRecDepth 100000
set_option maxHeartbeats 16000000
attribute [local go_sem] max2_int min2_int max_two min_two max_three min_three max_four min_four
set_option linter.unusedVariables false
set_option linter.unusedSimpArgs false
def Vc.l0 : Nat → List (S117) → Int → Option (Bool)
 | 0, _, _ => none
 | k + 1, x0, x3 => if x3 < (x0.length : Int) then (if 0 ≤ x3 then ((Qq.f k ((rd_T117 x0 x3).f0)).bind fun t172 => (if t172 = true then (if x3 > 0 then (if 0 ≤ (wrap64 (x3 - 1)) then (if (wrap64 (x3 - 1)) < (x0.length : Int) then (if ((Op.bytesLess (((rd_T117 x0 (wrap64 (x3 - 1))).f0).toList) (((rd_T117 x0 x3).f0).toList)) = true) then ((Vh.f k ((rd_T117 x0 x3).f1)).bind fun t176 => (if t176 = true then (Vc.l0 k x0 (wrap64 (x3 + 1))) else (some false))) else (some false)) else (none)) else (none)) else ((Vh.f k ((rd_T117 x0 x3).f1)).bind fun t178 => (if t178 = true then (Vc.l0 k x0 (wrap64 (x3 + 1))) else (some false)))) else (some false))) else (none)) else (some (decide ((x0.length : Int) ≤ 8)))
def Vc.f (k : Nat) (l0 : List (S117)) : Option (Bool) := Vc.l0 k l0 0
theorem Vc.mono_l : ∀ k, (∀ y0 y1, LeO (Vc.l0 k y0 y1) (Vc.l0 (k + 1) y0 y1))
 | 0 => fun _ _ r h => by simp [Vc.l0] at h
 | k + 1 => by
  have ih0 := Vc.mono_l k
  ·intro y0 y1
   unfold Vc.l0
   with_reducible repeat' first | exact ih0 _ _ | exact Qq.mono _ _ | exact Vh.mono _ _ | exact LeO.refl _ | exact LeO.none _ | refine LeO.ite ?_ ?_ | refine LeO.bind ?_ (fun _ => ?_)
theorem Vc.mono : ∀ a0 k, LeO (Vc.f k a0) (Vc.f (k + 1) a0) := by
 intro a0 k
 have ih0 := Vc.mono_l k
 unfold Vc.f
 with_reducible repeat' first | exact ih0 _ _ | exact Qq.mono _ _ | exact Vh.mono _ _ | exact LeO.refl _ | exact LeO.none _ | refine LeO.ite ?_ ?_ | refine LeO.bind ?_ (fun _ => ?_)
def Vc.T4 : Bool × List (List Nat × List Nat) := (true, [([], []), ([], []), ([0, 1], [0, 1]), ([2], [2]), ([3], [3]), ([4], [4]), ([5], [5]), ([6, 5], [6]), ([7], [7]), ([8, 7], [7, 8]), ([9, 7, 7], [7, 9]), ([10], [10]), ([10], [10]), ([12, 10], [10, 12]), ([11, 13, 10], [10, 11, 13]), ([14, 10], [10, 14]), ([15, 10], [10, 15]), ([10], [10]), ([10], [10]), ([17, 18, 10], [10, 17, 18]), ([19, 10], [10, 19]), ([20, 10], [10, 20]), ([16, 21, 10], [10, 16, 21]), ([10, 22, 7], [7, 10, 22]), ([7, 23], [7, 23]), ([24, 10], [24]), ([25], [25]), ([25], [25]), ([26, 27, 25], [25, 26, 27]), ([28, 25], [25, 28]), ([29, 25], [25, 29]), ([30, 25, 25], [25, 30]), ([31, 25], [25, 31]), ([25, 32], [25, 32])])
def Vc.B4 : List Nat := [0, 0, 3, 7, 15, 31, 63, 127, 255, 511, 1023, 2047, 2047, 6143, 16383, 32767, 65535, 2047, 2047, 395263, 919551, 1968127, 4194303, 8388607, 16777215, 33554431, 67108863, 67108863, 268435455, 536870911, 1073741823, 2147483647, 4294967295, 8589934591]
theorem Vc.tab4 : rtab .any (opsOf Tryz.f109 4) = Vc.T4 := by kernel_rfl
theorem Vc.bits4 : waitsOk Vc.T4.2 Vc.B4 = true := by kernel_rfl
theorem Vc.calls (k : Nat) (A0 : Option Addr) (c0 : Nat) (l0 : List (S117)) (r : Bool) (w : World) (hr0 : Kd.C k117 w A0 l0.length l0) (hc0 : l0.length ≤ c0) (h : Vc.f k l0 = some r) :
  Calls Tryz.prog 109 #[.slice A0 l0.length c0] w fun e w' => e = .returned (.bool r) ∧ Below w.heap.size w w' := by
 have HR0 := Aside0.mk hr0
 have HC0 := Aside0.mk hc0
 clear hr0 hc0
 have HB := Aside0.mk (Below.refl w.heap.size w)
 have H : (Vc.l0 k l0 0) = some r := h
 clear h
 have H' := Aside0.mk H
 clear H
 go_enter Tryz.func109, Tryz.ntmps109
 go_wp2
 go_loopg [3] k (fun kq v3 w' => ∃ (x3_1 : Int), v3 = .int .i64 x3_1 ∧ Aside0 (Vc.l0 kq l0 x3_1 = some r) ∧ Aside0 (kq ≤ k) ∧ Aside0 (Below w.heap.size w w'))
 case atStart => exact ⟨(0), EZc, H', ⟨Nat.le_refl _⟩, ⟨HBa⟩⟩
 case round =>
  clear H'
  obtain ⟨x3_1, rfl, HA, HK1, HB⟩ := hrel
  cases gk with
  | zero => exact absurd HA.out (by simp [Vc.l0])
  | succ k1 =>
   have H := HA.out
   clear HA
   simp only [Vc.l0] at H
   by_cases c2 : x3_1 < (l0.length : Int)
   rotate_left
   ·rw [if_neg c2] at H
    have c2b0 := decide_eq_false c2
    clear c2
    obtain rfl := Option.some.inj H
    clear H
    go_wp2
    go_ret
    exact ⟨EZa, HBa⟩
   rw [if_pos c2] at H
   have c2b0 := decide_eq_true c2
   clear c2
   by_cases c3 : 0 ≤ x3_1
   rotate_left
   ·rw [if_neg c3] at H
    exact absurd H (by simp)
   rw [if_pos c3] at H
   have c3b0 := decide_eq_true c3
   clear c3
   replace H := Option.bind_eq_some_iff.mp H
   obtain ⟨t172, A40, H⟩ := H
   replace H : (if t172 = true then (if x3_1 > 0 then (if 0 ≤ (wrap64 (x3_1 - 1)) then (if (wrap64 (x3_1 - 1)) < (l0.length : Int) then (if ((Op.bytesLess (((rd_T117 l0 (wrap64 (x3_1 - 1))).f0).toList) (((rd_T117 l0 x3_1).f0).toList)) = true) then ((Vh.f k1 ((rd_T117 l0 x3_1).f1)).bind fun t176 => (if t176 = true then (Vc.l0 k1 l0 (wrap64 (x3_1 + 1))) else (some false))) else (some false)) else (none)) else (none)) else ((Vh.f k1 ((rd_T117 l0 x3_1).f1)).bind fun t178 => (if t178 = true then (Vc.l0 k1 l0 (wrap64 (x3_1 + 1))) else (some false)))) else (some false)) = some r := H
   have A4 := Aside0.mk A40
   clear A40
   by_cases c5 : t172 = true
   rotate_left
   ·replace c5 := Bool.eq_false_iff.mpr c5
    subst c5
    have H1 : (some false) = some r := by rw [if_neg (show ¬ (false = true) by decide)] at H; exact H
    clear H
    have H := H1
    clear H1
    obtain rfl := Option.some.inj H
    clear H
    try go_wp2
    have n0_ := Aside0.mk (below_drew1 HB.out)
    clear HB
    have HB := n0_
    clear n0_
    have p171 : 0 ≤ (x3_1 : Int) := ODz
    have q171 : x3_1 < (l0.length : Int) := ODz
    obtain ⟨ad171, A171_1, c171_1, e171, hx171_0, hx171_1, hl171_1, hi171_1⟩ := at_T117 HR0.out x3_1 p171 q171
    have hw171_1 := hx171_1
    have hw171_0 := hx171_0
    cases e171
    replace hx171_0 := HXz HB hx171_0
    replace hx171_1 := HXz HB hx171_1
    have HR171_1 := Aside0.mk hi171_1
    have HC171_1 := Aside0.mk hl171_1
    clear hi171_1 hl171_1
    replace p171 := eq_true p171
    replace q171 := eq_true q171
    refine start_ (n := 34) (S := fun w' => w'.cell? (ad171.add ((x3_1).toNat * 2)) = some (.string ((rd_T117 l0 x3_1).f0)) ∧ w'.cell? ⟨(ad171.add ((x3_1).toNat * 2)).block, (ad171.add ((x3_1).toNat * 2)).off + 1, none⟩ = some (.slice A171_1 ((rd_T117 l0 x3_1).f1).length c171_1)) (ds := []) (bz 34 0) (by kernel_rfl) rfl (by kernel_rfl) ⟨(HXz HB hw171_0 :), (HXz HB hw171_1 :)⟩ (fun hHeld => ?_); refine with_tabW Vc.tab4 Vc.bits4 (fun HT_ HW_ => ?_)
    generalize wr.drew = w24 at HB HR171_1 hx171_0 hx171_1 hHeld ⊢
    refine PYz 0 10 (bz 34 1) rfl rfl (any_of HT_.out (by kernel_rfl)) ?_
    refine PYz 1 11 (bz 34 3) rfl rfl (any_of HT_.out (by kernel_rfl)) ?_
    refine PYz 2 12 (bz 34 7) rfl rfl (any_of HT_.out (by kernel_rfl)) ?_
    refine PYz 3 13 (bz 34 15) rfl rfl (any_of HT_.out (by kernel_rfl)) ?_
    refine PTz 4 14 (bz 34 31) rfl rfl (take_ofW HT_.out HW_.out (by kernel_rfl)) hHeld ?_
    refine one_ (i := 5) (N := some 15) (bz 34 63) rfl rfl (one_of HT_.out (by kernel_rfl)) (by decide) (fun K hK => ?_)
    refine goes_ Tryz.func36 (by kernel_rfl) rfl #[.string ((rd_T117 l0 x3_1).f0)] (by rfl) rfl rfl MPz ?_
    with_reducible refine (Qq.calls k1 ((rd_T117 l0 x3_1).f0) false _ A4.out).mono ?_
    rintro e w' ⟨rfl, ⟨nd, rfl⟩⟩
    refine ⟨_, rfl, ?_⟩
    refine hK.out _ _ ⟨(HXz HB hw171_0 :), (HXz HB hw171_1 :)⟩ (fun hHeld => ?_)
    clear hK K
    refine norm_ (a' := ?_) ?_ ?_
    rotate_left
    ·show Act.put _ (some 15) _ = _
     simp only [PUz]
     rfl
    refine PYz 6 16 (bz 34 127) rfl rfl (any_of HT_.out (by kernel_rfl)) ?_
    refine PYz 7 17 (bz 34 255) rfl rfl (any_of HT_.out (by kernel_rfl)) ?_
    refine PXz 8 18 (bz 34 511) rfl rfl (any_of HT_.out (by kernel_rfl)) ?_
    refine PXz 9 19 (bz 34 1023) rfl rfl (any_of HT_.out (by kernel_rfl)) ?_
    refine PXz 10 20 (bz 34 2047) rfl rfl (any_of HT_.out (by kernel_rfl)) ?_
    refine PXz 11 21 (bz 34 4095) rfl rfl (any_of HT_.out (by kernel_rfl)) ?_
    refine PXz 12 22 (bz 34 8191) rfl rfl (any_of HT_.out (by kernel_rfl)) ?_
    refine PXz 13 23 (bz 34 16383) rfl rfl (any_of HT_.out (by kernel_rfl)) ?_
    refine PXz 14 24 (bz 34 32767) rfl rfl (any_of HT_.out (by kernel_rfl)) ?_
    refine PXz 15 25 (bz 34 65535) rfl rfl (any_of HT_.out (by kernel_rfl)) ?_
    refine PXz 16 26 (bz 34 131071) rfl rfl (any_of HT_.out (by kernel_rfl)) ?_
    refine PXz 17 27 (bz 34 262143) rfl rfl (any_of HT_.out (by kernel_rfl)) ?_
    refine PXz 18 28 (bz 34 524287) rfl rfl (any_of HT_.out (by kernel_rfl)) ?_
    refine PXz 19 29 (bz 34 1048575) rfl rfl (any_of HT_.out (by kernel_rfl)) ?_
    refine PXz 20 30 (bz 34 2097151) rfl rfl (any_of HT_.out (by kernel_rfl)) ?_
    refine PXz 21 31 (bz 34 4194303) rfl rfl (any_of HT_.out (by kernel_rfl)) ?_
    refine PXz 22 32 (bz 34 8388607) rfl rfl (any_of HT_.out (by kernel_rfl)) ?_
    refine PXz 23 33 (bz 34 16777215) rfl rfl (any_of HT_.out (by kernel_rfl)) ?_
    refine PYz 24 34 (bz 34 33554431) rfl rfl (any_of HT_.out (by kernel_rfl)) ?_
    refine PYz 25 35 (bz 34 67108863) rfl rfl (any_of HT_.out (by kernel_rfl)) ?_
    refine PXz 26 36 (bz 34 134217727) rfl rfl (any_of HT_.out (by kernel_rfl)) ?_
    refine PXz 27 37 (bz 34 268435455) rfl rfl (any_of HT_.out (by kernel_rfl)) ?_
    refine PXz 28 38 (bz 34 536870911) rfl rfl (any_of HT_.out (by kernel_rfl)) ?_
    refine PXz 29 39 (bz 34 1073741823) rfl rfl (any_of HT_.out (by kernel_rfl)) ?_
    refine PXz 30 40 (bz 34 2147483647) rfl rfl (any_of HT_.out (by kernel_rfl)) ?_
    refine PXz 31 41 (bz 34 4294967295) rfl rfl (any_of HT_.out (by kernel_rfl)) ?_
    refine PXz 32 42 (bz 34 8589934591) rfl rfl (any_of HT_.out (by kernel_rfl)) ?_
    refine PYz 33 43 (bz 34 17179869183) rfl rfl (any_of HT_.out (by kernel_rfl)) ?_
    refine done_ (done_of HT_.out (by kernel_rfl)) ?_
    try go_wp2
    go_ret
    exact ⟨EZa, HBa⟩
   subst c5
   have H1 : (if x3_1 > 0 then (if 0 ≤ (wrap64 (x3_1 - 1)) then (if (wrap64 (x3_1 - 1)) < (l0.length : Int) then (if ((Op.bytesLess (((rd_T117 l0 (wrap64 (x3_1 - 1))).f0).toList) (((rd_T117 l0 x3_1).f0).toList)) = true) then ((Vh.f k1 ((rd_T117 l0 x3_1).f1)).bind fun t176 => (if t176 = true then (Vc.l0 k1 l0 (wrap64 (x3_1 + 1))) else (some false))) else (some false)) else (none)) else (none)) else ((Vh.f k1 ((rd_T117 l0 x3_1).f1)).bind fun t178 => (if t178 = true then (Vc.l0 k1 l0 (wrap64 (x3_1 + 1))) else (some false)))) = some r := by rw [if_pos rfl] at H; exact H
   clear H
   have H := H1
   clear H1
   by_cases c6 : x3_1 > 0
   rotate_left
   ·rw [if_neg c6] at H
    have c6b0 : decide (0 < x3_1) = false := decide_eq_false c6
    clear c6
    replace H := Option.bind_eq_some_iff.mp H
    obtain ⟨t178, A180, H⟩ := H
    replace H : (if t178 = true then (Vc.l0 k1 l0 (wrap64 (x3_1 + 1))) else (some false)) = some r := H
    have A18 := Aside0.mk A180
    clear A180
    by_cases c19 : t178 = true
    ·subst c19
     have H1 : (Vc.l0 k1 l0 (wrap64 (x3_1 + 1))) = some r := by rw [if_pos rfl] at H; exact H
     clear H
     have H := H1
     clear H1
     have H' := Aside0.mk H
     clear H
     try go_wp2
     have n0_ := Aside0.mk (below_drew1 HB.out)
     clear HB
     have HB := n0_
     clear n0_
     have p171 : 0 ≤ (x3_1 : Int) := ODz
     have q171 : x3_1 < (l0.length : Int) := ODz
     obtain ⟨ad171, A171_1, c171_1, e171, hx171_0, hx171_1, hl171_1, hi171_1⟩ := at_T117 HR0.out x3_1 p171 q171
     have hw171_1 := hx171_1
     have hw171_0 := hx171_0
     cases e171
     replace hx171_0 := HXz HB hx171_0
     replace hx171_1 := HXz HB hx171_1
     have HR171_1 := Aside0.mk hi171_1
     have HC171_1 := Aside0.mk hl171_1
     clear hi171_1 hl171_1
     replace p171 := eq_true p171
     replace q171 := eq_true q171
     have p177 : 0 ≤ (x3_1 : Int) := ODz
     have q177 : x3_1 < (l0.length : Int) := ODz
     obtain ⟨ad177, A177_1, c177_1, e177, hx177_0, hx177_1, hl177_1, hi177_1⟩ := at_T117 HR0.out x3_1 p177 q177
     have hw177_1 := hx177_1
     have hw177_0 := hx177_0
     obtain rfl : ad171 = ad177 := (by injection e177)
     replace hx177_0 := HXz HB hx177_0
     replace hx177_1 := HXz HB hx177_1
     have HR177_1 := Aside0.mk hi177_1
     have HC177_1 := Aside0.mk hl177_1
     clear hi177_1 hl177_1
     replace p177 := eq_true p177
     replace q177 := eq_true q177
     have ea_ := Option.some.inj (hx171_1.symm.trans hx177_1)
     injection ea_ with ea_ en_ ec_
     subst ea_
     subst ec_
     clear en_
     refine start_ (n := 34) (S := fun w' => w'.cell? (ad171.add ((x3_1).toNat * 2)) = some (.string ((rd_T117 l0 x3_1).f0)) ∧ w'.cell? ⟨(ad171.add ((x3_1).toNat * 2)).block, (ad171.add ((x3_1).toNat * 2)).off + 1, none⟩ = some (.slice A171_1 ((rd_T117 l0 x3_1).f1).length c171_1) ∧ w'.cell? (ad171.add ((x3_1).toNat * 2)) = some (.string ((rd_T117 l0 x3_1).f0)) ∧ w'.cell? ⟨(ad171.add ((x3_1).toNat * 2)).block, (ad171.add ((x3_1).toNat * 2)).off + 1, none⟩ = some (.slice A171_1 ((rd_T117 l0 x3_1).f1).length c171_1)) (ds := []) (bz 34 0) (by kernel_rfl) rfl (by kernel_rfl) ⟨(HXz HB hw171_0 :), (HXz HB hw171_1 :), (HXz HB hw177_0 :), (HXz HB hw177_1 :)⟩ (fun hHeld => ?_); refine with_tabW Vc.tab4 Vc.bits4 (fun HT_ HW_ => ?_)
     generalize wr.drew = w20 at HB HR171_1 HR177_1 hx171_0 hx171_1 hx177_0 hx177_1 hHeld ⊢
     refine PYz 0 10 (bz 34 1) rfl rfl (any_of HT_.out (by kernel_rfl)) ?_
     refine PYz 1 11 (bz 34 3) rfl rfl (any_of HT_.out (by kernel_rfl)) ?_
     refine PYz 2 12 (bz 34 7) rfl rfl (any_of HT_.out (by kernel_rfl)) ?_
     refine PYz 3 13 (bz 34 15) rfl rfl (any_of HT_.out (by kernel_rfl)) ?_
     refine PTz 4 14 (bz 34 31) rfl rfl (take_ofW HT_.out HW_.out (by kernel_rfl)) hHeld ?_
     refine one_ (i := 5) (N := some 15) (bz 34 63) rfl rfl (one_of HT_.out (by kernel_rfl)) (by decide) (fun K hK => ?_)
     refine goes_ Tryz.func36 (by kernel_rfl) rfl #[.string ((rd_T117 l0 x3_1).f0)] (by rfl) rfl rfl MPz ?_
     with_reducible refine (Qq.calls k1 ((rd_T117 l0 x3_1).f0) true _ A4.out).mono ?_
     rintro e w' ⟨rfl, ⟨nd, rfl⟩⟩
     refine ⟨_, rfl, ?_⟩
     refine hK.out _ _ ⟨(HXz HB hw171_0 :), (HXz HB hw171_1 :), (HXz HB hw177_0 :), (HXz HB hw177_1 :)⟩ (fun hHeld => ?_)
     clear hK K
     refine norm_ (a' := ?_) ?_ ?_
     rotate_left
     ·show Act.put _ (some 15) _ = _
      simp only [PUz]
      rfl
     refine PYz 6 16 (bz 34 127) rfl rfl (any_of HT_.out (by kernel_rfl)) ?_
     refine PYz 7 17 (bz 34 255) rfl rfl (any_of HT_.out (by kernel_rfl)) ?_
     refine PYz 8 18 (bz 34 511) rfl rfl (any_of HT_.out (by kernel_rfl)) ?_
     refine PYz 9 19 (bz 34 1023) rfl rfl (any_of HT_.out (by kernel_rfl)) ?_
     refine PYz 10 20 (bz 34 2047) rfl rfl (any_of HT_.out (by kernel_rfl)) ?_
     refine PXz 11 21 (bz 34 4095) rfl rfl (any_of HT_.out (by kernel_rfl)) ?_
     refine PXz 12 22 (bz 34 8191) rfl rfl (any_of HT_.out (by kernel_rfl)) ?_
     refine PXz 13 23 (bz 34 16383) rfl rfl (any_of HT_.out (by kernel_rfl)) ?_
     refine PXz 14 24 (bz 34 32767) rfl rfl (any_of HT_.out (by kernel_rfl)) ?_
     refine PXz 15 25 (bz 34 65535) rfl rfl (any_of HT_.out (by kernel_rfl)) ?_
     refine PXz 16 26 (bz 34 131071) rfl rfl (any_of HT_.out (by kernel_rfl)) ?_
     refine PXz 17 27 (bz 34 262143) rfl rfl (any_of HT_.out (by kernel_rfl)) ?_
     refine PXz 18 28 (bz 34 524287) rfl rfl (any_of HT_.out (by kernel_rfl)) ?_
     refine PXz 19 29 (bz 34 1048575) rfl rfl (any_of HT_.out (by kernel_rfl)) ?_
     refine PXz 20 30 (bz 34 2097151) rfl rfl (any_of HT_.out (by kernel_rfl)) ?_
     refine PXz 21 31 (bz 34 4194303) rfl rfl (any_of HT_.out (by kernel_rfl)) ?_
     refine PXz 22 32 (bz 34 8388607) rfl rfl (any_of HT_.out (by kernel_rfl)) ?_
     refine PYz 23 33 (bz 34 16777215) rfl rfl (any_of HT_.out (by kernel_rfl)) ?_
     refine PYz 24 34 (bz 34 33554431) rfl rfl (any_of HT_.out (by kernel_rfl)) ?_
     refine PYz 25 35 (bz 34 67108863) rfl rfl (any_of HT_.out (by kernel_rfl)) ?_
     refine PYz 26 36 (bz 34 134217727) rfl rfl (any_of HT_.out (by kernel_rfl)) ?_
     refine PYz 27 37 (bz 34 268435455) rfl rfl (any_of HT_.out (by kernel_rfl)) ?_
     refine PYz 28 38 (bz 34 536870911) rfl rfl (any_of HT_.out (by kernel_rfl)) ?_
     refine PYz 29 39 (bz 34 1073741823) rfl rfl (any_of HT_.out (by kernel_rfl)) ?_
     refine PTz 30 40 (bz 34 2147483647) rfl rfl (take_ofW HT_.out HW_.out (by kernel_rfl)) hHeld ?_
     refine one_ (i := 31) (N := some 41) (bz 34 4294967295) rfl rfl (one_of HT_.out (by kernel_rfl)) (by decide) (fun K hK => ?_)
     refine goes_ Tryz.func145 (by kernel_rfl) rfl #[.slice A171_1 ((rd_T117 l0 x3_1).f1).length c171_1] (by rfl) rfl rfl MPz ?_
     with_reducible refine (Vh.calls k1 _ _ ((rd_T117 l0 x3_1).f1) true _ ?side1 ?side2 A18.out).mono ?_
     (case side1 => repeat (first | exact (Kd.C_below HR177_1.out HBa) | (with_reducible refine Kd.C_alloc ?_ _) | (with_reducible refine Kd.C_drewN ?_ _) | (with_reducible refine Kd.C_drew ?_)))
     (case side2 => exact HC177_1.out)
     rintro e w21 ⟨rfl, hb⟩
     refine ⟨_, rfl, ?_⟩
     have n0_ := Aside0.mk (below_step HBa hb)
     clear HB
     have HB := n0_
     clear n0_
     (try clear hb)
     (try clear hb2)
     (try clear hk)
     (try clear hi)
     refine hK.out _ _ ⟨(HXz HB hw171_0 :), (HXz HB hw171_1 :), (HXz HB hw177_0 :), (HXz HB hw177_1 :)⟩ (fun hHeld => ?_)
     clear hK K
     refine norm_ (a' := ?_) ?_ ?_
     rotate_left
     ·show Act.put _ (some 41) _ = _
      simp only [PUz]
      rfl
     refine PYz 32 42 (bz 34 8589934591) rfl rfl (any_of HT_.out (by kernel_rfl)) ?_
     refine PYz 33 43 (bz 34 17179869183) rfl rfl (any_of HT_.out (by kernel_rfl)) ?_
     refine done_ (done_of HT_.out (by kernel_rfl)) ?_
     try go_wp2
     go_roundg k1
     case measure => have := HK1.out; omega
     case rel => exact ⟨(wrap64 (x3_1 + 1)), EZc, H', ⟨by have := HK1.out; omega⟩, ⟨HBa⟩⟩
    replace c19 := Bool.eq_false_iff.mpr c19
    subst c19
    have H1 : (some false) = some r := by rw [if_neg (show ¬ (false = true) by decide)] at H; exact H
    clear H
    have H := H1
    clear H1
    obtain rfl := Option.some.inj H
    clear H
    try go_wp2
    have n0_ := Aside0.mk (below_drew1 HB.out)
    clear HB
    have HB := n0_
    clear n0_
    have p171 : 0 ≤ (x3_1 : Int) := ODz
    have q171 : x3_1 < (l0.length : Int) := ODz
    obtain ⟨ad171, A171_1, c171_1, e171, hx171_0, hx171_1, hl171_1, hi171_1⟩ := at_T117 HR0.out x3_1 p171 q171
    have hw171_1 := hx171_1
    have hw171_0 := hx171_0
    cases e171
    replace hx171_0 := HXz HB hx171_0
    replace hx171_1 := HXz HB hx171_1
    have HR171_1 := Aside0.mk hi171_1
    have HC171_1 := Aside0.mk hl171_1
    clear hi171_1 hl171_1
    replace p171 := eq_true p171
    replace q171 := eq_true q171
    have p177 : 0 ≤ (x3_1 : Int) := ODz
    have q177 : x3_1 < (l0.length : Int) := ODz
    obtain ⟨ad177, A177_1, c177_1, e177, hx177_0, hx177_1, hl177_1, hi177_1⟩ := at_T117 HR0.out x3_1 p177 q177
    have hw177_1 := hx177_1
    have hw177_0 := hx177_0
    obtain rfl : ad171 = ad177 := (by injection e177)
    replace hx177_0 := HXz HB hx177_0
    replace hx177_1 := HXz HB hx177_1
    have HR177_1 := Aside0.mk hi177_1
    have HC177_1 := Aside0.mk hl177_1
    clear hi177_1 hl177_1
    replace p177 := eq_true p177
    replace q177 := eq_true q177
    have ea_ := Option.some.inj (hx171_1.symm.trans hx177_1)
    injection ea_ with ea_ en_ ec_
    subst ea_
    subst ec_
    clear en_
    refine start_ (n := 34) (S := fun w' => w'.cell? (ad171.add ((x3_1).toNat * 2)) = some (.string ((rd_T117 l0 x3_1).f0)) ∧ w'.cell? ⟨(ad171.add ((x3_1).toNat * 2)).block, (ad171.add ((x3_1).toNat * 2)).off + 1, none⟩ = some (.slice A171_1 ((rd_T117 l0 x3_1).f1).length c171_1) ∧ w'.cell? (ad171.add ((x3_1).toNat * 2)) = some (.string ((rd_T117 l0 x3_1).f0)) ∧ w'.cell? ⟨(ad171.add ((x3_1).toNat * 2)).block, (ad171.add ((x3_1).toNat * 2)).off + 1, none⟩ = some (.slice A171_1 ((rd_T117 l0 x3_1).f1).length c171_1)) (ds := []) (bz 34 0) (by kernel_rfl) rfl (by kernel_rfl) ⟨(HXz HB hw171_0 :), (HXz HB hw171_1 :), (HXz HB hw177_0 :), (HXz HB hw177_1 :)⟩ (fun hHeld => ?_); refine with_tabW Vc.tab4 Vc.bits4 (fun HT_ HW_ => ?_)
    generalize wr.drew = w22 at HB HR171_1 HR177_1 hx171_0 hx171_1 hx177_0 hx177_1 hHeld ⊢
    refine PYz 0 10 (bz 34 1) rfl rfl (any_of HT_.out (by kernel_rfl)) ?_
    refine PYz 1 11 (bz 34 3) rfl rfl (any_of HT_.out (by kernel_rfl)) ?_
    refine PYz 2 12 (bz 34 7) rfl rfl (any_of HT_.out (by kernel_rfl)) ?_
    refine PYz 3 13 (bz 34 15) rfl rfl (any_of HT_.out (by kernel_rfl)) ?_
    refine PTz 4 14 (bz 34 31) rfl rfl (take_ofW HT_.out HW_.out (by kernel_rfl)) hHeld ?_
    refine one_ (i := 5) (N := some 15) (bz 34 63) rfl rfl (one_of HT_.out (by kernel_rfl)) (by decide) (fun K hK => ?_)
    refine goes_ Tryz.func36 (by kernel_rfl) rfl #[.string ((rd_T117 l0 x3_1).f0)] (by rfl) rfl rfl MPz ?_
    with_reducible refine (Qq.calls k1 ((rd_T117 l0 x3_1).f0) true _ A4.out).mono ?_
    rintro e w' ⟨rfl, ⟨nd, rfl⟩⟩
    refine ⟨_, rfl, ?_⟩
    refine hK.out _ _ ⟨(HXz HB hw171_0 :), (HXz HB hw171_1 :), (HXz HB hw177_0 :), (HXz HB hw177_1 :)⟩ (fun hHeld => ?_)
    clear hK K
    refine norm_ (a' := ?_) ?_ ?_
    rotate_left
    ·show Act.put _ (some 15) _ = _
     simp only [PUz]
     rfl
    refine PYz 6 16 (bz 34 127) rfl rfl (any_of HT_.out (by kernel_rfl)) ?_
    refine PYz 7 17 (bz 34 255) rfl rfl (any_of HT_.out (by kernel_rfl)) ?_
    refine PYz 8 18 (bz 34 511) rfl rfl (any_of HT_.out (by kernel_rfl)) ?_
    refine PYz 9 19 (bz 34 1023) rfl rfl (any_of HT_.out (by kernel_rfl)) ?_
    refine PYz 10 20 (bz 34 2047) rfl rfl (any_of HT_.out (by kernel_rfl)) ?_
    refine PXz 11 21 (bz 34 4095) rfl rfl (any_of HT_.out (by kernel_rfl)) ?_
    refine PXz 12 22 (bz 34 8191) rfl rfl (any_of HT_.out (by kernel_rfl)) ?_
    refine PXz 13 23 (bz 34 16383) rfl rfl (any_of HT_.out (by kernel_rfl)) ?_
    refine PXz 14 24 (bz 34 32767) rfl rfl (any_of HT_.out (by kernel_rfl)) ?_
    refine PXz 15 25 (bz 34 65535) rfl rfl (any_of HT_.out (by kernel_rfl)) ?_
    refine PXz 16 26 (bz 34 131071) rfl rfl (any_of HT_.out (by kernel_rfl)) ?_
    refine PXz 17 27 (bz 34 262143) rfl rfl (any_of HT_.out (by kernel_rfl)) ?_
    refine PXz 18 28 (bz 34 524287) rfl rfl (any_of HT_.out (by kernel_rfl)) ?_
    refine PXz 19 29 (bz 34 1048575) rfl rfl (any_of HT_.out (by kernel_rfl)) ?_
    refine PXz 20 30 (bz 34 2097151) rfl rfl (any_of HT_.out (by kernel_rfl)) ?_
    refine PXz 21 31 (bz 34 4194303) rfl rfl (any_of HT_.out (by kernel_rfl)) ?_
    refine PXz 22 32 (bz 34 8388607) rfl rfl (any_of HT_.out (by kernel_rfl)) ?_
    refine PYz 23 33 (bz 34 16777215) rfl rfl (any_of HT_.out (by kernel_rfl)) ?_
    refine PYz 24 34 (bz 34 33554431) rfl rfl (any_of HT_.out (by kernel_rfl)) ?_
    refine PYz 25 35 (bz 34 67108863) rfl rfl (any_of HT_.out (by kernel_rfl)) ?_
    refine PYz 26 36 (bz 34 134217727) rfl rfl (any_of HT_.out (by kernel_rfl)) ?_
    refine PYz 27 37 (bz 34 268435455) rfl rfl (any_of HT_.out (by kernel_rfl)) ?_
    refine PYz 28 38 (bz 34 536870911) rfl rfl (any_of HT_.out (by kernel_rfl)) ?_
    refine PYz 29 39 (bz 34 1073741823) rfl rfl (any_of HT_.out (by kernel_rfl)) ?_
    refine PTz 30 40 (bz 34 2147483647) rfl rfl (take_ofW HT_.out HW_.out (by kernel_rfl)) hHeld ?_
    refine one_ (i := 31) (N := some 41) (bz 34 4294967295) rfl rfl (one_of HT_.out (by kernel_rfl)) (by decide) (fun K hK => ?_)
    refine goes_ Tryz.func145 (by kernel_rfl) rfl #[.slice A171_1 ((rd_T117 l0 x3_1).f1).length c171_1] (by rfl) rfl rfl MPz ?_
    with_reducible refine (Vh.calls k1 _ _ ((rd_T117 l0 x3_1).f1) false _ ?side1 ?side2 A18.out).mono ?_
    (case side1 => repeat (first | exact (Kd.C_below HR177_1.out HBa) | (with_reducible refine Kd.C_alloc ?_ _) | (with_reducible refine Kd.C_drewN ?_ _) | (with_reducible refine Kd.C_drew ?_)))
    (case side2 => exact HC177_1.out)
    rintro e w23 ⟨rfl, hb⟩
    refine ⟨_, rfl, ?_⟩
    have n0_ := Aside0.mk (below_step HBa hb)
    clear HB
    have HB := n0_
    clear n0_
    (try clear hb)
    (try clear hb2)
    (try clear hk)
    (try clear hi)
    refine hK.out _ _ ⟨(HXz HB hw171_0 :), (HXz HB hw171_1 :), (HXz HB hw177_0 :), (HXz HB hw177_1 :)⟩ (fun hHeld => ?_)
    clear hK K
    refine norm_ (a' := ?_) ?_ ?_
    rotate_left
    ·show Act.put _ (some 41) _ = _
     simp only [PUz]
     rfl
    refine PYz 32 42 (bz 34 8589934591) rfl rfl (any_of HT_.out (by kernel_rfl)) ?_
    refine PYz 33 43 (bz 34 17179869183) rfl rfl (any_of HT_.out (by kernel_rfl)) ?_
    refine done_ (done_of HT_.out (by kernel_rfl)) ?_
    try go_wp2
    go_ret
    exact ⟨EZa, HBa⟩
   rw [if_pos c6] at H
   have c6b0 : decide (0 < x3_1) = true := decide_eq_true c6
   clear c6
   obtain ⟨ji7, hji7⟩ : ∃ j_ : Int, (wrap64 (x3_1 - 1)) = j_ := ⟨_, rfl⟩
   replace H : (if 0 ≤ (ji7) then (if (ji7) < (l0.length : Int) then (if ((Op.bytesLess (((rd_T117 l0 (ji7)).f0).toList) (((rd_T117 l0 x3_1).f0).toList)) = true) then ((Vh.f k1 ((rd_T117 l0 x3_1).f1)).bind fun t176 => (if t176 = true then (Vc.l0 k1 l0 (wrap64 (x3_1 + 1))) else (some false))) else (some false)) else (none)) else (none)) = some r := by first | (rw [hji7] at H; exact H) | (simp only [hji7] at H ⊢; exact H)
   (try rw [hji7] at A4)
   have hji7w : (IntKind.i64.wrap (x3_1 - 1)) = ji7 := (i64_w _).trans hji7
   by_cases c8 : 0 ≤ (ji7)
   rotate_left
   ·rw [if_neg c8] at H
    exact absurd H (by simp)
   rw [if_pos c8] at H
   have c8b0 := decide_eq_true c8
   clear c8
   by_cases c9 : (ji7) < (l0.length : Int)
   rotate_left
   ·rw [if_neg c9] at H
    exact absurd H (by simp)
   rw [if_pos c9] at H
   have c9b0 := decide_eq_true c9
   clear c9
   by_cases c10 : ((Op.bytesLess (((rd_T117 l0 (ji7)).f0).toList) (((rd_T117 l0 x3_1).f0).toList)) = true)
   rotate_left
   ·rw [if_neg c10] at H
    have c10b0 : (Op.bytesLess (((rd_T117 l0 (ji7)).f0).toList) (((rd_T117 l0 x3_1).f0).toList)) = false := by simpa using c10
    clear c10
    obtain rfl := Option.some.inj H
    clear H
    try go_wp2
    have n0_ := Aside0.mk (below_drew1 HB.out)
    clear HB
    have HB := n0_
    clear n0_
    have p171 : 0 ≤ (x3_1 : Int) := ODz
    have q171 : x3_1 < (l0.length : Int) := ODz
    obtain ⟨ad171, A171_1, c171_1, e171, hx171_0, hx171_1, hl171_1, hi171_1⟩ := at_T117 HR0.out x3_1 p171 q171
    have hw171_1 := hx171_1
    have hw171_0 := hx171_0
    cases e171
    replace hx171_0 := HXz HB hx171_0
    replace hx171_1 := HXz HB hx171_1
    have HR171_1 := Aside0.mk hi171_1
    have HC171_1 := Aside0.mk hl171_1
    clear hi171_1 hl171_1
    replace p171 := eq_true p171
    replace q171 := eq_true q171
    have p173 : 0 ≤ ((ji7) : Int) := ODz
    have q173 : (ji7) < (l0.length : Int) := ODz
    obtain ⟨ad173, A173_1, c173_1, e173, hx173_0, hx173_1, hl173_1, hi173_1⟩ := at_T117 HR0.out (ji7) p173 q173
    have hw173_1 := hx173_1
    have hw173_0 := hx173_0
    obtain rfl : ad171 = ad173 := (by injection e173)
    replace hx173_0 := HXz HB hx173_0
    replace hx173_1 := HXz HB hx173_1
    have HR173_1 := Aside0.mk hi173_1
    have HC173_1 := Aside0.mk hl173_1
    clear hi173_1 hl173_1
    replace p173 := eq_true p173
    replace q173 := eq_true q173
    have p174 : 0 ≤ (x3_1 : Int) := ODz
    have q174 : x3_1 < (l0.length : Int) := ODz
    obtain ⟨ad174, A174_1, c174_1, e174, hx174_0, hx174_1, hl174_1, hi174_1⟩ := at_T117 HR0.out x3_1 p174 q174
    have hw174_1 := hx174_1
    have hw174_0 := hx174_0
    obtain rfl : ad171 = ad174 := (by injection e174)
    replace hx174_0 := HXz HB hx174_0
    replace hx174_1 := HXz HB hx174_1
    have HR174_1 := Aside0.mk hi174_1
    have HC174_1 := Aside0.mk hl174_1
    clear hi174_1 hl174_1
    replace p174 := eq_true p174
    replace q174 := eq_true q174
    have ea_ := Option.some.inj (hx171_1.symm.trans hx174_1)
    injection ea_ with ea_ en_ ec_
    subst ea_
    subst ec_
    clear en_
    refine start_ (n := 34) (S := fun w' => w'.cell? (ad171.add ((x3_1).toNat * 2)) = some (.string ((rd_T117 l0 x3_1).f0)) ∧ w'.cell? ⟨(ad171.add ((x3_1).toNat * 2)).block, (ad171.add ((x3_1).toNat * 2)).off + 1, none⟩ = some (.slice A171_1 ((rd_T117 l0 x3_1).f1).length c171_1) ∧ w'.cell? (ad171.add (((ji7)).toNat * 2)) = some (.string ((rd_T117 l0 (ji7)).f0)) ∧ w'.cell? ⟨(ad171.add (((ji7)).toNat * 2)).block, (ad171.add (((ji7)).toNat * 2)).off + 1, none⟩ = some (.slice A173_1 ((rd_T117 l0 (ji7)).f1).length c173_1) ∧ w'.cell? (ad171.add ((x3_1).toNat * 2)) = some (.string ((rd_T117 l0 x3_1).f0)) ∧ w'.cell? ⟨(ad171.add ((x3_1).toNat * 2)).block, (ad171.add ((x3_1).toNat * 2)).off + 1, none⟩ = some (.slice A171_1 ((rd_T117 l0 x3_1).f1).length c171_1)) (ds := []) (bz 34 0) (by kernel_rfl) rfl (by kernel_rfl) ⟨(HXz HB hw171_0 :), (HXz HB hw171_1 :), (HXz HB hw173_0 :), (HXz HB hw173_1 :), (HXz HB hw174_0 :), (HXz HB hw174_1 :)⟩ (fun hHeld => ?_); refine with_tabW Vc.tab4 Vc.bits4 (fun HT_ HW_ => ?_)
    generalize wr.drew = w17 at HB HR171_1 HR173_1 HR174_1 hx171_0 hx171_1 hx173_0 hx173_1 hx174_0 hx174_1 hHeld ⊢
    refine PYz 0 10 (bz 34 1) rfl rfl (any_of HT_.out (by kernel_rfl)) ?_
    refine PYz 1 11 (bz 34 3) rfl rfl (any_of HT_.out (by kernel_rfl)) ?_
    refine PYz 2 12 (bz 34 7) rfl rfl (any_of HT_.out (by kernel_rfl)) ?_
    refine PYz 3 13 (bz 34 15) rfl rfl (any_of HT_.out (by kernel_rfl)) ?_
    refine PTz 4 14 (bz 34 31) rfl rfl (take_ofW HT_.out HW_.out (by kernel_rfl)) hHeld ?_
    refine one_ (i := 5) (N := some 15) (bz 34 63) rfl rfl (one_of HT_.out (by kernel_rfl)) (by decide) (fun K hK => ?_)
    refine goes_ Tryz.func36 (by kernel_rfl) rfl #[.string ((rd_T117 l0 x3_1).f0)] (by rfl) rfl rfl MPz ?_
    with_reducible refine (Qq.calls k1 ((rd_T117 l0 x3_1).f0) true _ A4.out).mono ?_
    rintro e w' ⟨rfl, ⟨nd, rfl⟩⟩
    refine ⟨_, rfl, ?_⟩
    refine hK.out _ _ ⟨(HXz HB hw171_0 :), (HXz HB hw171_1 :), (HXz HB hw173_0 :), (HXz HB hw173_1 :), (HXz HB hw174_0 :), (HXz HB hw174_1 :)⟩ (fun hHeld => ?_)
    clear hK K
    refine norm_ (a' := ?_) ?_ ?_
    rotate_left
    ·show Act.put _ (some 15) _ = _
     simp only [PUz]
     rfl
    refine PYz 6 16 (bz 34 127) rfl rfl (any_of HT_.out (by kernel_rfl)) ?_
    refine PYz 7 17 (bz 34 255) rfl rfl (any_of HT_.out (by kernel_rfl)) ?_
    refine PYz 8 18 (bz 34 511) rfl rfl (any_of HT_.out (by kernel_rfl)) ?_
    refine PYz 9 19 (bz 34 1023) rfl rfl (any_of HT_.out (by kernel_rfl)) ?_
    refine PYz 10 20 (bz 34 2047) rfl rfl (any_of HT_.out (by kernel_rfl)) ?_
    refine PYz 11 21 (bz 34 4095) rfl rfl (any_of HT_.out (by kernel_rfl)) ?_
    refine PYz 12 22 (bz 34 8191) rfl rfl (any_of HT_.out (by kernel_rfl)) ?_
    refine PYz 13 23 (bz 34 16383) rfl rfl (any_of HT_.out (by kernel_rfl)) ?_
    refine PYz 14 24 (bz 34 32767) rfl rfl (any_of HT_.out (by kernel_rfl)) ?_
    refine PYz 15 25 (bz 34 65535) rfl rfl (any_of HT_.out (by kernel_rfl)) ?_
    refine PYz 17 27 (bz 34 196607) rfl rfl (any_of HT_.out (by kernel_rfl)) ?_
    refine PYz 18 28 (bz 34 458751) rfl rfl (any_of HT_.out (by kernel_rfl)) ?_
    refine PYz 19 29 (bz 34 983039) rfl rfl (any_of HT_.out (by kernel_rfl)) ?_
    refine PYz 20 30 (bz 34 2031615) rfl rfl (any_of HT_.out (by kernel_rfl)) ?_
    refine PTz 16 26 (bz 34 2097151) rfl rfl (take_ofW HT_.out HW_.out (by kernel_rfl)) hHeld ?_
    refine PTz 21 31 (bz 34 4194303) rfl rfl (take_ofW HT_.out HW_.out (by kernel_rfl)) hHeld ?_
    refine PYz 22 32 (bz 34 8388607) rfl rfl (any_of HT_.out (by kernel_rfl)) ?_
    refine PYz 23 33 (bz 34 16777215) rfl rfl (any_of HT_.out (by kernel_rfl)) ?_
    refine PYz 24 34 (bz 34 33554431) rfl rfl (any_of HT_.out (by kernel_rfl)) ?_
    refine PYz 25 35 (bz 34 67108863) rfl rfl (any_of HT_.out (by kernel_rfl)) ?_
    refine PXz 26 36 (bz 34 134217727) rfl rfl (any_of HT_.out (by kernel_rfl)) ?_
    refine PXz 27 37 (bz 34 268435455) rfl rfl (any_of HT_.out (by kernel_rfl)) ?_
    refine PXz 28 38 (bz 34 536870911) rfl rfl (any_of HT_.out (by kernel_rfl)) ?_
    refine PXz 29 39 (bz 34 1073741823) rfl rfl (any_of HT_.out (by kernel_rfl)) ?_
    refine PXz 30 40 (bz 34 2147483647) rfl rfl (any_of HT_.out (by kernel_rfl)) ?_
    refine PXz 31 41 (bz 34 4294967295) rfl rfl (any_of HT_.out (by kernel_rfl)) ?_
    refine PXz 32 42 (bz 34 8589934591) rfl rfl (any_of HT_.out (by kernel_rfl)) ?_
    refine PYz 33 43 (bz 34 17179869183) rfl rfl (any_of HT_.out (by kernel_rfl)) ?_
    refine done_ (done_of HT_.out (by kernel_rfl)) ?_
    try go_wp2
    go_ret
    exact ⟨by first | rfl | (simp only [bne_nil_, beq_nil_]; rfl) | (simp [errW_none, errW_some] <;> rfl) | (simp only [← hji7]; first | rfl | (simp [errW_none, errW_some] <;> rfl)) | (simp [*, errW_none, errW_some] <;> rfl), HBa⟩
   rw [if_pos c10] at H
   have c10b0 : (Op.bytesLess (((rd_T117 l0 (ji7)).f0).toList) (((rd_T117 l0 x3_1).f0).toList)) = true := c10
   clear c10
   replace H := Option.bind_eq_some_iff.mp H
   obtain ⟨t176, A110, H⟩ := H
   replace H : (if t176 = true then (Vc.l0 k1 l0 (wrap64 (x3_1 + 1))) else (some false)) = some r := H
   have A11 := Aside0.mk A110
   clear A110
   by_cases c12 : t176 = true
   ·subst c12
    have H1 : (Vc.l0 k1 l0 (wrap64 (x3_1 + 1))) = some r := by rw [if_pos rfl] at H; exact H
    clear H
    have H := H1
    clear H1
    have H' := Aside0.mk H
    clear H
    try go_wp2
    have n0_ := Aside0.mk (below_drew1 HB.out)
    clear HB
    have HB := n0_
    clear n0_
    have p171 : 0 ≤ (x3_1 : Int) := ODz
    have q171 : x3_1 < (l0.length : Int) := ODz
    obtain ⟨ad171, A171_1, c171_1, e171, hx171_0, hx171_1, hl171_1, hi171_1⟩ := at_T117 HR0.out x3_1 p171 q171
    have hw171_1 := hx171_1
    have hw171_0 := hx171_0
    cases e171
    replace hx171_0 := HXz HB hx171_0
    replace hx171_1 := HXz HB hx171_1
    have HR171_1 := Aside0.mk hi171_1
    have HC171_1 := Aside0.mk hl171_1
    clear hi171_1 hl171_1
    replace p171 := eq_true p171
    replace q171 := eq_true q171
    have p173 : 0 ≤ ((ji7) : Int) := ODz
    have q173 : (ji7) < (l0.length : Int) := ODz
    obtain ⟨ad173, A173_1, c173_1, e173, hx173_0, hx173_1, hl173_1, hi173_1⟩ := at_T117 HR0.out (ji7) p173 q173
    have hw173_1 := hx173_1
    have hw173_0 := hx173_0
    obtain rfl : ad171 = ad173 := (by injection e173)
    replace hx173_0 := HXz HB hx173_0
    replace hx173_1 := HXz HB hx173_1
    have HR173_1 := Aside0.mk hi173_1
    have HC173_1 := Aside0.mk hl173_1
    clear hi173_1 hl173_1
    replace p173 := eq_true p173
    replace q173 := eq_true q173
    have p174 : 0 ≤ (x3_1 : Int) := ODz
    have q174 : x3_1 < (l0.length : Int) := ODz
    obtain ⟨ad174, A174_1, c174_1, e174, hx174_0, hx174_1, hl174_1, hi174_1⟩ := at_T117 HR0.out x3_1 p174 q174
    have hw174_1 := hx174_1
    have hw174_0 := hx174_0
    obtain rfl : ad171 = ad174 := (by injection e174)
    replace hx174_0 := HXz HB hx174_0
    replace hx174_1 := HXz HB hx174_1
    have HR174_1 := Aside0.mk hi174_1
    have HC174_1 := Aside0.mk hl174_1
    clear hi174_1 hl174_1
    replace p174 := eq_true p174
    replace q174 := eq_true q174
    have ea_ := Option.some.inj (hx171_1.symm.trans hx174_1)
    injection ea_ with ea_ en_ ec_
    subst ea_
    subst ec_
    clear en_
    have p175 : 0 ≤ (x3_1 : Int) := ODz
    have q175 : x3_1 < (l0.length : Int) := ODz
    obtain ⟨ad175, A175_1, c175_1, e175, hx175_0, hx175_1, hl175_1, hi175_1⟩ := at_T117 HR0.out x3_1 p175 q175
    have hw175_1 := hx175_1
    have hw175_0 := hx175_0
    obtain rfl : ad171 = ad175 := (by injection e175)
    replace hx175_0 := HXz HB hx175_0
    replace hx175_1 := HXz HB hx175_1
    have HR175_1 := Aside0.mk hi175_1
    have HC175_1 := Aside0.mk hl175_1
    clear hi175_1 hl175_1
    replace p175 := eq_true p175
    replace q175 := eq_true q175
    have ea_ := Option.some.inj (hx171_1.symm.trans hx175_1)
    injection ea_ with ea_ en_ ec_
    subst ea_
    subst ec_
    clear en_
    refine start_ (n := 34) (S := fun w' => w'.cell? (ad171.add ((x3_1).toNat * 2)) = some (.string ((rd_T117 l0 x3_1).f0)) ∧ w'.cell? ⟨(ad171.add ((x3_1).toNat * 2)).block, (ad171.add ((x3_1).toNat * 2)).off + 1, none⟩ = some (.slice A171_1 ((rd_T117 l0 x3_1).f1).length c171_1) ∧ w'.cell? (ad171.add (((ji7)).toNat * 2)) = some (.string ((rd_T117 l0 (ji7)).f0)) ∧ w'.cell? ⟨(ad171.add (((ji7)).toNat * 2)).block, (ad171.add (((ji7)).toNat * 2)).off + 1, none⟩ = some (.slice A173_1 ((rd_T117 l0 (ji7)).f1).length c173_1) ∧ w'.cell? (ad171.add ((x3_1).toNat * 2)) = some (.string ((rd_T117 l0 x3_1).f0)) ∧ w'.cell? ⟨(ad171.add ((x3_1).toNat * 2)).block, (ad171.add ((x3_1).toNat * 2)).off + 1, none⟩ = some (.slice A171_1 ((rd_T117 l0 x3_1).f1).length c171_1) ∧ w'.cell? (ad171.add ((x3_1).toNat * 2)) = some (.string ((rd_T117 l0 x3_1).f0)) ∧ w'.cell? ⟨(ad171.add ((x3_1).toNat * 2)).block, (ad171.add ((x3_1).toNat * 2)).off + 1, none⟩ = some (.slice A171_1 ((rd_T117 l0 x3_1).f1).length c171_1)) (ds := []) (bz 34 0) (by kernel_rfl) rfl (by kernel_rfl) ⟨(HXz HB hw171_0 :), (HXz HB hw171_1 :), (HXz HB hw173_0 :), (HXz HB hw173_1 :), (HXz HB hw174_0 :), (HXz HB hw174_1 :), (HXz HB hw175_0 :), (HXz HB hw175_1 :)⟩ (fun hHeld => ?_); refine with_tabW Vc.tab4 Vc.bits4 (fun HT_ HW_ => ?_)
    generalize wr.drew = w13 at HB HR171_1 HR173_1 HR174_1 HR175_1 hx171_0 hx171_1 hx173_0 hx173_1 hx174_0 hx174_1 hx175_0 hx175_1 hHeld ⊢
    refine PYz 0 10 (bz 34 1) rfl rfl (any_of HT_.out (by kernel_rfl)) ?_
    refine PYz 1 11 (bz 34 3) rfl rfl (any_of HT_.out (by kernel_rfl)) ?_
    refine PYz 2 12 (bz 34 7) rfl rfl (any_of HT_.out (by kernel_rfl)) ?_
    refine PYz 3 13 (bz 34 15) rfl rfl (any_of HT_.out (by kernel_rfl)) ?_
    refine PTz 4 14 (bz 34 31) rfl rfl (take_ofW HT_.out HW_.out (by kernel_rfl)) hHeld ?_
    refine one_ (i := 5) (N := some 15) (bz 34 63) rfl rfl (one_of HT_.out (by kernel_rfl)) (by decide) (fun K hK => ?_)
    refine goes_ Tryz.func36 (by kernel_rfl) rfl #[.string ((rd_T117 l0 x3_1).f0)] (by rfl) rfl rfl MPz ?_
    with_reducible refine (Qq.calls k1 ((rd_T117 l0 x3_1).f0) true _ A4.out).mono ?_
    rintro e w' ⟨rfl, ⟨nd, rfl⟩⟩
    refine ⟨_, rfl, ?_⟩
    refine hK.out _ _ ⟨(HXz HB hw171_0 :), (HXz HB hw171_1 :), (HXz HB hw173_0 :), (HXz HB hw173_1 :), (HXz HB hw174_0 :), (HXz HB hw174_1 :), (HXz HB hw175_0 :), (HXz HB hw175_1 :)⟩ (fun hHeld => ?_)
    clear hK K
    refine norm_ (a' := ?_) ?_ ?_
    rotate_left
    ·show Act.put _ (some 15) _ = _
     simp only [PUz]
     rfl
    refine PYz 6 16 (bz 34 127) rfl rfl (any_of HT_.out (by kernel_rfl)) ?_
    refine PYz 7 17 (bz 34 255) rfl rfl (any_of HT_.out (by kernel_rfl)) ?_
    refine PYz 8 18 (bz 34 511) rfl rfl (any_of HT_.out (by kernel_rfl)) ?_
    refine PYz 9 19 (bz 34 1023) rfl rfl (any_of HT_.out (by kernel_rfl)) ?_
    refine PYz 10 20 (bz 34 2047) rfl rfl (any_of HT_.out (by kernel_rfl)) ?_
    refine PYz 11 21 (bz 34 4095) rfl rfl (any_of HT_.out (by kernel_rfl)) ?_
    refine PYz 12 22 (bz 34 8191) rfl rfl (any_of HT_.out (by kernel_rfl)) ?_
    refine PYz 13 23 (bz 34 16383) rfl rfl (any_of HT_.out (by kernel_rfl)) ?_
    refine PYz 14 24 (bz 34 32767) rfl rfl (any_of HT_.out (by kernel_rfl)) ?_
    refine PYz 15 25 (bz 34 65535) rfl rfl (any_of HT_.out (by kernel_rfl)) ?_
    refine PYz 17 27 (bz 34 196607) rfl rfl (any_of HT_.out (by kernel_rfl)) ?_
    refine PYz 18 28 (bz 34 458751) rfl rfl (any_of HT_.out (by kernel_rfl)) ?_
    refine PYz 19 29 (bz 34 983039) rfl rfl (any_of HT_.out (by kernel_rfl)) ?_
    refine PYz 20 30 (bz 34 2031615) rfl rfl (any_of HT_.out (by kernel_rfl)) ?_
    refine PTz 16 26 (bz 34 2097151) rfl rfl (take_ofW HT_.out HW_.out (by kernel_rfl)) hHeld ?_
    refine PTz 21 31 (bz 34 4194303) rfl rfl (take_ofW HT_.out HW_.out (by kernel_rfl)) hHeld ?_
    refine PYz 22 32 (bz 34 8388607) rfl rfl (any_of HT_.out (by kernel_rfl)) ?_
    refine PYz 23 33 (bz 34 16777215) rfl rfl (any_of HT_.out (by kernel_rfl)) ?_
    refine PYz 24 34 (bz 34 33554431) rfl rfl (any_of HT_.out (by kernel_rfl)) ?_
    refine PYz 25 35 (bz 34 67108863) rfl rfl (any_of HT_.out (by kernel_rfl)) ?_
    refine PYz 26 36 (bz 34 134217727) rfl rfl (any_of HT_.out (by kernel_rfl)) ?_
    refine PYz 27 37 (bz 34 268435455) rfl rfl (any_of HT_.out (by kernel_rfl)) ?_
    refine PYz 28 38 (bz 34 536870911) rfl rfl (any_of HT_.out (by kernel_rfl)) ?_
    refine PYz 29 39 (bz 34 1073741823) rfl rfl (any_of HT_.out (by kernel_rfl)) ?_
    refine PTz 30 40 (bz 34 2147483647) rfl rfl (take_ofW HT_.out HW_.out (by kernel_rfl)) hHeld ?_
    refine one_ (i := 31) (N := some 41) (bz 34 4294967295) rfl rfl (one_of HT_.out (by kernel_rfl)) (by decide) (fun K hK => ?_)
    refine goes_ Tryz.func145 (by kernel_rfl) rfl #[.slice A171_1 ((rd_T117 l0 x3_1).f1).length c171_1] (by rfl) rfl rfl MPz ?_
    with_reducible refine (Vh.calls k1 _ _ ((rd_T117 l0 x3_1).f1) true _ ?side1 ?side2 A11.out).mono ?_
    (case side1 => repeat (first | exact (Kd.C_below HR175_1.out HBa) | (with_reducible refine Kd.C_alloc ?_ _) | (with_reducible refine Kd.C_drewN ?_ _) | (with_reducible refine Kd.C_drew ?_)))
    (case side2 => exact HC175_1.out)
    rintro e w14 ⟨rfl, hb⟩
    refine ⟨_, rfl, ?_⟩
    have n0_ := Aside0.mk (below_step HBa hb)
    clear HB
    have HB := n0_
    clear n0_
    (try clear hb)
    (try clear hb2)
    (try clear hk)
    (try clear hi)
    refine hK.out _ _ ⟨(HXz HB hw171_0 :), (HXz HB hw171_1 :), (HXz HB hw173_0 :), (HXz HB hw173_1 :), (HXz HB hw174_0 :), (HXz HB hw174_1 :), (HXz HB hw175_0 :), (HXz HB hw175_1 :)⟩ (fun hHeld => ?_)
    clear hK K
    refine norm_ (a' := ?_) ?_ ?_
    rotate_left
    ·show Act.put _ (some 41) _ = _
     simp only [PUz]
     rfl
    refine PYz 32 42 (bz 34 8589934591) rfl rfl (any_of HT_.out (by kernel_rfl)) ?_
    refine PYz 33 43 (bz 34 17179869183) rfl rfl (any_of HT_.out (by kernel_rfl)) ?_
    refine done_ (done_of HT_.out (by kernel_rfl)) ?_
    try go_wp2
    go_roundg k1
    case measure => have := HK1.out; omega
    case rel => exact ⟨(wrap64 (x3_1 + 1)), EZc, H', ⟨by have := HK1.out; omega⟩, ⟨HBa⟩⟩
   replace c12 := Bool.eq_false_iff.mpr c12
   subst c12
   have H1 : (some false) = some r := by rw [if_neg (show ¬ (false = true) by decide)] at H; exact H
   clear H
   have H := H1
   clear H1
   obtain rfl := Option.some.inj H
   clear H
   try go_wp2
   have n0_ := Aside0.mk (below_drew1 HB.out)
   clear HB
   have HB := n0_
   clear n0_
   have p171 : 0 ≤ (x3_1 : Int) := ODz
   have q171 : x3_1 < (l0.length : Int) := ODz
   obtain ⟨ad171, A171_1, c171_1, e171, hx171_0, hx171_1, hl171_1, hi171_1⟩ := at_T117 HR0.out x3_1 p171 q171
   have hw171_1 := hx171_1
   have hw171_0 := hx171_0
   cases e171
   replace hx171_0 := HXz HB hx171_0
   replace hx171_1 := HXz HB hx171_1
   have HR171_1 := Aside0.mk hi171_1
   have HC171_1 := Aside0.mk hl171_1
   clear hi171_1 hl171_1
   replace p171 := eq_true p171
   replace q171 := eq_true q171
   have p173 : 0 ≤ ((ji7) : Int) := ODz
   have q173 : (ji7) < (l0.length : Int) := ODz
   obtain ⟨ad173, A173_1, c173_1, e173, hx173_0, hx173_1, hl173_1, hi173_1⟩ := at_T117 HR0.out (ji7) p173 q173
   have hw173_1 := hx173_1
   have hw173_0 := hx173_0
   obtain rfl : ad171 = ad173 := (by injection e173)
   replace hx173_0 := HXz HB hx173_0
   replace hx173_1 := HXz HB hx173_1
   have HR173_1 := Aside0.mk hi173_1
   have HC173_1 := Aside0.mk hl173_1
   clear hi173_1 hl173_1
   replace p173 := eq_true p173
   replace q173 := eq_true q173
   have p174 : 0 ≤ (x3_1 : Int) := ODz
   have q174 : x3_1 < (l0.length : Int) := ODz
   obtain ⟨ad174, A174_1, c174_1, e174, hx174_0, hx174_1, hl174_1, hi174_1⟩ := at_T117 HR0.out x3_1 p174 q174
   have hw174_1 := hx174_1
   have hw174_0 := hx174_0
   obtain rfl : ad171 = ad174 := (by injection e174)
   replace hx174_0 := HXz HB hx174_0
   replace hx174_1 := HXz HB hx174_1
   have HR174_1 := Aside0.mk hi174_1
   have HC174_1 := Aside0.mk hl174_1
   clear hi174_1 hl174_1
   replace p174 := eq_true p174
   replace q174 := eq_true q174
   have ea_ := Option.some.inj (hx171_1.symm.trans hx174_1)
   injection ea_ with ea_ en_ ec_
   subst ea_
   subst ec_
   clear en_
   have p175 : 0 ≤ (x3_1 : Int) := ODz
   have q175 : x3_1 < (l0.length : Int) := ODz
   obtain ⟨ad175, A175_1, c175_1, e175, hx175_0, hx175_1, hl175_1, hi175_1⟩ := at_T117 HR0.out x3_1 p175 q175
   have hw175_1 := hx175_1
   have hw175_0 := hx175_0
   obtain rfl : ad171 = ad175 := (by injection e175)
   replace hx175_0 := HXz HB hx175_0
   replace hx175_1 := HXz HB hx175_1
   have HR175_1 := Aside0.mk hi175_1
   have HC175_1 := Aside0.mk hl175_1
   clear hi175_1 hl175_1
   replace p175 := eq_true p175
   replace q175 := eq_true q175
   have ea_ := Option.some.inj (hx171_1.symm.trans hx175_1)
   injection ea_ with ea_ en_ ec_
   subst ea_
   subst ec_
   clear en_
   refine start_ (n := 34) (S := fun w' => w'.cell? (ad171.add ((x3_1).toNat * 2)) = some (.string ((rd_T117 l0 x3_1).f0)) ∧ w'.cell? ⟨(ad171.add ((x3_1).toNat * 2)).block, (ad171.add ((x3_1).toNat * 2)).off + 1, none⟩ = some (.slice A171_1 ((rd_T117 l0 x3_1).f1).length c171_1) ∧ w'.cell? (ad171.add (((ji7)).toNat * 2)) = some (.string ((rd_T117 l0 (ji7)).f0)) ∧ w'.cell? ⟨(ad171.add (((ji7)).toNat * 2)).block, (ad171.add (((ji7)).toNat * 2)).off + 1, none⟩ = some (.slice A173_1 ((rd_T117 l0 (ji7)).f1).length c173_1) ∧ w'.cell? (ad171.add ((x3_1).toNat * 2)) = some (.string ((rd_T117 l0 x3_1).f0)) ∧ w'.cell? ⟨(ad171.add ((x3_1).toNat * 2)).block, (ad171.add ((x3_1).toNat * 2)).off + 1, none⟩ = some (.slice A171_1 ((rd_T117 l0 x3_1).f1).length c171_1) ∧ w'.cell? (ad171.add ((x3_1).toNat * 2)) = some (.string ((rd_T117 l0 x3_1).f0)) ∧ w'.cell? ⟨(ad171.add ((x3_1).toNat * 2)).block, (ad171.add ((x3_1).toNat * 2)).off + 1, none⟩ = some (.slice A171_1 ((rd_T117 l0 x3_1).f1).length c171_1)) (ds := []) (bz 34 0) (by kernel_rfl) rfl (by kernel_rfl) ⟨(HXz HB hw171_0 :), (HXz HB hw171_1 :), (HXz HB hw173_0 :), (HXz HB hw173_1 :), (HXz HB hw174_0 :), (HXz HB hw174_1 :), (HXz HB hw175_0 :), (HXz HB hw175_1 :)⟩ (fun hHeld => ?_); refine with_tabW Vc.tab4 Vc.bits4 (fun HT_ HW_ => ?_)
   generalize wr.drew = w15 at HB HR171_1 HR173_1 HR174_1 HR175_1 hx171_0 hx171_1 hx173_0 hx173_1 hx174_0 hx174_1 hx175_0 hx175_1 hHeld ⊢
   refine PYz 0 10 (bz 34 1) rfl rfl (any_of HT_.out (by kernel_rfl)) ?_
   refine PYz 1 11 (bz 34 3) rfl rfl (any_of HT_.out (by kernel_rfl)) ?_
   refine PYz 2 12 (bz 34 7) rfl rfl (any_of HT_.out (by kernel_rfl)) ?_
   refine PYz 3 13 (bz 34 15) rfl rfl (any_of HT_.out (by kernel_rfl)) ?_
   refine PTz 4 14 (bz 34 31) rfl rfl (take_ofW HT_.out HW_.out (by kernel_rfl)) hHeld ?_
   refine one_ (i := 5) (N := some 15) (bz 34 63) rfl rfl (one_of HT_.out (by kernel_rfl)) (by decide) (fun K hK => ?_)
   refine goes_ Tryz.func36 (by kernel_rfl) rfl #[.string ((rd_T117 l0 x3_1).f0)] (by rfl) rfl rfl MPz ?_
   with_reducible refine (Qq.calls k1 ((rd_T117 l0 x3_1).f0) true _ A4.out).mono ?_
   rintro e w' ⟨rfl, ⟨nd, rfl⟩⟩
   refine ⟨_, rfl, ?_⟩
   refine hK.out _ _ ⟨(HXz HB hw171_0 :), (HXz HB hw171_1 :), (HXz HB hw173_0 :), (HXz HB hw173_1 :), (HXz HB hw174_0 :), (HXz HB hw174_1 :), (HXz HB hw175_0 :), (HXz HB hw175_1 :)⟩ (fun hHeld => ?_)
   clear hK K
   refine norm_ (a' := ?_) ?_ ?_
   rotate_left
   ·show Act.put _ (some 15) _ = _
    simp only [PUz]
    rfl
   refine PYz 6 16 (bz 34 127) rfl rfl (any_of HT_.out (by kernel_rfl)) ?_
   refine PYz 7 17 (bz 34 255) rfl rfl (any_of HT_.out (by kernel_rfl)) ?_
   refine PYz 8 18 (bz 34 511) rfl rfl (any_of HT_.out (by kernel_rfl)) ?_
   refine PYz 9 19 (bz 34 1023) rfl rfl (any_of HT_.out (by kernel_rfl)) ?_
   refine PYz 10 20 (bz 34 2047) rfl rfl (any_of HT_.out (by kernel_rfl)) ?_
   refine PYz 11 21 (bz 34 4095) rfl rfl (any_of HT_.out (by kernel_rfl)) ?_
   refine PYz 12 22 (bz 34 8191) rfl rfl (any_of HT_.out (by kernel_rfl)) ?_
   refine PYz 13 23 (bz 34 16383) rfl rfl (any_of HT_.out (by kernel_rfl)) ?_
   refine PYz 14 24 (bz 34 32767) rfl rfl (any_of HT_.out (by kernel_rfl)) ?_
   refine PYz 15 25 (bz 34 65535) rfl rfl (any_of HT_.out (by kernel_rfl)) ?_
   refine PYz 17 27 (bz 34 196607) rfl rfl (any_of HT_.out (by kernel_rfl)) ?_
   refine PYz 18 28 (bz 34 458751) rfl rfl (any_of HT_.out (by kernel_rfl)) ?_
   refine PYz 19 29 (bz 34 983039) rfl rfl (any_of HT_.out (by kernel_rfl)) ?_
   refine PYz 20 30 (bz 34 2031615) rfl rfl (any_of HT_.out (by kernel_rfl)) ?_
   refine PTz 16 26 (bz 34 2097151) rfl rfl (take_ofW HT_.out HW_.out (by kernel_rfl)) hHeld ?_
   refine PTz 21 31 (bz 34 4194303) rfl rfl (take_ofW HT_.out HW_.out (by kernel_rfl)) hHeld ?_
   refine PYz 22 32 (bz 34 8388607) rfl rfl (any_of HT_.out (by kernel_rfl)) ?_
   refine PYz 23 33 (bz 34 16777215) rfl rfl (any_of HT_.out (by kernel_rfl)) ?_
   refine PYz 24 34 (bz 34 33554431) rfl rfl (any_of HT_.out (by kernel_rfl)) ?_
   refine PYz 25 35 (bz 34 67108863) rfl rfl (any_of HT_.out (by kernel_rfl)) ?_
   refine PYz 26 36 (bz 34 134217727) rfl rfl (any_of HT_.out (by kernel_rfl)) ?_
   refine PYz 27 37 (bz 34 268435455) rfl rfl (any_of HT_.out (by kernel_rfl)) ?_
   refine PYz 28 38 (bz 34 536870911) rfl rfl (any_of HT_.out (by kernel_rfl)) ?_
   refine PYz 29 39 (bz 34 1073741823) rfl rfl (any_of HT_.out (by kernel_rfl)) ?_
   refine PTz 30 40 (bz 34 2147483647) rfl rfl (take_ofW HT_.out HW_.out (by kernel_rfl)) hHeld ?_
   refine one_ (i := 31) (N := some 41) (bz 34 4294967295) rfl rfl (one_of HT_.out (by kernel_rfl)) (by decide) (fun K hK => ?_)
   refine goes_ Tryz.func145 (by kernel_rfl) rfl #[.slice A171_1 ((rd_T117 l0 x3_1).f1).length c171_1] (by rfl) rfl rfl MPz ?_
   with_reducible refine (Vh.calls k1 _ _ ((rd_T117 l0 x3_1).f1) false _ ?side1 ?side2 A11.out).mono ?_
   (case side1 => repeat (first | exact (Kd.C_below HR175_1.out HBa) | (with_reducible refine Kd.C_alloc ?_ _) | (with_reducible refine Kd.C_drewN ?_ _) | (with_reducible refine Kd.C_drew ?_)))
   (case side2 => exact HC175_1.out)
   rintro e w16 ⟨rfl, hb⟩
   refine ⟨_, rfl, ?_⟩
   have n0_ := Aside0.mk (below_step HBa hb)
   clear HB
   have HB := n0_
   clear n0_
   (try clear hb)
   (try clear hb2)
   (try clear hk)
   (try clear hi)
   refine hK.out _ _ ⟨(HXz HB hw171_0 :), (HXz HB hw171_1 :), (HXz HB hw173_0 :), (HXz HB hw173_1 :), (HXz HB hw174_0 :), (HXz HB hw174_1 :), (HXz HB hw175_0 :), (HXz HB hw175_1 :)⟩ (fun hHeld => ?_)
   clear hK K
   refine norm_ (a' := ?_) ?_ ?_
   rotate_left
   ·show Act.put _ (some 41) _ = _
    simp only [PUz]
    rfl
   refine PYz 32 42 (bz 34 8589934591) rfl rfl (any_of HT_.out (by kernel_rfl)) ?_
   refine PYz 33 43 (bz 34 17179869183) rfl rfl (any_of HT_.out (by kernel_rfl)) ?_
   refine done_ (done_of HT_.out (by kernel_rfl)) ?_
   try go_wp2
   go_ret
   exact ⟨by first | rfl | (simp only [bne_nil_, beq_nil_]; rfl) | (simp [errW_none, errW_some] <;> rfl) | (simp only [← hji7]; first | rfl | (simp [errW_none, errW_some] <;> rfl)) | (simp [*, errW_none, errW_some] <;> rfl), HBa⟩
def Qn.f (k : Nat) (l0_0 : List (S96)) (l0_1 : List (S117)) : Option (Bool) := if (l0_0.length : Int) > 0 then ((Qk.f k l0_0).bind fun t180 => (if t180 = true then ((Vc.f k l0_1).bind fun t181 => (some t181)) else (some false))) else (some false)
theorem Qn.mono : ∀ a0 a1 k, LeO (Qn.f k a0 a1) (Qn.f (k + 1) a0 a1) := by
 intro a0 a1 k
 unfold Qn.f
 with_reducible repeat' first | exact Qk.mono _ _ | exact Vc.mono _ _ | exact LeO.refl _ | exact LeO.none _ | refine LeO.ite ?_ ?_ | refine LeO.bind ?_ (fun _ => ?_)
theorem Qn.calls (k : Nat) (A0_0 : Option Addr) (c0_0 : Nat) (l0_0 : List (S96)) (A0_1 : Option Addr) (c0_1 : Nat) (l0_1 : List (S117)) (r : Bool) (w : World) (hr0_0 : Kd.C k96 w A0_0 l0_0.length l0_0) (hc0_0 : l0_0.length ≤ c0_0) (hr0_1 : Kd.C k117 w A0_1 l0_1.length l0_1) (hc0_1 : l0_1.length ≤ c0_1) (h : Qn.f k l0_0 l0_1 = some r) :
  Calls Tryz.prog 74 #[.agg #[.slice A0_0 l0_0.length c0_0, .slice A0_1 l0_1.length c0_1]] w fun e w' => e = .returned (.bool r) ∧ Below w.heap.size w w' := by
 have hu51 := Tryz.underlying51
 have HR0_0 := Aside0.mk hr0_0
 have HC0_0 := Aside0.mk hc0_0
 clear hr0_0 hc0_0
 have HR0_1 := Aside0.mk hr0_1
 have HC0_1 := Aside0.mk hc0_1
 clear hr0_1 hc0_1
 have HB := Aside0.mk (Below.refl w.heap.size w)
 have H : (if (l0_0.length : Int) > 0 then ((Qk.f k l0_0).bind fun t180 => (if t180 = true then ((Vc.f k l0_1).bind fun t181 => (some t181)) else (some false))) else (some false)) = some r := h
 clear h
 by_cases c2 : (l0_0.length : Int) > 0
 rotate_left
 ·rw [if_neg c2] at H
  have c2b0 : decide (0 < (l0_0.length : Int)) = false := decide_eq_false c2
  have c2b1 : decide (0 < l0_0.length) = false := decide_eq_false (by omega)
  clear c2
  obtain rfl := Option.some.inj H
  clear H
  go_enter Tryz.func74, Tryz.ntmps74
  go_wp2_with (first | ((with_reducible refine gate_dst (N := 1) rfl ?_); refine box_event ?hg (N := 1) ?hd (cs := #[.slice A0_0 l0_0.length c0_0, .slice A0_1 l0_1.length c0_1]) (t := 51) ?hr ?_; (case hd => rfl); (case hg => rfl); (case hr => first | (go_simp; done) | (go_simp; rfl)); intro gb179 hg w14 hbox hb; have n0_ := Aside0.mk (below_step HBa hb); have n1_ := Aside0.mk (hbox); have n2_ := BSz w hg HBa; have n3_ := BSz w hg HBa; clear HB; have HB := n0_; have BK179 := n1_; have GW179 := n2_; have GE179 := n3_; clear n0_ n1_ n2_ n3_; clear hb hbox hg; have hcz15_0 := C1z BK179; have hcz15_1 := C2z BK179; have hfz15_0 := blk_frozen BK179.out 0; have hfz15_1 := blk_frozen BK179.out 1))
  go_ret
  exact ⟨EZa, HBb GE179⟩
 rw [if_pos c2] at H
 have c2b0 : decide (0 < (l0_0.length : Int)) = true := decide_eq_true c2
 have c2b1 : decide (0 < l0_0.length) = true := decide_eq_true (by omega)
 clear c2
 replace H := Option.bind_eq_some_iff.mp H
 obtain ⟨t180, A30, H⟩ := H
 replace H : (if t180 = true then ((Vc.f k l0_1).bind fun t181 => (some t181)) else (some false)) = some r := H
 have A3 := Aside0.mk A30
 clear A30
 by_cases c4 : t180 = true
 rotate_left
 ·replace c4 := Bool.eq_false_iff.mpr c4
  subst c4
  have H1 : (some false) = some r := by rw [if_neg (show ¬ (false = true) by decide)] at H; exact H
  clear H
  have H := H1
  clear H1
  obtain rfl := Option.some.inj H
  clear H
  go_enter Tryz.func74, Tryz.ntmps74
  go_wp2_with (first | ((with_reducible refine gate_dst (N := 1) rfl ?_); refine box_event ?hg (N := 1) ?hd (cs := #[.slice A0_0 l0_0.length c0_0, .slice A0_1 l0_1.length c0_1]) (t := 51) ?hr ?_; (case hd => rfl); (case hg => rfl); (case hr => first | (go_simp; done) | (go_simp; rfl)); intro gb179 hg w11 hbox hb; have n0_ := Aside0.mk (below_step HBa hb); have n1_ := Aside0.mk (hbox); have n2_ := BSz w hg HBa; have n3_ := BSz w hg HBa; clear HB; have HB := n0_; have BK179 := n1_; have GW179 := n2_; have GE179 := n3_; clear n0_ n1_ n2_ n3_; clear hb hbox hg; have hcz12_0 := C1z BK179; have hcz12_1 := C2z BK179; have hfz12_0 := blk_frozen BK179.out 0; have hfz12_1 := blk_frozen BK179.out 1) | (go_at_call 35; (with_reducible refine (Qk.calls k _ _ l0_0 false _ ?side1 ?side2 A3.out).mono ?_); (case side1 => exact KCz (Kd.C_below HR0_0.out HB.out)); (case side2 => exact HC0_0.out); rintro e w13 ⟨rfl, hb⟩; have n0_ := BBz BK179 hb; have n1_ := Aside0.mk (below_step (HBb GE179) hb); clear BK179; clear HB; have BK179 := n0_; have HB := n1_; clear n0_ n1_; (try clear hb); (try clear hb2); (try clear hk); (try clear hi)))
  go_ret
  exact ⟨EZa, HBb GE179⟩
 subst c4
 have H1 : ((Vc.f k l0_1).bind fun t181 => (some t181)) = some r := by rw [if_pos rfl] at H; exact H
 clear H
 have H := H1
 clear H1
 replace H := Option.bind_eq_some_iff.mp H
 obtain ⟨t181, A50, H⟩ := H
 replace H : (some t181) = some r := H
 have A5 := Aside0.mk A50
 clear A50
 obtain rfl := Option.some.inj H
 clear H
 go_enter Tryz.func74, Tryz.ntmps74
 go_wp2_with (first | ((with_reducible refine gate_dst (N := 1) rfl ?_); refine box_event ?hg (N := 1) ?hd (cs := #[.slice A0_0 l0_0.length c0_0, .slice A0_1 l0_1.length c0_1]) (t := 51) ?hr ?_; (case hd => rfl); (case hg => rfl); (case hr => first | (go_simp; done) | (go_simp; rfl)); intro gb179 hg w6 hbox hb; have n0_ := Aside0.mk (below_step HBa hb); have n1_ := Aside0.mk (hbox); have n2_ := BSz w hg HBa; have n3_ := BSz w hg HBa; clear HB; have HB := n0_; have BK179 := n1_; have GW179 := n2_; have GE179 := n3_; clear n0_ n1_ n2_ n3_; clear hb hbox hg; have hcz7_0 := C1z BK179; have hcz7_1 := C2z BK179; have hfz7_0 := blk_frozen BK179.out 0; have hfz7_1 := blk_frozen BK179.out 1) | (go_at_call 35; (with_reducible refine (Qk.calls k _ _ l0_0 true _ ?side1 ?side2 A3.out).mono ?_); (case side1 => exact KCz (Kd.C_below HR0_0.out HB.out)); (case side2 => exact HC0_0.out); rintro e w8 ⟨rfl, hb⟩; have n0_ := BBz BK179 hb; have n1_ := Aside0.mk (below_step (HBb GE179) hb); clear BK179; clear HB; have BK179 := n0_; have HB := n1_; clear n0_ n1_; (try clear hb); (try clear hb2); (try clear hk); (try clear hi); have hcz9_0 := C1z BK179; have hcz9_1 := C2z BK179; have hfz9_0 := blk_frozen BK179.out 0; have hfz9_1 := blk_frozen BK179.out 1) | (go_at_call 109; (with_reducible refine (Vc.calls k _ _ l0_1 t181 _ ?side1 ?side2 A5.out).mono ?_); (case side1 => exact KCz (Kd.C_below HR0_1.out HB.out)); (case side2 => exact HC0_1.out); rintro e w10 ⟨rfl, hb⟩; have n0_ := BBz BK179 hb; have n1_ := Aside0.mk (below_step (HBb GE179) hb); clear BK179; clear HB; have BK179 := n0_; have HB := n1_; clear n0_ n1_; (try clear hb); (try clear hb2); (try clear hk); (try clear hi)))
 go_ret
 exact ⟨EZa, HBb GE179⟩
end Go.Proofs.YtmkeigielncpjaaGreatDoor.PFnAcl
