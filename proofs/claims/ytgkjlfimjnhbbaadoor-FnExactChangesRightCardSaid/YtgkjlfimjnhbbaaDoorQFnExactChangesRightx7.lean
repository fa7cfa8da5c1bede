-- Laid by this session's own program out of the translation; Lean checks it.
import Derived.Test.YtgkjlfimjnhbbaaDoorQFnExactChangesRightx0
import Derived.Test.YtgkjlfimjnhbbaaDoorQFnExactChangesRightx4
namespace Go.Proofs.YtgkjlfimjnhbbaaDoor.PFnExactChangesRight
open Go.RowKit Go.Proofs.YtgkjlfimjnhbbaaDoorW.PrintWords Go.Proofs.YtgkjlfimjnhbbaaDoorW.PrintLast Go.Proofs.YtgkjlfimjnhbbaaDoorW.PrintMore
attribute [local go_sem] max2_int min2_int max_two min_two max_three min_three max_four min_four   -- for this text's walks alone
set_option linter.unusedVariables false
set_option linter.unusedSimpArgs false
def spec_l03Values.l0 : Nat → List ByteArray → Int → Option (Bool)
 | 0, _, _ => none
 | k + 1, x0, x3 => if x3 < (x0.length : Int) then (if 0 ≤ x3 then ((spec_l02Value.f k (rdOf ByteArray.empty x0 x3)).bind fun t218 => (if t218 = true then (if x3 > 0 then (if 0 ≤ (wrap64 (x3 - 1)) then (if (wrap64 (x3 - 1)) < (x0.length : Int) then ((spec_Norm.f k (rdOf ByteArray.empty x0 (wrap64 (x3 - 1)))).bind fun t220 => ((spec_Norm.f k (rdOf ByteArray.empty x0 x3)).bind fun t222 => (if ((Op.bytesLess t220.toList t222.toList) = true) then (spec_l03Values.l0 k x0 (wrap64 (x3 + 1))) else (some false)))) else (none)) else (none)) else (spec_l03Values.l0 k x0 (wrap64 (x3 + 1)))) else (some false))) else (none)) else (if (x0.length : Int) ≥ 1 then (some (decide ((x0.length : Int) ≤ 4))) else (some false))
def spec_l03Values.f (k : Nat) (l0 : List ByteArray) : Option (Bool) := spec_l03Values.l0 k l0 0
theorem spec_l03Values.mono_l : ∀ k, (∀ y0 y1, LeO (spec_l03Values.l0 k y0 y1) (spec_l03Values.l0 (k + 1) y0 y1))
 | 0 => fun _ _ r h => by simp [spec_l03Values.l0] at h
 | k + 1 => by
  have ih0 := spec_l03Values.mono_l k
  ·intro y0 y1
   unfold spec_l03Values.l0
   repeat' first
   | (with_reducible exact ih0 _ _)
   | (with_reducible exact spec_Norm.mono _ _)
   | (with_reducible exact spec_l02Value.mono _ _)
   | (with_reducible exact LeO.refl _)
   | (with_reducible exact LeO.none _)
   | (with_reducible refine LeO.ite ?_ ?_)
   | (with_reducible refine LeO.bind ?_ (fun _ => ?_))
   | exact ih0 _ _
   | exact spec_Norm.mono _ _
   | exact spec_l02Value.mono _ _
   | exact LeO.none _
   | refine LeO.ite ?_ ?_
   | refine LeO.bind ?_ (fun _ => ?_)
theorem spec_l03Values.mono : ∀ a0 k, LeO (spec_l03Values.f k a0) (spec_l03Values.f (k + 1) a0) := by
 intro a0 k
 have ih0 := spec_l03Values.mono_l k
 unfold spec_l03Values.f
 repeat' first
   | (with_reducible exact ih0 _ _)
   | (with_reducible exact spec_Norm.mono _ _)
   | (with_reducible exact spec_l02Value.mono _ _)
   | (with_reducible exact LeO.refl _)
   | (with_reducible exact LeO.none _)
   | (with_reducible refine LeO.ite ?_ ?_)
   | (with_reducible refine LeO.bind ?_ (fun _ => ?_))
   | exact ih0 _ _
   | exact spec_Norm.mono _ _
   | exact spec_l02Value.mono _ _
   | exact LeO.none _
   | refine LeO.ite ?_ ?_
   | refine LeO.bind ?_ (fun _ => ?_)
def spec_l03Values.T4 : Bool × List (List Nat × List Nat) := (true, [([], []), ([], []), ([0, 1], [0, 1]), ([2], [2]), ([3], [3]), ([4], [4]), ([5, 4], [5]), ([6], [6]), ([7, 6], [6, 7]), ([8, 6, 6], [6, 8]), ([9], [9]), ([9], [9]), ([11, 9], [9, 11]), ([10, 12, 9], [9, 10, 12]), ([13, 9], [9, 13]), ([14, 9, 9], [9, 14]), ([9], [9]), ([9], [9]), ([16, 17, 9], [9, 16, 17]), ([18, 9], [9, 18]), ([19, 15, 9], [9, 19]), ([15, 20, 9], [9, 15, 20]), ([9, 21, 6], [6, 9, 21]), ([6, 22], [6, 22])])
def spec_l03Values.B4 : List Nat := [0, 0, 3, 7, 15, 31, 63, 127, 255, 511, 1023, 1023, 3071, 8191, 16383, 32767, 1023, 1023, 197631, 459775, 1048575, 2097151, 4194303, 8388607]
theorem spec_l03Values.tab4 : rtab .any (opsOf Tryd.f155 4) = spec_l03Values.T4 := by kernel_rfl
theorem spec_l03Values.bits4 : waitsOk spec_l03Values.T4.2 spec_l03Values.B4 = true := by kernel_rfl
set_option maxHeartbeats 8000000 in
set_option maxRecDepth 100000 in
theorem spec_l03Values.calls (k : Nat) (A0 : Option Addr) (c0 : Nat) (l0 : List ByteArray) (r : Bool) (w : World) (hr0 : Kd.C Kd.string w A0 l0.length l0) (hc0 : l0.length ≤ c0) (h : spec_l03Values.f k l0 = some r) :
  Calls Tryd.prog 155 #[.slice A0 l0.length c0] w fun e w' => e = .returned (.bool r) ∧ Below w.heap.size w w' := by
 have HR0 := Aside0.mk hr0
 have HC0 := Aside0.mk hc0
 clear hr0 hc0
 have HB := Aside0.mk (Below.refl w.heap.size w)
 have H : (spec_l03Values.l0 k l0 0) = some r := h
 clear h
 have H' := Aside0.mk H
 clear H
 go_enter Tryd.func155, Tryd.ntmps155
 go_wp2
 go_loopg [3] k (fun kq v3 w' => ∃ (x3_1 : Int), v3 = .int .i64 x3_1 ∧ Aside0 (spec_l03Values.l0 kq l0 x3_1 = some r) ∧ Aside0 (kq ≤ k) ∧ Aside0 (Below w.heap.size w w'))
 case atStart => exact ⟨(0), EZc, H', ⟨Nat.le_refl _⟩, ⟨HBa⟩⟩
 case round =>
  clear H'
  try clear c1
  obtain ⟨x3_1, rfl, HA, HK1, HB⟩ := hrel
  cases gk with
  | zero => exact absurd HA.out (by simp [spec_l03Values.l0])
  | succ k1 =>
   have H := HA.out
   clear HA
   simp only [spec_l03Values.l0] at H
   by_cases c2 : x3_1 < (l0.length : Int)
   rotate_left
   ·rw [if_neg c2] at H
    have c2b0 : decide (x3_1 < (l0.length : Int)) = false := decide_eq_false c2
    clear c2
    by_cases c25 : (l0.length : Int) ≥ 1
    ·rw [if_pos c25] at H
     have c25b0 : decide (1 ≤ (l0.length : Int)) = true := decide_eq_true c25
     have c25b1 : decide (1 ≤ l0.length) = true := decide_eq_true (by omega)
     clear c25
     obtain rfl := Option.some.inj H
     go_wp2
     go_ret
     exact ⟨EZa, HBa⟩
    rw [if_neg c25] at H
    have c25b0 : decide (1 ≤ (l0.length : Int)) = false := decide_eq_false c25
    have c25b1 : decide (1 ≤ l0.length) = false := decide_eq_false (by omega)
    clear c25
    obtain rfl := Option.some.inj H
    go_wp2
    go_ret
    exact ⟨EZa, HBa⟩
   rw [if_pos c2] at H
   have c2b0 : decide (x3_1 < (l0.length : Int)) = true := decide_eq_true c2
   clear c2
   by_cases c3 : 0 ≤ x3_1
   rotate_left
   ·rw [if_neg c3] at H
    exact absurd H (by simp)
   rw [if_pos c3] at H
   have c3b0 : decide (0 ≤ x3_1) = true := decide_eq_true c3
   clear c3
   replace H := Option.bind_eq_some_iff.mp H
   obtain ⟨t218, A40, H⟩ := H
   replace H : (if t218 = true then (if x3_1 > 0 then (if 0 ≤ (wrap64 (x3_1 - 1)) then (if (wrap64 (x3_1 - 1)) < (l0.length : Int) then ((spec_Norm.f k1 (rdOf ByteArray.empty l0 (wrap64 (x3_1 - 1)))).bind fun t220 => ((spec_Norm.f k1 (rdOf ByteArray.empty l0 x3_1)).bind fun t222 => (if ((Op.bytesLess t220.toList t222.toList) = true) then (spec_l03Values.l0 k1 l0 (wrap64 (x3_1 + 1))) else (some false)))) else (none)) else (none)) else (spec_l03Values.l0 k1 l0 (wrap64 (x3_1 + 1)))) else (some false)) = some r := H
   have A4 := Aside0.mk A40
   clear A40
   by_cases c5 : t218 = true
   rotate_left
   ·replace c5 := Bool.eq_false_iff.mpr c5
    subst c5
    have H1 : (some false) = some r := by rw [if_neg (show ¬ (false = true) by decide)] at H; exact H
    clear H
    have H := H1
    clear H1
    obtain rfl := Option.some.inj H
    try go_wp2
    have n0_ := Aside0.mk (below_drew1 HB.out)
    clear HB
    have HB := n0_
    clear n0_
    have p217 : 0 ≤ (x3_1 : Int) := ODz
    have q217 : x3_1 < (l0.length : Int) := ODz
    obtain ⟨ad217, e217, hx217_0⟩ := Kd.at_string HR0.out x3_1 p217 q217
    have hw217_0 := hx217_0
    cases e217
    replace hx217_0 := HXz HB hx217_0
    replace p217 := eq_true p217
    replace q217 := eq_true q217
    refine start_ (n := 24) (S := fun w' => w'.cell? (ad217.add (x3_1).toNat) = some (.string (rdOf ByteArray.empty l0 x3_1))) (ds := []) (bz 24 0) (by kernel_rfl) rfl (by kernel_rfl) ((HXz HB hw217_0 :)) (fun hHeld => ?_); refine with_tabW spec_l03Values.tab4 spec_l03Values.bits4 (fun HT_ HW_ => ?_)
    generalize wr.drew = w23 at HB hx217_0 hHeld ⊢
    refine PYz 0 10 (bz 24 1) rfl rfl (any_of HT_.out (by kernel_rfl)) ?_
    refine PYz 1 11 (bz 24 3) rfl rfl (any_of HT_.out (by kernel_rfl)) ?_
    refine PYz 2 12 (bz 24 7) rfl rfl (any_of HT_.out (by kernel_rfl)) ?_
    refine take_ (i := 3) (N := some 13) (v := ?_) (a' := ?_) (bz 24 15) rfl rfl (take_ofW HT_.out HW_.out (by kernel_rfl)) (fun _ _ _ h => h) (Or.inl ⟨by rfl, ?_⟩) hHeld ?_ ?_
    rotate_left
    ·intro w' s0
     go_simp
     with_reducible rfl
    rotate_left
    ·simp only [PUz]
     rfl
    refine one_ (i := 4) (N := some 14) (bz 24 31) rfl rfl (one_of HT_.out (by kernel_rfl)) (by decide) (fun K hK => ?_)
    refine goes_ Tryd.func74 (by kernel_rfl) rfl #[.string (rdOf ByteArray.empty l0 x3_1)] (by rfl) rfl rfl MPz ?_
    with_reducible refine (spec_l02Value.calls k1 (rdOf ByteArray.empty l0 x3_1) false _ A4.out).mono ?_
    rintro e w24 ⟨rfl, hb⟩
    refine ⟨_, rfl, ?_⟩
    have n0_ := Aside0.mk (below_step HBa hb)
    clear HB
    have HB := n0_
    clear n0_
    (try clear hb)
    (try clear hb2)
    (try clear hk)
    (try clear hi)
    refine hK.out _ _ ((HXz HB hw217_0 :)) (fun hHeld => ?_)
    clear hK K
    refine norm_ (a' := ?_) ?_ ?_
    rotate_left
    ·show Act.put _ (some 14) _ = _
     simp only [PUz]
     rfl
    refine PYz 5 15 (bz 24 63) rfl rfl (any_of HT_.out (by kernel_rfl)) ?_
    refine PYz 6 16 (bz 24 127) rfl rfl (any_of HT_.out (by kernel_rfl)) ?_
    refine PXz 7 17 (bz 24 255) rfl rfl (any_of HT_.out (by kernel_rfl)) ?_
    refine PXz 8 18 (bz 24 511) rfl rfl (any_of HT_.out (by kernel_rfl)) ?_
    refine PXz 9 19 (bz 24 1023) rfl rfl (any_of HT_.out (by kernel_rfl)) ?_
    refine PXz 10 20 (bz 24 2047) rfl rfl (any_of HT_.out (by kernel_rfl)) ?_
    refine PXz 11 21 (bz 24 4095) rfl rfl (any_of HT_.out (by kernel_rfl)) ?_
    refine PXz 12 22 (bz 24 8191) rfl rfl (any_of HT_.out (by kernel_rfl)) ?_
    refine PXz 13 23 (bz 24 16383) rfl rfl (any_of HT_.out (by kernel_rfl)) ?_
    refine PXz 14 24 (bz 24 32767) rfl rfl (any_of HT_.out (by kernel_rfl)) ?_
    refine PXz 15 25 (bz 24 65535) rfl rfl (any_of HT_.out (by kernel_rfl)) ?_
    refine PXz 16 26 (bz 24 131071) rfl rfl (any_of HT_.out (by kernel_rfl)) ?_
    refine PXz 17 27 (bz 24 262143) rfl rfl (any_of HT_.out (by kernel_rfl)) ?_
    refine PXz 18 28 (bz 24 524287) rfl rfl (any_of HT_.out (by kernel_rfl)) ?_
    refine PXz 19 29 (bz 24 1048575) rfl rfl (any_of HT_.out (by kernel_rfl)) ?_
    refine PXz 20 30 (bz 24 2097151) rfl rfl (any_of HT_.out (by kernel_rfl)) ?_
    refine PXz 21 31 (bz 24 4194303) rfl rfl (any_of HT_.out (by kernel_rfl)) ?_
    refine PXz 22 32 (bz 24 8388607) rfl rfl (any_of HT_.out (by kernel_rfl)) ?_
    refine PYz 23 33 (bz 24 16777215) rfl rfl (any_of HT_.out (by kernel_rfl)) ?_
    refine done_ (done_of HT_.out (by kernel_rfl)) ?_
    try go_wp2
    go_ret
    exact ⟨EZa, HBa⟩
   subst c5
   have H1 : (if x3_1 > 0 then (if 0 ≤ (wrap64 (x3_1 - 1)) then (if (wrap64 (x3_1 - 1)) < (l0.length : Int) then ((spec_Norm.f k1 (rdOf ByteArray.empty l0 (wrap64 (x3_1 - 1)))).bind fun t220 => ((spec_Norm.f k1 (rdOf ByteArray.empty l0 x3_1)).bind fun t222 => (if ((Op.bytesLess t220.toList t222.toList) = true) then (spec_l03Values.l0 k1 l0 (wrap64 (x3_1 + 1))) else (some false)))) else (none)) else (none)) else (spec_l03Values.l0 k1 l0 (wrap64 (x3_1 + 1)))) = some r := by rw [if_pos rfl] at H; exact H
   clear H
   have H := H1
   clear H1
   by_cases c6 : x3_1 > 0
   rotate_left
   ·rw [if_neg c6] at H
    have c6b0 : decide (0 < x3_1) = false := decide_eq_false c6
    clear c6
    have H' := Aside0.mk H
    clear H
    try go_wp2
    have n0_ := Aside0.mk (below_drew1 HB.out)
    clear HB
    have HB := n0_
    clear n0_
    have p217 : 0 ≤ (x3_1 : Int) := ODz
    have q217 : x3_1 < (l0.length : Int) := ODz
    obtain ⟨ad217, e217, hx217_0⟩ := Kd.at_string HR0.out x3_1 p217 q217
    have hw217_0 := hx217_0
    cases e217
    replace hx217_0 := HXz HB hx217_0
    replace p217 := eq_true p217
    replace q217 := eq_true q217
    refine start_ (n := 24) (S := fun w' => w'.cell? (ad217.add (x3_1).toNat) = some (.string (rdOf ByteArray.empty l0 x3_1))) (ds := []) (bz 24 0) (by kernel_rfl) rfl (by kernel_rfl) ((HXz HB hw217_0 :)) (fun hHeld => ?_); refine with_tabW spec_l03Values.tab4 spec_l03Values.bits4 (fun HT_ HW_ => ?_)
    generalize wr.drew = w21 at HB hx217_0 hHeld ⊢
    refine PYz 0 10 (bz 24 1) rfl rfl (any_of HT_.out (by kernel_rfl)) ?_
    refine PYz 1 11 (bz 24 3) rfl rfl (any_of HT_.out (by kernel_rfl)) ?_
    refine PYz 2 12 (bz 24 7) rfl rfl (any_of HT_.out (by kernel_rfl)) ?_
    refine take_ (i := 3) (N := some 13) (v := ?_) (a' := ?_) (bz 24 15) rfl rfl (take_ofW HT_.out HW_.out (by kernel_rfl)) (fun _ _ _ h => h) (Or.inl ⟨by rfl, ?_⟩) hHeld ?_ ?_
    rotate_left
    ·intro w' s0
     go_simp
     with_reducible rfl
    rotate_left
    ·simp only [PUz]
     rfl
    refine one_ (i := 4) (N := some 14) (bz 24 31) rfl rfl (one_of HT_.out (by kernel_rfl)) (by decide) (fun K hK => ?_)
    refine goes_ Tryd.func74 (by kernel_rfl) rfl #[.string (rdOf ByteArray.empty l0 x3_1)] (by rfl) rfl rfl MPz ?_
    with_reducible refine (spec_l02Value.calls k1 (rdOf ByteArray.empty l0 x3_1) true _ A4.out).mono ?_
    rintro e w22 ⟨rfl, hb⟩
    refine ⟨_, rfl, ?_⟩
    have n0_ := Aside0.mk (below_step HBa hb)
    clear HB
    have HB := n0_
    clear n0_
    (try clear hb)
    (try clear hb2)
    (try clear hk)
    (try clear hi)
    refine hK.out _ _ ((HXz HB hw217_0 :)) (fun hHeld => ?_)
    clear hK K
    refine norm_ (a' := ?_) ?_ ?_
    rotate_left
    ·show Act.put _ (some 14) _ = _
     simp only [PUz]
     rfl
    refine PYz 5 15 (bz 24 63) rfl rfl (any_of HT_.out (by kernel_rfl)) ?_
    refine PYz 6 16 (bz 24 127) rfl rfl (any_of HT_.out (by kernel_rfl)) ?_
    refine PYz 7 17 (bz 24 255) rfl rfl (any_of HT_.out (by kernel_rfl)) ?_
    refine PYz 8 18 (bz 24 511) rfl rfl (any_of HT_.out (by kernel_rfl)) ?_
    refine PYz 9 19 (bz 24 1023) rfl rfl (any_of HT_.out (by kernel_rfl)) ?_
    refine PXz 10 20 (bz 24 2047) rfl rfl (any_of HT_.out (by kernel_rfl)) ?_
    refine PXz 11 21 (bz 24 4095) rfl rfl (any_of HT_.out (by kernel_rfl)) ?_
    refine PXz 12 22 (bz 24 8191) rfl rfl (any_of HT_.out (by kernel_rfl)) ?_
    refine PXz 13 23 (bz 24 16383) rfl rfl (any_of HT_.out (by kernel_rfl)) ?_
    refine PXz 14 24 (bz 24 32767) rfl rfl (any_of HT_.out (by kernel_rfl)) ?_
    refine PXz 15 25 (bz 24 65535) rfl rfl (any_of HT_.out (by kernel_rfl)) ?_
    refine PXz 16 26 (bz 24 131071) rfl rfl (any_of HT_.out (by kernel_rfl)) ?_
    refine PXz 17 27 (bz 24 262143) rfl rfl (any_of HT_.out (by kernel_rfl)) ?_
    refine PXz 18 28 (bz 24 524287) rfl rfl (any_of HT_.out (by kernel_rfl)) ?_
    refine PXz 19 29 (bz 24 1048575) rfl rfl (any_of HT_.out (by kernel_rfl)) ?_
    refine PXz 20 30 (bz 24 2097151) rfl rfl (any_of HT_.out (by kernel_rfl)) ?_
    refine PXz 21 31 (bz 24 4194303) rfl rfl (any_of HT_.out (by kernel_rfl)) ?_
    refine PYz 22 32 (bz 24 8388607) rfl rfl (any_of HT_.out (by kernel_rfl)) ?_
    refine PYz 23 33 (bz 24 16777215) rfl rfl (any_of HT_.out (by kernel_rfl)) ?_
    refine done_ (done_of HT_.out (by kernel_rfl)) ?_
    try go_wp2
    go_roundg k1
    case measure => have := HK1.out; omega
    case rel => exact ⟨(wrap64 (x3_1 + 1)), EZc, H', ⟨by have := HK1.out; omega⟩, ⟨HBa⟩⟩
   rw [if_pos c6] at H
   have c6b0 : decide (0 < x3_1) = true := decide_eq_true c6
   clear c6
   obtain ⟨ji7, hji7⟩ : ∃ j_ : Int, (wrap64 (x3_1 - 1)) = j_ := ⟨_, rfl⟩
   replace H : (if 0 ≤ (ji7) then (if (ji7) < (l0.length : Int) then ((spec_Norm.f k1 (rdOf ByteArray.empty l0 (ji7))).bind fun t220 => ((spec_Norm.f k1 (rdOf ByteArray.empty l0 x3_1)).bind fun t222 => (if ((Op.bytesLess t220.toList t222.toList) = true) then (spec_l03Values.l0 k1 l0 (wrap64 (x3_1 + 1))) else (some false)))) else (none)) else (none)) = some r := by first | (rw [hji7] at H; exact H) | (simp only [hji7] at H ⊢; exact H)
   (try rw [hji7] at A4)
   have hji7w : (IntKind.i64.wrap (x3_1 - 1)) = ji7 := (i64_w _).trans hji7
   by_cases c8 : 0 ≤ (ji7)
   rotate_left
   ·rw [if_neg c8] at H
    exact absurd H (by simp)
   rw [if_pos c8] at H
   have c8b0 : decide (0 ≤ (ji7)) = true := decide_eq_true c8
   clear c8
   by_cases c9 : (ji7) < (l0.length : Int)
   rotate_left
   ·rw [if_neg c9] at H
    exact absurd H (by simp)
   rw [if_pos c9] at H
   have c9b0 : decide ((ji7) < (l0.length : Int)) = true := decide_eq_true c9
   clear c9
   replace H := Option.bind_eq_some_iff.mp H
   obtain ⟨t220, A100, H⟩ := H
   replace H : ((spec_Norm.f k1 (rdOf ByteArray.empty l0 x3_1)).bind fun t222 => (if ((Op.bytesLess t220.toList t222.toList) = true) then (spec_l03Values.l0 k1 l0 (wrap64 (x3_1 + 1))) else (some false))) = some r := H
   have A10 := Aside0.mk A100
   clear A100
   replace H := Option.bind_eq_some_iff.mp H
   obtain ⟨t222, A110, H⟩ := H
   replace H : (if ((Op.bytesLess t220.toList t222.toList) = true) then (spec_l03Values.l0 k1 l0 (wrap64 (x3_1 + 1))) else (some false)) = some r := H
   have A11 := Aside0.mk A110
   clear A110
   by_cases c12 : ((Op.bytesLess t220.toList t222.toList) = true)
   rotate_left
   ·rw [if_neg c12] at H
    have c12b0 : (Op.bytesLess t220.toList t222.toList) = false := by simpa using c12
    clear c12
    obtain rfl := Option.some.inj H
    try go_wp2
    have n0_ := Aside0.mk (below_drew1 HB.out)
    clear HB
    have HB := n0_
    clear n0_
    have p217 : 0 ≤ (x3_1 : Int) := ODz
    have q217 : x3_1 < (l0.length : Int) := ODz
    obtain ⟨ad217, e217, hx217_0⟩ := Kd.at_string HR0.out x3_1 p217 q217
    have hw217_0 := hx217_0
    cases e217
    replace hx217_0 := HXz HB hx217_0
    replace p217 := eq_true p217
    replace q217 := eq_true q217
    have p219 : 0 ≤ ((ji7) : Int) := ODz
    have q219 : (ji7) < (l0.length : Int) := ODz
    obtain ⟨ad219, e219, hx219_0⟩ := Kd.at_string HR0.out (ji7) p219 q219
    have hw219_0 := hx219_0
    obtain rfl : ad217 = ad219 := (by injection e219)
    replace hx219_0 := HXz HB hx219_0
    replace p219 := eq_true p219
    replace q219 := eq_true q219
    have p221 : 0 ≤ (x3_1 : Int) := ODz
    have q221 : x3_1 < (l0.length : Int) := ODz
    obtain ⟨ad221, e221, hx221_0⟩ := Kd.at_string HR0.out x3_1 p221 q221
    have hw221_0 := hx221_0
    obtain rfl : ad217 = ad221 := (by injection e221)
    replace hx221_0 := HXz HB hx221_0
    replace p221 := eq_true p221
    replace q221 := eq_true q221
    refine start_ (n := 24) (S := fun w' => w'.cell? (ad217.add (x3_1).toNat) = some (.string (rdOf ByteArray.empty l0 x3_1)) ∧ w'.cell? (ad217.add ((ji7)).toNat) = some (.string (rdOf ByteArray.empty l0 (ji7))) ∧ w'.cell? (ad217.add (x3_1).toNat) = some (.string (rdOf ByteArray.empty l0 x3_1))) (ds := []) (bz 24 0) (by kernel_rfl) rfl (by kernel_rfl) ⟨(HXz HB hw217_0 :), (HXz HB hw219_0 :), (HXz HB hw221_0 :)⟩ (fun hHeld => ?_); refine with_tabW spec_l03Values.tab4 spec_l03Values.bits4 (fun HT_ HW_ => ?_)
    generalize wr.drew = w17 at HB hx217_0 hx219_0 hx221_0 hHeld ⊢
    refine PYz 0 10 (bz 24 1) rfl rfl (any_of HT_.out (by kernel_rfl)) ?_
    refine PYz 1 11 (bz 24 3) rfl rfl (any_of HT_.out (by kernel_rfl)) ?_
    refine PYz 2 12 (bz 24 7) rfl rfl (any_of HT_.out (by kernel_rfl)) ?_
    refine take_ (i := 3) (N := some 13) (v := ?_) (a' := ?_) (bz 24 15) rfl rfl (take_ofW HT_.out HW_.out (by kernel_rfl)) (fun _ _ _ h => h) (Or.inl ⟨by rfl, ?_⟩) hHeld ?_ ?_
    rotate_left
    ·rintro w' ⟨s0, s1, s2⟩
     go_simp
     with_reducible rfl
    rotate_left
    ·simp only [PUz]
     rfl
    refine one_ (i := 4) (N := some 14) (bz 24 31) rfl rfl (one_of HT_.out (by kernel_rfl)) (by decide) (fun K hK => ?_)
    refine goes_ Tryd.func74 (by kernel_rfl) rfl #[.string (rdOf ByteArray.empty l0 x3_1)] (by rfl) rfl rfl MPz ?_
    with_reducible refine (spec_l02Value.calls k1 (rdOf ByteArray.empty l0 x3_1) true _ A4.out).mono ?_
    rintro e w18 ⟨rfl, hb⟩
    refine ⟨_, rfl, ?_⟩
    have n0_ := Aside0.mk (below_step HBa hb)
    clear HB
    have HB := n0_
    clear n0_
    (try clear hb)
    (try clear hb2)
    (try clear hk)
    (try clear hi)
    refine hK.out _ _ ⟨(HXz HB hw217_0 :), (HXz HB hw219_0 :), (HXz HB hw221_0 :)⟩ (fun hHeld => ?_)
    clear hK K
    refine norm_ (a' := ?_) ?_ ?_
    rotate_left
    ·show Act.put _ (some 14) _ = _
     simp only [PUz]
     rfl
    refine PYz 5 15 (bz 24 63) rfl rfl (any_of HT_.out (by kernel_rfl)) ?_
    refine PYz 6 16 (bz 24 127) rfl rfl (any_of HT_.out (by kernel_rfl)) ?_
    refine PYz 7 17 (bz 24 255) rfl rfl (any_of HT_.out (by kernel_rfl)) ?_
    refine PYz 8 18 (bz 24 511) rfl rfl (any_of HT_.out (by kernel_rfl)) ?_
    refine PYz 9 19 (bz 24 1023) rfl rfl (any_of HT_.out (by kernel_rfl)) ?_
    refine PYz 10 20 (bz 24 2047) rfl rfl (any_of HT_.out (by kernel_rfl)) ?_
    refine PYz 11 21 (bz 24 4095) rfl rfl (any_of HT_.out (by kernel_rfl)) ?_
    refine PYz 12 22 (bz 24 8191) rfl rfl (any_of HT_.out (by kernel_rfl)) ?_
    refine PYz 13 23 (bz 24 16383) rfl rfl (any_of HT_.out (by kernel_rfl)) ?_
    refine PYz 16 26 (bz 24 81919) rfl rfl (any_of HT_.out (by kernel_rfl)) ?_
    refine PYz 17 27 (bz 24 212991) rfl rfl (any_of HT_.out (by kernel_rfl)) ?_
    refine PYz 18 28 (bz 24 475135) rfl rfl (any_of HT_.out (by kernel_rfl)) ?_
    refine take_ (i := 14) (N := some 24) (v := ?_) (a' := ?_) (bz 24 491519) rfl rfl (take_ofW HT_.out HW_.out (by kernel_rfl)) (fun _ _ _ h => h) (Or.inl ⟨by rfl, ?_⟩) hHeld ?_ ?_
    rotate_left
    ·rintro w' ⟨s0, s1, s2⟩
     go_simp
     with_reducible rfl
    rotate_left
    ·simp only [PUz]
     rfl
    refine take_ (i := 19) (N := some 29) (v := ?_) (a' := ?_) (bz 24 1015807) rfl rfl (take_ofW HT_.out HW_.out (by kernel_rfl)) (fun _ _ _ h => h) (Or.inl ⟨by rfl, ?_⟩) hHeld ?_ ?_
    rotate_left
    ·rintro w' ⟨s0, s1, s2⟩
     go_simp
     with_reducible rfl
    rotate_left
    ·simp only [PUz]
     rfl
    refine one_ (i := 15) (N := some 25) (bz 24 1048575) rfl rfl (one_of HT_.out (by kernel_rfl)) (by decide) (fun K hK => ?_)
    refine goes_ Tryd.func76 (by kernel_rfl) rfl #[.string (rdOf ByteArray.empty l0 (ji7))] (by rfl) rfl rfl (by (try simp only [List.map_toArray, List.map_cons, List.map_nil]); first | done | (simp only [hji7]; rfl) | rfl | (simp only [List.length_drop, List.length_take]; rfl)) ?_
    with_reducible refine (spec_Norm.calls k1 (rdOf ByteArray.empty l0 (ji7)) t220 _ A10.out).mono ?_
    rintro e w19 ⟨rfl, hb⟩
    refine ⟨_, rfl, ?_⟩
    have n0_ := Aside0.mk (below_step HBa hb)
    clear HB
    have HB := n0_
    clear n0_
    (try clear hb)
    (try clear hb2)
    (try clear hk)
    (try clear hi)
    refine hK.out _ _ ⟨(HXz HB hw217_0 :), (HXz HB hw219_0 :), (HXz HB hw221_0 :)⟩ (fun hHeld => ?_)
    clear hK K
    refine norm_ (a' := ?_) ?_ ?_
    rotate_left
    ·show Act.put _ (some 25) _ = _
     simp only [PUz]
     rfl
    refine one_ (i := 20) (N := some 30) (bz 24 2097151) rfl rfl (one_of HT_.out (by kernel_rfl)) (by decide) (fun K hK => ?_)
    refine goes_ Tryd.func76 (by kernel_rfl) rfl #[.string (rdOf ByteArray.empty l0 x3_1)] (by rfl) rfl rfl MPz ?_
    with_reducible refine (spec_Norm.calls k1 (rdOf ByteArray.empty l0 x3_1) t222 _ A11.out).mono ?_
    rintro e w20 ⟨rfl, hb⟩
    refine ⟨_, rfl, ?_⟩
    have n0_ := Aside0.mk (below_step HBa hb)
    clear HB
    have HB := n0_
    clear n0_
    (try clear hb)
    (try clear hb2)
    (try clear hk)
    (try clear hi)
    refine hK.out _ _ ⟨(HXz HB hw217_0 :), (HXz HB hw219_0 :), (HXz HB hw221_0 :)⟩ (fun hHeld => ?_)
    clear hK K
    refine norm_ (a' := ?_) ?_ ?_
    rotate_left
    ·show Act.put _ (some 30) _ = _
     simp only [PUz]
     rfl
    refine PYz 21 31 (bz 24 4194303) rfl rfl (any_of HT_.out (by kernel_rfl)) ?_
    refine PYz 22 32 (bz 24 8388607) rfl rfl (any_of HT_.out (by kernel_rfl)) ?_
    refine PYz 23 33 (bz 24 16777215) rfl rfl (any_of HT_.out (by kernel_rfl)) ?_
    refine done_ (done_of HT_.out (by kernel_rfl)) ?_
    try go_wp2
    go_ret
    exact ⟨by first | rfl | (simp only [bne_nil_, beq_nil_]; rfl) | (simp [errW_none, errW_some] <;> rfl) | (simp only [← hji7]; first | rfl | (simp [errW_none, errW_some] <;> rfl)) | (simp [*, errW_none, errW_some] <;> rfl), HBa⟩
   rw [if_pos c12] at H
   have c12b0 : (Op.bytesLess t220.toList t222.toList) = true := c12
   clear c12
   have H' := Aside0.mk H
   clear H
   try go_wp2
   have n0_ := Aside0.mk (below_drew1 HB.out)
   clear HB
   have HB := n0_
   clear n0_
   have p217 : 0 ≤ (x3_1 : Int) := ODz
   have q217 : x3_1 < (l0.length : Int) := ODz
   obtain ⟨ad217, e217, hx217_0⟩ := Kd.at_string HR0.out x3_1 p217 q217
   have hw217_0 := hx217_0
   cases e217
   replace hx217_0 := HXz HB hx217_0
   replace p217 := eq_true p217
   replace q217 := eq_true q217
   have p219 : 0 ≤ ((ji7) : Int) := ODz
   have q219 : (ji7) < (l0.length : Int) := ODz
   obtain ⟨ad219, e219, hx219_0⟩ := Kd.at_string HR0.out (ji7) p219 q219
   have hw219_0 := hx219_0
   obtain rfl : ad217 = ad219 := (by injection e219)
   replace hx219_0 := HXz HB hx219_0
   replace p219 := eq_true p219
   replace q219 := eq_true q219
   have p221 : 0 ≤ (x3_1 : Int) := ODz
   have q221 : x3_1 < (l0.length : Int) := ODz
   obtain ⟨ad221, e221, hx221_0⟩ := Kd.at_string HR0.out x3_1 p221 q221
   have hw221_0 := hx221_0
   obtain rfl : ad217 = ad221 := (by injection e221)
   replace hx221_0 := HXz HB hx221_0
   replace p221 := eq_true p221
   replace q221 := eq_true q221
   refine start_ (n := 24) (S := fun w' => w'.cell? (ad217.add (x3_1).toNat) = some (.string (rdOf ByteArray.empty l0 x3_1)) ∧ w'.cell? (ad217.add ((ji7)).toNat) = some (.string (rdOf ByteArray.empty l0 (ji7))) ∧ w'.cell? (ad217.add (x3_1).toNat) = some (.string (rdOf ByteArray.empty l0 x3_1))) (ds := []) (bz 24 0) (by kernel_rfl) rfl (by kernel_rfl) ⟨(HXz HB hw217_0 :), (HXz HB hw219_0 :), (HXz HB hw221_0 :)⟩ (fun hHeld => ?_); refine with_tabW spec_l03Values.tab4 spec_l03Values.bits4 (fun HT_ HW_ => ?_)
   generalize wr.drew = w13 at HB hx217_0 hx219_0 hx221_0 hHeld ⊢
   refine PYz 0 10 (bz 24 1) rfl rfl (any_of HT_.out (by kernel_rfl)) ?_
   refine PYz 1 11 (bz 24 3) rfl rfl (any_of HT_.out (by kernel_rfl)) ?_
   refine PYz 2 12 (bz 24 7) rfl rfl (any_of HT_.out (by kernel_rfl)) ?_
   refine take_ (i := 3) (N := some 13) (v := ?_) (a' := ?_) (bz 24 15) rfl rfl (take_ofW HT_.out HW_.out (by kernel_rfl)) (fun _ _ _ h => h) (Or.inl ⟨by rfl, ?_⟩) hHeld ?_ ?_
   rotate_left
   ·rintro w' ⟨s0, s1, s2⟩
    go_simp
    with_reducible rfl
   rotate_left
   ·simp only [PUz]
    rfl
   refine one_ (i := 4) (N := some 14) (bz 24 31) rfl rfl (one_of HT_.out (by kernel_rfl)) (by decide) (fun K hK => ?_)
   refine goes_ Tryd.func74 (by kernel_rfl) rfl #[.string (rdOf ByteArray.empty l0 x3_1)] (by rfl) rfl rfl MPz ?_
   with_reducible refine (spec_l02Value.calls k1 (rdOf ByteArray.empty l0 x3_1) true _ A4.out).mono ?_
   rintro e w14 ⟨rfl, hb⟩
   refine ⟨_, rfl, ?_⟩
   have n0_ := Aside0.mk (below_step HBa hb)
   clear HB
   have HB := n0_
   clear n0_
   (try clear hb)
   (try clear hb2)
   (try clear hk)
   (try clear hi)
   refine hK.out _ _ ⟨(HXz HB hw217_0 :), (HXz HB hw219_0 :), (HXz HB hw221_0 :)⟩ (fun hHeld => ?_)
   clear hK K
   refine norm_ (a' := ?_) ?_ ?_
   rotate_left
   ·show Act.put _ (some 14) _ = _
    simp only [PUz]
    rfl
   refine PYz 5 15 (bz 24 63) rfl rfl (any_of HT_.out (by kernel_rfl)) ?_
   refine PYz 6 16 (bz 24 127) rfl rfl (any_of HT_.out (by kernel_rfl)) ?_
   refine PYz 7 17 (bz 24 255) rfl rfl (any_of HT_.out (by kernel_rfl)) ?_
   refine PYz 8 18 (bz 24 511) rfl rfl (any_of HT_.out (by kernel_rfl)) ?_
   refine PYz 9 19 (bz 24 1023) rfl rfl (any_of HT_.out (by kernel_rfl)) ?_
   refine PYz 10 20 (bz 24 2047) rfl rfl (any_of HT_.out (by kernel_rfl)) ?_
   refine PYz 11 21 (bz 24 4095) rfl rfl (any_of HT_.out (by kernel_rfl)) ?_
   refine PYz 12 22 (bz 24 8191) rfl rfl (any_of HT_.out (by kernel_rfl)) ?_
   refine PYz 13 23 (bz 24 16383) rfl rfl (any_of HT_.out (by kernel_rfl)) ?_
   refine PYz 16 26 (bz 24 81919) rfl rfl (any_of HT_.out (by kernel_rfl)) ?_
   refine PYz 17 27 (bz 24 212991) rfl rfl (any_of HT_.out (by kernel_rfl)) ?_
   refine PYz 18 28 (bz 24 475135) rfl rfl (any_of HT_.out (by kernel_rfl)) ?_
   refine take_ (i := 14) (N := some 24) (v := ?_) (a' := ?_) (bz 24 491519) rfl rfl (take_ofW HT_.out HW_.out (by kernel_rfl)) (fun _ _ _ h => h) (Or.inl ⟨by rfl, ?_⟩) hHeld ?_ ?_
   rotate_left
   ·rintro w' ⟨s0, s1, s2⟩
    go_simp
    with_reducible rfl
   rotate_left
   ·simp only [PUz]
    rfl
   refine take_ (i := 19) (N := some 29) (v := ?_) (a' := ?_) (bz 24 1015807) rfl rfl (take_ofW HT_.out HW_.out (by kernel_rfl)) (fun _ _ _ h => h) (Or.inl ⟨by rfl, ?_⟩) hHeld ?_ ?_
   rotate_left
   ·rintro w' ⟨s0, s1, s2⟩
    go_simp
    with_reducible rfl
   rotate_left
   ·simp only [PUz]
    rfl
   refine one_ (i := 15) (N := some 25) (bz 24 1048575) rfl rfl (one_of HT_.out (by kernel_rfl)) (by decide) (fun K hK => ?_)
   refine goes_ Tryd.func76 (by kernel_rfl) rfl #[.string (rdOf ByteArray.empty l0 (ji7))] (by rfl) rfl rfl (by (try simp only [List.map_toArray, List.map_cons, List.map_nil]); first | done | (simp only [hji7]; rfl) | rfl | (simp only [List.length_drop, List.length_take]; rfl)) ?_
   with_reducible refine (spec_Norm.calls k1 (rdOf ByteArray.empty l0 (ji7)) t220 _ A10.out).mono ?_
   rintro e w15 ⟨rfl, hb⟩
   refine ⟨_, rfl, ?_⟩
   have n0_ := Aside0.mk (below_step HBa hb)
   clear HB
   have HB := n0_
   clear n0_
   (try clear hb)
   (try clear hb2)
   (try clear hk)
   (try clear hi)
   refine hK.out _ _ ⟨(HXz HB hw217_0 :), (HXz HB hw219_0 :), (HXz HB hw221_0 :)⟩ (fun hHeld => ?_)
   clear hK K
   refine norm_ (a' := ?_) ?_ ?_
   rotate_left
   ·show Act.put _ (some 25) _ = _
    simp only [PUz]
    rfl
   refine one_ (i := 20) (N := some 30) (bz 24 2097151) rfl rfl (one_of HT_.out (by kernel_rfl)) (by decide) (fun K hK => ?_)
   refine goes_ Tryd.func76 (by kernel_rfl) rfl #[.string (rdOf ByteArray.empty l0 x3_1)] (by rfl) rfl rfl MPz ?_
   with_reducible refine (spec_Norm.calls k1 (rdOf ByteArray.empty l0 x3_1) t222 _ A11.out).mono ?_
   rintro e w16 ⟨rfl, hb⟩
   refine ⟨_, rfl, ?_⟩
   have n0_ := Aside0.mk (below_step HBa hb)
   clear HB
   have HB := n0_
   clear n0_
   (try clear hb)
   (try clear hb2)
   (try clear hk)
   (try clear hi)
   refine hK.out _ _ ⟨(HXz HB hw217_0 :), (HXz HB hw219_0 :), (HXz HB hw221_0 :)⟩ (fun hHeld => ?_)
   clear hK K
   refine norm_ (a' := ?_) ?_ ?_
   rotate_left
   ·show Act.put _ (some 30) _ = _
    simp only [PUz]
    rfl
   refine PYz 21 31 (bz 24 4194303) rfl rfl (any_of HT_.out (by kernel_rfl)) ?_
   refine PYz 22 32 (bz 24 8388607) rfl rfl (any_of HT_.out (by kernel_rfl)) ?_
   refine PYz 23 33 (bz 24 16777215) rfl rfl (any_of HT_.out (by kernel_rfl)) ?_
   refine done_ (done_of HT_.out (by kernel_rfl)) ?_
   try go_wp2
   go_roundg k1
   case measure => have := HK1.out; omega
   case rel => exact ⟨(wrap64 (x3_1 + 1)), EZc, H', ⟨by have := HK1.out; omega⟩, ⟨HBa⟩⟩
end Go.Proofs.YtgkjlfimjnhbbaaDoor.PFnExactChangesRight
