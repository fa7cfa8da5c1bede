-- Laid by this session's own program out of the translation; Lean checks it.
import Derived.Test.YtgkjlfimjnhbbaaDoorQFnExactChangesRightx0
import Derived.Test.YtgkjlfimjnhbbaaDoorQFnExactChangesRightx3
import Derived.Test.YtgkjlfimjnhbbaaDoorQFnExactChangesRightx4
namespace Go.Proofs.YtgkjlfimjnhbbaaDoor.PFnExactChangesRight
open Go.RowKit Go.Proofs.YtgkjlfimjnhbbaaDoorW.PrintWords Go.Proofs.YtgkjlfimjnhbbaaDoorW.PrintLast Go.Proofs.YtgkjlfimjnhbbaaDoorW.PrintMore
attribute [local go_sem] max2_int min2_int max_two min_two max_three min_three max_four min_four   -- for this text's walks alone
set_option linter.unusedVariables false
set_option linter.unusedSimpArgs false
def spec_DnRight.l0 : Nat → List (S126) → Int → Option (Bool)
 | 0, _, _ => none
 | k + 1, x0, x3 => if x3 < (x0.length : Int) then (if 0 ≤ x3 then ((spec_NameRight.f k ((rd_T126 x0 x3).f0)).bind fun t179 => (if t179 = true then ((spec_l02Value.f k ((rd_T126 x0 x3).f1)).bind fun t181 => (if t181 = true then (spec_DnRight.l0 k x0 (wrap64 (x3 + 1))) else (some false))) else (some false))) else (none)) else (some (decide ((x0.length : Int) ≤ 6)))
def spec_DnRight.f (k : Nat) (l0 : List (S126)) : Option (Bool) := spec_DnRight.l0 k l0 0
theorem spec_DnRight.mono_l : ∀ k, (∀ y0 y1, LeO (spec_DnRight.l0 k y0 y1) (spec_DnRight.l0 (k + 1) y0 y1))
 | 0 => fun _ _ r h => by simp [spec_DnRight.l0] at h
 | k + 1 => by
  have ih0 := spec_DnRight.mono_l k
  ·intro y0 y1
   unfold spec_DnRight.l0
   repeat' first
   | (with_reducible exact ih0 _ _)
   | (with_reducible exact spec_NameRight.mono _ _)
   | (with_reducible exact spec_l02Value.mono _ _)
   | (with_reducible exact LeO.refl _)
   | (with_reducible exact LeO.none _)
   | (with_reducible refine LeO.ite ?_ ?_)
   | (with_reducible refine LeO.bind ?_ (fun _ => ?_))
   | exact ih0 _ _
   | exact spec_NameRight.mono _ _
   | exact spec_l02Value.mono _ _
   | exact LeO.none _
   | refine LeO.ite ?_ ?_
   | refine LeO.bind ?_ (fun _ => ?_)
theorem spec_DnRight.mono : ∀ a0 k, LeO (spec_DnRight.f k a0) (spec_DnRight.f (k + 1) a0) := by
 intro a0 k
 have ih0 := spec_DnRight.mono_l k
 unfold spec_DnRight.f
 repeat' first
   | (with_reducible exact ih0 _ _)
   | (with_reducible exact spec_NameRight.mono _ _)
   | (with_reducible exact spec_l02Value.mono _ _)
   | (with_reducible exact LeO.refl _)
   | (with_reducible exact LeO.none _)
   | (with_reducible refine LeO.ite ?_ ?_)
   | (with_reducible refine LeO.bind ?_ (fun _ => ?_))
   | exact ih0 _ _
   | exact spec_NameRight.mono _ _
   | exact spec_l02Value.mono _ _
   | exact LeO.none _
   | refine LeO.ite ?_ ?_
   | refine LeO.bind ?_ (fun _ => ?_)
set_option maxHeartbeats 8000000 in
set_option maxRecDepth 100000 in
theorem spec_DnRight.calls (k : Nat) (A0 : Option Addr) (c0 : Nat) (l0 : List (S126)) (r : Bool) (w : World) (hr0 : Kd.C k126 w A0 l0.length l0) (hc0 : l0.length ≤ c0) (h : spec_DnRight.f k l0 = some r) :
  Calls Tryd.prog 94 #[.slice A0 l0.length c0] w fun e w' => e = .returned (.bool r) ∧ Below w.heap.size w w' := by
 have HR0 := Aside0.mk hr0
 have HC0 := Aside0.mk hc0
 clear hr0 hc0
 have HB := Aside0.mk (Below.refl w.heap.size w)
 have H : (spec_DnRight.l0 k l0 0) = some r := h
 clear h
 have H' := Aside0.mk H
 clear H
 go_enter Tryd.func94, Tryd.ntmps94
 go_wp2
 go_loopg [3] k (fun kq v3 w' => ∃ (x3_1 : Int), v3 = .int .i64 x3_1 ∧ Aside0 (spec_DnRight.l0 kq l0 x3_1 = some r) ∧ Aside0 (kq ≤ k) ∧ Aside0 (Below w.heap.size w w'))
 case atStart => exact ⟨(0), EZc, H', ⟨Nat.le_refl _⟩, ⟨HBa⟩⟩
 case round =>
  clear H'
  obtain ⟨x3_1, rfl, HA, HK1, HB⟩ := hrel
  cases gk with
  | zero => exact absurd HA.out (by simp [spec_DnRight.l0])
  | succ k1 =>
   have H := HA.out
   clear HA
   simp only [spec_DnRight.l0] at H
   by_cases c2 : x3_1 < (l0.length : Int)
   rotate_left
   ·rw [if_neg c2] at H
    have c2b0 : decide (x3_1 < (l0.length : Int)) = false := decide_eq_false c2
    clear c2
    obtain rfl := Option.some.inj H
    go_wp2
    go_ret
    exact ⟨EZa, HBa⟩
   rw [if_pos c2] at H
   have c2b0 : decide (x3_1 < (l0.length : Int)) = true := decide_eq_true c2
   clear c2
   by_cases c3 : 0 ≤ x3_1
   rotate_left
   ·rw [if_neg c3] at H
    exact absurd H (by simp)
   rw [if_pos c3] at H
   have c3b0 : decide (0 ≤ x3_1) = true := decide_eq_true c3
   clear c3
   replace H := Option.bind_eq_some_iff.mp H
   obtain ⟨t179, A40, H⟩ := H
   replace H : (if t179 = true then ((spec_l02Value.f k1 ((rd_T126 l0 x3_1).f1)).bind fun t181 => (if t181 = true then (spec_DnRight.l0 k1 l0 (wrap64 (x3_1 + 1))) else (some false))) else (some false)) = some r := H
   have A4 := Aside0.mk A40
   clear A40
   by_cases c5 : t179 = true
   rotate_left
   ·replace c5 := Bool.eq_false_iff.mpr c5
    subst c5
    have H1 : (some false) = some r := by rw [if_neg (show ¬ (false = true) by decide)] at H; exact H
    clear H
    have H := H1
    clear H1
    obtain rfl := Option.some.inj H
    have p178 : 0 ≤ (x3_1 : Int) := ODz
    have q178 : x3_1 < (l0.length : Int) := ODz
    obtain ⟨ad178, e178, hx178_0, hx178_1⟩ := at_T126 HR0.out x3_1 p178 q178
    cases e178
    replace hx178_0 := HXz HB hx178_0
    replace hx178_1 := HXz HB hx178_1
    replace p178 := eq_true p178
    replace q178 := eq_true q178
    go_wp2_with (first | ((with_reducible refine gate_callee (f := 43) rfl ?_); refine goesL_ (some 15) rfl rfl Tryd.func43 (by kernel_rfl) rfl #[.string ((rd_T126 l0 x3_1).f0)] rfl MPz ?_; (with_reducible refine (spec_NameRight.calls k1 ((rd_T126 l0 x3_1).f0) false _ A4.out).mono ?_); rintro e w' ⟨rfl, ⟨nd, rfl⟩⟩; refine ⟨_, rfl, ?_⟩))
    go_ret
    exact ⟨EZa, HBa⟩
   subst c5
   have H1 : ((spec_l02Value.f k1 ((rd_T126 l0 x3_1).f1)).bind fun t181 => (if t181 = true then (spec_DnRight.l0 k1 l0 (wrap64 (x3_1 + 1))) else (some false))) = some r := by rw [if_pos rfl] at H; exact H
   clear H
   have H := H1
   clear H1
   replace H := Option.bind_eq_some_iff.mp H
   obtain ⟨t181, A60, H⟩ := H
   replace H : (if t181 = true then (spec_DnRight.l0 k1 l0 (wrap64 (x3_1 + 1))) else (some false)) = some r := H
   have A6 := Aside0.mk A60
   clear A60
   by_cases c7 : t181 = true
   ·subst c7
    have H1 : (spec_DnRight.l0 k1 l0 (wrap64 (x3_1 + 1))) = some r := by rw [if_pos rfl] at H; exact H
    clear H
    have H := H1
    clear H1
    have H' := Aside0.mk H
    clear H
    have p178 : 0 ≤ (x3_1 : Int) := ODz
    have q178 : x3_1 < (l0.length : Int) := ODz
    obtain ⟨ad178, e178, hx178_0, hx178_1⟩ := at_T126 HR0.out x3_1 p178 q178
    cases e178
    replace hx178_0 := HXz HB hx178_0
    replace hx178_1 := HXz HB hx178_1
    replace p178 := eq_true p178
    replace q178 := eq_true q178
    go_wp2_with (first | ((with_reducible refine gate_callee (f := 43) rfl ?_); refine goesL_ (some 15) rfl rfl Tryd.func43 (by kernel_rfl) rfl #[.string ((rd_T126 l0 x3_1).f0)] rfl MPz ?_; (with_reducible refine (spec_NameRight.calls k1 ((rd_T126 l0 x3_1).f0) true _ A4.out).mono ?_); rintro e w' ⟨rfl, ⟨nd, rfl⟩⟩; refine ⟨_, rfl, ?_⟩; have p180 : 0 ≤ (x3_1 : Int) := ODz; have q180 : x3_1 < (l0.length : Int) := ODz; obtain ⟨ad180, e180, hx180_0, hx180_1⟩ := at_T126 HR0.out x3_1 p180 q180; obtain rfl : ad178 = ad180 := (by injection e180); replace hx180_0 := HXz HB hx180_0; replace hx180_1 := HXz HB hx180_1; replace p180 := eq_true p180; replace q180 := eq_true q180) | (go_at_call 74; (with_reducible refine (spec_l02Value.calls k1 ((rd_T126 l0 x3_1).f1) true _ A6.out).mono ?_); rintro e w8 ⟨rfl, hb⟩; have n0_ := Aside0.mk (below_step HBa hb); clear HB; have HB := n0_; clear n0_; (try clear hb); (try clear hb2); (try clear hk); (try clear hi)))
    go_roundg k1
    case measure => have := HK1.out; omega
    case rel => exact ⟨(wrap64 (x3_1 + 1)), EZc, H', ⟨by have := HK1.out; omega⟩, ⟨HBa⟩⟩
   replace c7 := Bool.eq_false_iff.mpr c7
   subst c7
   have H1 : (some false) = some r := by rw [if_neg (show ¬ (false = true) by decide)] at H; exact H
   clear H
   have H := H1
   clear H1
   obtain rfl := Option.some.inj H
   have p178 : 0 ≤ (x3_1 : Int) := ODz
   have q178 : x3_1 < (l0.length : Int) := ODz
   obtain ⟨ad178, e178, hx178_0, hx178_1⟩ := at_T126 HR0.out x3_1 p178 q178
   cases e178
   replace hx178_0 := HXz HB hx178_0
   replace hx178_1 := HXz HB hx178_1
   replace p178 := eq_true p178
   replace q178 := eq_true q178
   go_wp2_with (first | ((with_reducible refine gate_callee (f := 43) rfl ?_); refine goesL_ (some 15) rfl rfl Tryd.func43 (by kernel_rfl) rfl #[.string ((rd_T126 l0 x3_1).f0)] rfl MPz ?_; (with_reducible refine (spec_NameRight.calls k1 ((rd_T126 l0 x3_1).f0) true _ A4.out).mono ?_); rintro e w' ⟨rfl, ⟨nd, rfl⟩⟩; refine ⟨_, rfl, ?_⟩; have p180 : 0 ≤ (x3_1 : Int) := ODz; have q180 : x3_1 < (l0.length : Int) := ODz; obtain ⟨ad180, e180, hx180_0, hx180_1⟩ := at_T126 HR0.out x3_1 p180 q180; obtain rfl : ad178 = ad180 := (by injection e180); replace hx180_0 := HXz HB hx180_0; replace hx180_1 := HXz HB hx180_1; replace p180 := eq_true p180; replace q180 := eq_true q180) | (go_at_call 74; (with_reducible refine (spec_l02Value.calls k1 ((rd_T126 l0 x3_1).f1) false _ A6.out).mono ?_); rintro e w9 ⟨rfl, hb⟩; have n0_ := Aside0.mk (below_step HBa hb); clear HB; have HB := n0_; clear n0_; (try clear hb); (try clear hb2); (try clear hk); (try clear hi)))
   go_ret
   exact ⟨EZa, HBa⟩
def spec_l02Odd.j0 : Nat → ByteArray → Int → Int → Bool → Option (Bool)
 | 0, _, _, _, _ => none
 | k + 1, x0, x1, x7, x8 => if x8 = true then (some true) else (if x7 = 35 then (some (x1 == 0)) else (if x7 = 32 then (if x1 = 0 then (some true) else (some (x1 == (wrap64 ((x0.size : Int) - 1))))) else (some false)))
def spec_l02Odd.f (k : Nat) (a0 : ByteArray) (a1 : Int) : Option (Bool) := if 0 ≤ a1 then (if a1 < (a0.size : Int) then (if (bt a0 a1) = 44 then (spec_l02Odd.j0 k a0 a1 (bt a0 a1) ((bt a0 a1) == 44)) else (if (bt a0 a1) = 43 then (spec_l02Odd.j0 k a0 a1 (bt a0 a1) ((bt a0 a1) == 43)) else (if (bt a0 a1) = 34 then (spec_l02Odd.j0 k a0 a1 (bt a0 a1) ((bt a0 a1) == 34)) else (if (bt a0 a1) = 92 then (spec_l02Odd.j0 k a0 a1 (bt a0 a1) ((bt a0 a1) == 92)) else (if (bt a0 a1) = 60 then (spec_l02Odd.j0 k a0 a1 (bt a0 a1) ((bt a0 a1) == 60)) else (if (bt a0 a1) = 62 then (spec_l02Odd.j0 k a0 a1 (bt a0 a1) ((bt a0 a1) == 62)) else (if (bt a0 a1) = 59 then (spec_l02Odd.j0 k a0 a1 (bt a0 a1) ((bt a0 a1) == 59)) else (spec_l02Odd.j0 k a0 a1 (bt a0 a1) ((bt a0 a1) == 61))))))))) else (none)) else (none)
theorem spec_l02Odd.mono_l : ∀ k, (∀ y0 y1 y2 y3, LeO (spec_l02Odd.j0 k y0 y1 y2 y3) (spec_l02Odd.j0 (k + 1) y0 y1 y2 y3))
 | 0 => fun _ _ _ _ r h => by simp [spec_l02Odd.j0] at h
 | k + 1 => by
  have ih0 := spec_l02Odd.mono_l k
  ·intro y0 y1 y2 y3
   unfold spec_l02Odd.j0
   repeat' first
   | (with_reducible exact ih0 _ _ _ _)
   | (with_reducible exact LeO.refl _)
   | (with_reducible exact LeO.none _)
   | (with_reducible refine LeO.ite ?_ ?_)
   | (with_reducible refine LeO.bind ?_ (fun _ => ?_))
   | exact ih0 _ _ _ _
   | exact LeO.none _
   | refine LeO.ite ?_ ?_
   | refine LeO.bind ?_ (fun _ => ?_)
theorem spec_l02Odd.mono : ∀ a0 a1 k, LeO (spec_l02Odd.f k a0 a1) (spec_l02Odd.f (k + 1) a0 a1) := by
 intro a0 a1 k
 have ih0 := spec_l02Odd.mono_l k
 unfold spec_l02Odd.f
 repeat' first
   | (with_reducible exact ih0 _ _ _ _)
   | (with_reducible exact LeO.refl _)
   | (with_reducible exact LeO.none _)
   | (with_reducible refine LeO.ite ?_ ?_)
   | (with_reducible refine LeO.bind ?_ (fun _ => ?_))
   | exact ih0 _ _ _ _
   | exact LeO.none _
   | refine LeO.ite ?_ ?_
   | refine LeO.bind ?_ (fun _ => ?_)
set_option maxHeartbeats 8000000 in
set_option maxRecDepth 100000 in
theorem spec_l02Odd.calls (k : Nat) (a0 : ByteArray) (a1 : Int) (r : Bool) (w : World) (h : spec_l02Odd.f k a0 a1 = some r) :
  Calls Tryd.prog 183 #[.string a0, .int .i64 a1] w fun e w' => e = .returned (.bool r) ∧ Drawn0 w w' := by
 have H : (if 0 ≤ a1 then (if a1 < (a0.size : Int) then (if (bt a0 a1) = 44 then (spec_l02Odd.j0 k a0 a1 (bt a0 a1) ((bt a0 a1) == 44)) else (if (bt a0 a1) = 43 then (spec_l02Odd.j0 k a0 a1 (bt a0 a1) ((bt a0 a1) == 43)) else (if (bt a0 a1) = 34 then (spec_l02Odd.j0 k a0 a1 (bt a0 a1) ((bt a0 a1) == 34)) else (if (bt a0 a1) = 92 then (spec_l02Odd.j0 k a0 a1 (bt a0 a1) ((bt a0 a1) == 92)) else (if (bt a0 a1) = 60 then (spec_l02Odd.j0 k a0 a1 (bt a0 a1) ((bt a0 a1) == 60)) else (if (bt a0 a1) = 62 then (spec_l02Odd.j0 k a0 a1 (bt a0 a1) ((bt a0 a1) == 62)) else (if (bt a0 a1) = 59 then (spec_l02Odd.j0 k a0 a1 (bt a0 a1) ((bt a0 a1) == 59)) else (spec_l02Odd.j0 k a0 a1 (bt a0 a1) ((bt a0 a1) == 61))))))))) else (none)) else (none)) = some r := h
 clear h
 by_cases c3 : 0 ≤ a1
 rotate_left
 ·rw [if_neg c3] at H
  exact absurd H (by simp)
 rw [if_pos c3] at H
 have c3b0 : decide (0 ≤ a1) = true := decide_eq_true c3
 clear c3
 by_cases c4 : a1 < (a0.size : Int)
 rotate_left
 ·rw [if_neg c4] at H
  exact absurd H (by simp)
 rw [if_pos c4] at H
 have c4b0 : decide (a1 < (a0.size : Int)) = true := decide_eq_true c4
 clear c4
 have HC6 := Aside0.mk H
 clear H
 have p5 : 0 ≤ (a1 : Int) := ODz
 have q5 : a1 < (a0.size : Int) := ODz
 have hx5 := bt_at a0 a1
 replace p5 := eq_true p5
 replace q5 := eq_true q5
 go_enter Tryd.func183, Tryd.ntmps183
 go_upto_if 8 with (fail)
 go_cut [8] (fun v8 wc => ∃ (kq : Nat) (x8_5 : Bool), v8 = .bool x8_5 ∧ Aside0 (spec_l02Odd.j0 kq a0 a1 (bt a0 a1) x8_5 = some r) ∧ Aside0 (kq ≤ k) ∧ Drawn0 w wc)
 case first =>
  have H := HC6.out
  clear HC6
  by_cases c7 : (bt a0 a1) = 44
  ·rw [if_pos c7] at H
   have c7b0 : ((bt a0 a1) == 44) = true := beq_iff_eq.mpr c7
   have c7b1 : ((bt a0 a1) != 44) = false := bne_eq_false_iff_eq.mpr c7
   clear c7
   (first | rw [c7b0] | rw [c7v0] | (simp only [i64_w, i32_w]; rw [c7b0]) | (simp only [i64_w, i32_w]; rw [c7v0]) | skip)
   have H' := Aside0.mk H
   clear H
   go_wp2
   go_meet
   case rel => exact ⟨_, (((bt a0 a1) == 44)), EZc, H', ⟨by first | omega | exact Nat.le_refl _⟩, DRz⟩
  rw [if_neg c7] at H
  have c7b0 : ((bt a0 a1) == 44) = false := beq_eq_false_iff_ne.mpr c7
  have c7b1 : ((bt a0 a1) != 44) = true := bne_iff_ne.mpr c7
  (first | rw [c7b0] | rw [c7v0] | (simp only [i64_w, i32_w]; rw [c7b0]) | (simp only [i64_w, i32_w]; rw [c7v0]) | skip)
  by_cases c8 : (bt a0 a1) = 43
  ·rw [if_pos c8] at H
   have c8b0 : ((bt a0 a1) == 43) = true := beq_iff_eq.mpr c8
   have c8b1 : ((bt a0 a1) != 43) = false := bne_eq_false_iff_eq.mpr c8
   clear c8
   have H' := Aside0.mk H
   clear H
   go_wp2
   go_meet
   case rel => exact ⟨_, (((bt a0 a1) == 43)), EZc, H', ⟨by first | omega | exact Nat.le_refl _⟩, DRz⟩
  rw [if_neg c8] at H
  have c8b0 : ((bt a0 a1) == 43) = false := beq_eq_false_iff_ne.mpr c8
  have c8b1 : ((bt a0 a1) != 43) = true := bne_iff_ne.mpr c8
  by_cases c9 : (bt a0 a1) = 34
  ·rw [if_pos c9] at H
   have c9b0 : ((bt a0 a1) == 34) = true := beq_iff_eq.mpr c9
   have c9b1 : ((bt a0 a1) != 34) = false := bne_eq_false_iff_eq.mpr c9
   clear c9
   have H' := Aside0.mk H
   clear H
   go_wp2
   go_meet
   case rel => exact ⟨_, (((bt a0 a1) == 34)), EZc, H', ⟨by first | omega | exact Nat.le_refl _⟩, DRz⟩
  rw [if_neg c9] at H
  have c9b0 : ((bt a0 a1) == 34) = false := beq_eq_false_iff_ne.mpr c9
  have c9b1 : ((bt a0 a1) != 34) = true := bne_iff_ne.mpr c9
  by_cases c10 : (bt a0 a1) = 92
  ·rw [if_pos c10] at H
   have c10b0 : ((bt a0 a1) == 92) = true := beq_iff_eq.mpr c10
   have c10b1 : ((bt a0 a1) != 92) = false := bne_eq_false_iff_eq.mpr c10
   clear c10
   have H' := Aside0.mk H
   clear H
   go_wp2
   go_meet
   case rel => exact ⟨_, (((bt a0 a1) == 92)), EZc, H', ⟨by first | omega | exact Nat.le_refl _⟩, DRz⟩
  rw [if_neg c10] at H
  have c10b0 : ((bt a0 a1) == 92) = false := beq_eq_false_iff_ne.mpr c10
  have c10b1 : ((bt a0 a1) != 92) = true := bne_iff_ne.mpr c10
  by_cases c11 : (bt a0 a1) = 60
  ·rw [if_pos c11] at H
   have c11b0 : ((bt a0 a1) == 60) = true := beq_iff_eq.mpr c11
   have c11b1 : ((bt a0 a1) != 60) = false := bne_eq_false_iff_eq.mpr c11
   clear c11
   have H' := Aside0.mk H
   clear H
   go_wp2
   go_meet
   case rel => exact ⟨_, (((bt a0 a1) == 60)), EZc, H', ⟨by first | omega | exact Nat.le_refl _⟩, DRz⟩
  rw [if_neg c11] at H
  have c11b0 : ((bt a0 a1) == 60) = false := beq_eq_false_iff_ne.mpr c11
  have c11b1 : ((bt a0 a1) != 60) = true := bne_iff_ne.mpr c11
  by_cases c12 : (bt a0 a1) = 62
  ·rw [if_pos c12] at H
   have c12b0 : ((bt a0 a1) == 62) = true := beq_iff_eq.mpr c12
   have c12b1 : ((bt a0 a1) != 62) = false := bne_eq_false_iff_eq.mpr c12
   clear c12
   have H' := Aside0.mk H
   clear H
   go_wp2
   go_meet
   case rel => exact ⟨_, (((bt a0 a1) == 62)), EZc, H', ⟨by first | omega | exact Nat.le_refl _⟩, DRz⟩
  rw [if_neg c12] at H
  have c12b0 : ((bt a0 a1) == 62) = false := beq_eq_false_iff_ne.mpr c12
  have c12b1 : ((bt a0 a1) != 62) = true := bne_iff_ne.mpr c12
  by_cases c13 : (bt a0 a1) = 59
  ·rw [if_pos c13] at H
   have c13b0 : ((bt a0 a1) == 59) = true := beq_iff_eq.mpr c13
   have c13b1 : ((bt a0 a1) != 59) = false := bne_eq_false_iff_eq.mpr c13
   clear c13
   have H' := Aside0.mk H
   clear H
   go_wp2
   go_meet
   case rel => exact ⟨_, (((bt a0 a1) == 59)), EZc, H', ⟨by first | omega | exact Nat.le_refl _⟩, DRz⟩
  rw [if_neg c13] at H
  have c13b0 : ((bt a0 a1) == 59) = false := beq_eq_false_iff_ne.mpr c13
  have c13b1 : ((bt a0 a1) != 59) = true := bne_iff_ne.mpr c13
  have H' := Aside0.mk H
  clear H
  go_wp2
  go_meet
  case rel => exact ⟨_, (((bt a0 a1) == 61)), EZc, H', ⟨by first | omega | exact Nat.le_refl _⟩, DRz⟩
 case rest =>
  clear HC6
  try clear c1
  try clear p2
  try clear c3
  try clear c3b0
  try clear c4
  try clear c4b0
  try clear p5
  try clear q5
  try clear hx5
  try clear c7
  try clear c7b0
  try clear c7b1
  try clear c8
  try clear c8b0
  try clear c8b1
  try clear c9
  try clear c9b0
  try clear c9b1
  try clear c10
  try clear c10b0
  try clear c10b1
  try clear c11
  try clear c11b0
  try clear c11b1
  try clear c12
  try clear c12b0
  try clear c12b1
  try clear c13
  try clear c13b0
  try clear c13b1
  try clear p5
  try clear q5
  obtain ⟨kq, x8_5, rfl, HA, HJ5, ⟨mc5, rfl⟩⟩ := hcut
  cases kq with
  | zero => exact absurd HA.out (by simp [spec_l02Odd.j0])
  | succ kj5 =>
   have H := HA.out
   clear HA
   simp only [spec_l02Odd.j0] at H
   by_cases c14 : x8_5 = true
   ·subst c14
    have H1 : (some true) = some r := by rw [if_pos rfl] at H; exact H
    clear H
    have H := H1
    clear H1
    obtain rfl := Option.some.inj H
    go_wp2
    go_ret
    exact ⟨EZb, DRz⟩
   replace c14 := Bool.eq_false_iff.mpr c14
   subst c14
   have H1 : (if (bt a0 a1) = 35 then (some (a1 == 0)) else (if (bt a0 a1) = 32 then (if a1 = 0 then (some true) else (some (a1 == (wrap64 ((a0.size : Int) - 1))))) else (some false))) = some r := by rw [if_neg (show ¬ (false = true) by decide)] at H; exact H
   clear H
   have H := H1
   clear H1
   by_cases c15 : (bt a0 a1) = 35
   ·rw [if_pos c15] at H
    have c15b0 : ((bt a0 a1) == 35) = true := beq_iff_eq.mpr c15
    have c15b1 : ((bt a0 a1) != 35) = false := bne_eq_false_iff_eq.mpr c15
    clear c15
    obtain rfl := Option.some.inj H
    go_wp2
    go_ret
    exact ⟨EZb, DRz⟩
   rw [if_neg c15] at H
   have c15b0 : ((bt a0 a1) == 35) = false := beq_eq_false_iff_ne.mpr c15
   have c15b1 : ((bt a0 a1) != 35) = true := bne_iff_ne.mpr c15
   by_cases c16 : (bt a0 a1) = 32
   ·rw [if_pos c16] at H
    have c16b0 : ((bt a0 a1) == 32) = true := beq_iff_eq.mpr c16
    have c16b1 : ((bt a0 a1) != 32) = false := bne_eq_false_iff_eq.mpr c16
    clear c16
    by_cases c17 : a1 = 0
    ·rw [if_pos c17] at H
     have c17b0 : (a1 == 0) = true := beq_iff_eq.mpr c17
     have c17b1 : (a1 != 0) = false := bne_eq_false_iff_eq.mpr c17
     clear c17
     obtain rfl := Option.some.inj H
     go_wp2
     go_ret
     exact ⟨EZb, DRz⟩
    rw [if_neg c17] at H
    have c17b0 : (a1 == 0) = false := beq_eq_false_iff_ne.mpr c17
    have c17b1 : (a1 != 0) = true := bne_iff_ne.mpr c17
    obtain rfl := Option.some.inj H
    go_wp2
    go_ret
    exact ⟨EZb, DRz⟩
   rw [if_neg c16] at H
   have c16b0 : ((bt a0 a1) == 32) = false := beq_eq_false_iff_ne.mpr c16
   have c16b1 : ((bt a0 a1) != 32) = true := bne_iff_ne.mpr c16
   obtain rfl := Option.some.inj H
   go_wp2
   go_ret
   exact ⟨EZb, DRz⟩
def spec_l02Escape.l0 : Nat → ByteArray → List Int → Int → Option (ByteArray)
 | 0, _, _, _ => none
 | k + 1, x0, x3, x4 => if x4 < (x0.size : Int) then ((spec_l02Odd.f k x0 x4).bind fun t185 => (if t185 = true then (if x3.length < 140737488355328 then ((some (x3 ++ [92] : List Int)).bind fun y186 => (if 0 ≤ x4 then (if y186.length < 140737488355328 then (spec_l02Escape.l0 k x0 (y186 ++ [bt x0 x4]) (wrap64 (x4 + 1))) else (none)) else (none))) else (none)) else (if 0 ≤ x4 then (if x3.length < 140737488355328 then (spec_l02Escape.l0 k x0 (x3 ++ [bt x0 x4]) (wrap64 (x4 + 1))) else (none)) else (none)))) else (some (strOfNums x3))
def spec_l02Escape.f (k : Nat) (a0 : ByteArray) : Option (ByteArray) := spec_l02Escape.l0 k a0 (([] : List Int)) 0
theorem spec_l02Escape.mono_l : ∀ k, (∀ y0 y1 y2, LeO (spec_l02Escape.l0 k y0 y1 y2) (spec_l02Escape.l0 (k + 1) y0 y1 y2))
 | 0 => fun _ _ _ r h => by simp [spec_l02Escape.l0] at h
 | k + 1 => by
  have ih0 := spec_l02Escape.mono_l k
  ·intro y0 y1 y2
   unfold spec_l02Escape.l0
   repeat' first
   | (with_reducible exact ih0 _ _ _)
   | (with_reducible exact spec_l02Odd.mono _ _ _)
   | (with_reducible exact LeO.refl _)
   | (with_reducible exact LeO.none _)
   | (with_reducible refine LeO.ite ?_ ?_)
   | (with_reducible refine LeO.bind ?_ (fun _ => ?_))
   | exact ih0 _ _ _
   | exact spec_l02Odd.mono _ _ _
   | exact LeO.none _
   | refine LeO.ite ?_ ?_
   | refine LeO.bind ?_ (fun _ => ?_)
theorem spec_l02Escape.mono : ∀ a0 k, LeO (spec_l02Escape.f k a0) (spec_l02Escape.f (k + 1) a0) := by
 intro a0 k
 have ih0 := spec_l02Escape.mono_l k
 unfold spec_l02Escape.f
 repeat' first
   | (with_reducible exact ih0 _ _ _)
   | (with_reducible exact spec_l02Odd.mono _ _ _)
   | (with_reducible exact LeO.refl _)
   | (with_reducible exact LeO.none _)
   | (with_reducible refine LeO.ite ?_ ?_)
   | (with_reducible refine LeO.bind ?_ (fun _ => ?_))
   | exact ih0 _ _ _
   | exact spec_l02Odd.mono _ _ _
   | exact LeO.none _
   | refine LeO.ite ?_ ?_
   | refine LeO.bind ?_ (fun _ => ?_)
set_option maxHeartbeats 8000000 in
set_option maxRecDepth 100000 in
theorem spec_l02Escape.calls (k : Nat) (a0 : ByteArray) (r : ByteArray) (w : World) (h : spec_l02Escape.f k a0 = some r) :
  Calls Tryd.prog 154 #[.string a0] w fun e w' => e = .returned (.string r) ∧ Below w.heap.size w w' := by
 have HB := Aside0.mk (Below.refl w.heap.size w)
 have H : (spec_l02Escape.l0 k a0 (([] : List Int)) 0) = some r := h
 clear h
 obtain ⟨y182, hy182⟩ : ∃ y_ : List Int, y_ = (([] : List Int)) := ⟨_, rfl⟩
 replace H : (spec_l02Escape.l0 k a0 y182 0) = some r := by first | (rw [hy182]; with_reducible exact H) | (have H2_ := (Option.bind_some _ _).symm.trans H; rw [hy182]; with_reducible exact H2_) | (have H2_ := (Option.bind_some _ _).symm.trans H; with_reducible exact H2_) | with_reducible exact H | (rw [hy182]; exact H) | exact H
 have Ny182 := Aside0.mk hy182
 clear hy182
 have H' := Aside0.mk H
 clear H
 go_enter Tryd.func154, Tryd.ntmps154
 go_wp2_with (first | ((with_reducible refine gate_dst (N := 5) rfl ?_); refine Kd.R_lit (Kd.int .u8) _ 5 ?hg (N := 5) ?hd (xs := ([] : List Int)) (inner := []) (ok := fun _ => True) (okp := fun _ => True) ?hr ?hp (fun _ hk => hk) trivial (Below.refl _ _) (Nat.le_refl _) (by simp) ?_; (case hd => rfl); (case hg => rfl); (case hr => first | (go_simp; done) | (go_simp; rfl)); (case hp => exact (Reps.none _ _)); intro v183 w2 ho3 hb hg_ hnew_; clear hg_ hnew_; (first | rw [← Ny182.out] at ho3 | (simp only [Int.reduceToNat] at ho3; rw [← Ny182.out] at ho3)); have n0_ := Aside0.mk (Kd.R_lower ho3 (below_size HBa)); have n1_ := Aside0.mk (below_step HBa hb); clear HB; have HO184 := n0_; have HB := n1_; clear n0_ n1_; clear hb ho3))
 go_loopg [3, 4] k (fun kq v3 v4 w' => ∃ (x3_1 : List Int) (x4_1 : Int), v4 = .int .i64 x4_1 ∧ Aside0 (spec_l02Escape.l0 kq a0 x3_1 x4_1 = some r) ∧ Aside0 (kq ≤ k) ∧ Aside0 (Kd.R (Kd.int .u8) 5 w' w.heap.size (fun _ => True) v3 x3_1) ∧ Aside0 (Below w.heap.size w w'))
 case atStart => exact ⟨(y182), (0), EZc, H', ⟨Nat.le_refl _⟩, ⟨by (with_reducible repeat (first | apply Kd.R_alloc | apply Kd.R_drewN | apply Kd.R_drew)); exact HO184.out⟩, ⟨HBa⟩⟩
 case round =>
  clear H'
  try clear c1
  try clear p2
  obtain ⟨x3_1, x4_1, rfl, HA, HK1, HO_3, HB⟩ := hrel
  cases gk with
  | zero => exact absurd HA.out (by simp [spec_l02Escape.l0])
  | succ k1 =>
   have H := HA.out
   clear HA
   simp only [spec_l02Escape.l0] at H
   by_cases c4 : x4_1 < (a0.size : Int)
   rotate_left
   ·rw [if_neg c4] at H
    have c4b0 : decide (x4_1 < (a0.size : Int)) = false := decide_eq_false c4
    clear c4
    obtain rfl := Option.some.inj H
    have hcv17 := own_string (P := Tryd.prog) Tryd.underlying135 Tryd.underlying5 Tryd.underlying9 (Kd.own_of_R HO_3.out)
    go_wp2
    go_ret
    exact ⟨EZa, HBa⟩
   rw [if_pos c4] at H
   have c4b0 : decide (x4_1 < (a0.size : Int)) = true := decide_eq_true c4
   clear c4
   replace H := Option.bind_eq_some_iff.mp H
   obtain ⟨t185, A50, H⟩ := H
   replace H : (if t185 = true then (if x3_1.length < 140737488355328 then ((some (x3_1 ++ [92] : List Int)).bind fun y186 => (if 0 ≤ x4_1 then (if y186.length < 140737488355328 then (spec_l02Escape.l0 k1 a0 (y186 ++ [bt a0 x4_1]) (wrap64 (x4_1 + 1))) else (none)) else (none))) else (none)) else (if 0 ≤ x4_1 then (if x3_1.length < 140737488355328 then (spec_l02Escape.l0 k1 a0 (x3_1 ++ [bt a0 x4_1]) (wrap64 (x4_1 + 1))) else (none)) else (none))) = some r := H
   have A5 := Aside0.mk A50
   clear A50
   by_cases c6 : t185 = true
   rotate_left
   ·replace c6 := Bool.eq_false_iff.mpr c6
    subst c6
    have H1 : (if 0 ≤ x4_1 then (if x3_1.length < 140737488355328 then (spec_l02Escape.l0 k1 a0 (x3_1 ++ [bt a0 x4_1]) (wrap64 (x4_1 + 1))) else (none)) else (none)) = some r := by rw [if_neg (show ¬ (false = true) by decide)] at H; exact H
    clear H
    have H := H1
    clear H1
    by_cases c13 : 0 ≤ x4_1
    rotate_left
    ·rw [if_neg c13] at H
     exact absurd H (by simp)
    rw [if_pos c13] at H
    have c13b0 : decide (0 ≤ x4_1) = true := decide_eq_true c13
    clear c13
    by_cases c15 : x3_1.length < 140737488355328
    ·rw [if_pos c15] at H
     have LMc15 := Aside0.mk c15
     clear c15
     obtain ⟨y192, hy192⟩ : ∃ y_ : List Int, y_ = (x3_1 ++ [bt a0 x4_1]) := ⟨_, rfl⟩
     replace H : (spec_l02Escape.l0 k1 a0 y192 (wrap64 (x4_1 + 1))) = some r := by first | (rw [hy192]; with_reducible exact H) | (have H2_ := (Option.bind_some _ _).symm.trans H; rw [hy192]; with_reducible exact H2_) | (have H2_ := (Option.bind_some _ _).symm.trans H; with_reducible exact H2_) | with_reducible exact H | (rw [hy192]; exact H) | exact H
     have Ny192 := Aside0.mk hy192
     clear hy192
     have H' := Aside0.mk H
     clear H
     go_wp2_with (first | ((with_reducible refine gate_callee (f := 183) rfl ?_); refine goesL_ (some 14) rfl rfl Tryd.func183 (by kernel_rfl) rfl #[.string a0, .int .i64 x4_1] rfl MPz ?_; (with_reducible refine (spec_l02Odd.calls k1 a0 x4_1 false _ A5.out).mono ?_); rintro e w' ⟨rfl, ⟨nd, rfl⟩⟩; refine ⟨_, rfl, ?_⟩; have p14 : 0 ≤ (x4_1 : Int) := ODz; have q14 : x4_1 < (a0.size : Int) := ODz; have hx14 := bt_at a0 x4_1; replace p14 := eq_true p14; replace q14 := eq_true q14) | ((with_reducible refine gate_builtin (b := .append) (xs := #[.tmp 18, .tmp 22]) rfl ?_); at_builtin; refine Kd.R_append (Kd.int .u8) (w0 := w) w.heap.size rfl (.tmp 18) (.tmp 22) 135 5 (.int .u8 0) 1 rfl Tryd.underlying135 info5 rfl (by decide) (by omega) u3 x3_1 (bt a0 x4_1) [.int .u8 (bt a0 x4_1)] (fun _ => True) (fun _ => False) rfl rfl ?aP (fun _ hk => hk.elim) ?aF ?aO ?aB ?aS ?aL ?_; (case aP => exact rfl); (case aB => exact HBa); (case aF => exact (fun _ _ => trivial)); (case aO => exact (KRz HO_3)); (case aS => exact (below_size HBa)); (case aL => have := LMc15.out; omega); intro v193 w16 ho hb hg hat; rw [← Ny192.out] at ho; have n0_ := Aside0.mk (hb); have n1_ := Aside0.mk (ho); clear HB; clear HO_3; have HB := n0_; have HO194 := n1_; clear n0_ n1_; clear ho hb hg hat))
     go_roundg k1
     case measure => have := HK1.out; omega
     case rel => exact ⟨(y192), (wrap64 (x4_1 + 1)), EZc, H', ⟨by have := HK1.out; omega⟩, ⟨by (with_reducible repeat (first | apply Kd.R_alloc | apply Kd.R_drewN | apply Kd.R_drew)); exact HO194.out⟩, ⟨HBa⟩⟩
    rw [if_neg c15] at H
    exact absurd H (by simp)
   subst c6
   have H1 : (if x3_1.length < 140737488355328 then ((some (x3_1 ++ [92] : List Int)).bind fun y186 => (if 0 ≤ x4_1 then (if y186.length < 140737488355328 then (spec_l02Escape.l0 k1 a0 (y186 ++ [bt a0 x4_1]) (wrap64 (x4_1 + 1))) else (none)) else (none))) else (none)) = some r := by rw [if_pos rfl] at H; exact H
   clear H
   have H := H1
   clear H1
   by_cases c7 : x3_1.length < 140737488355328
   rotate_left
   ·rw [if_neg c7] at H
    exact absurd H (by simp)
   rw [if_pos c7] at H
   have LMc7 := Aside0.mk c7
   clear c7
   obtain ⟨y186, hy186⟩ : ∃ y_ : List Int, y_ = (x3_1 ++ [92]) := ⟨_, rfl⟩
   replace H : (if 0 ≤ x4_1 then (if y186.length < 140737488355328 then (spec_l02Escape.l0 k1 a0 (y186 ++ [bt a0 x4_1]) (wrap64 (x4_1 + 1))) else (none)) else (none)) = some r := by first | (rw [hy186]; with_reducible exact H) | (have H2_ := (Option.bind_some _ _).symm.trans H; rw [hy186]; with_reducible exact H2_) | (have H2_ := (Option.bind_some _ _).symm.trans H; with_reducible exact H2_) | with_reducible exact H | (rw [hy186]; exact H) | exact H
   have Ny186 := Aside0.mk hy186
   clear hy186
   by_cases c8 : 0 ≤ x4_1
   ·rw [if_pos c8] at H
    have c8b0 : decide (0 ≤ x4_1) = true := decide_eq_true c8
    clear c8
    by_cases c10 : y186.length < 140737488355328
    ·rw [if_pos c10] at H
     have LMc10 := Aside0.mk c10
     clear c10
     obtain ⟨y189, hy189⟩ : ∃ y_ : List Int, y_ = (y186 ++ [bt a0 x4_1]) := ⟨_, rfl⟩
     replace H : (spec_l02Escape.l0 k1 a0 y189 (wrap64 (x4_1 + 1))) = some r := by first | (rw [hy189]; with_reducible exact H) | (have H2_ := (Option.bind_some _ _).symm.trans H; rw [hy189]; with_reducible exact H2_) | (have H2_ := (Option.bind_some _ _).symm.trans H; with_reducible exact H2_) | with_reducible exact H | (rw [hy189]; exact H) | exact H
     have Ny189 := Aside0.mk hy189
     clear hy189
     have H' := Aside0.mk H
     clear H
     go_wp2_with (first | ((with_reducible refine gate_callee (f := 183) rfl ?_); refine goesL_ (some 14) rfl rfl Tryd.func183 (by kernel_rfl) rfl #[.string a0, .int .i64 x4_1] rfl MPz ?_; (with_reducible refine (spec_l02Odd.calls k1 a0 x4_1 true _ A5.out).mono ?_); rintro e w' ⟨rfl, ⟨nd, rfl⟩⟩; refine ⟨_, rfl, ?_⟩) | ((with_reducible refine gate_builtin (b := .append) (xs := #[.tmp 15, .tmp 16]) rfl ?_); at_builtin; refine Kd.R_append (Kd.int .u8) (w0 := w) w.heap.size rfl (.tmp 15) (.tmp 16) 135 5 (.int .u8 0) 1 rfl Tryd.underlying135 info5 rfl (by decide) (by omega) u3 x3_1 92 [.int .u8 92] (fun _ => True) (fun _ => False) rfl rfl ?aP (fun _ hk => hk.elim) ?aF ?aO ?aB ?aS ?aL ?_; (case aP => exact rfl); (case aB => exact HBa); (case aF => exact (fun _ _ => trivial)); (case aO => exact (KRz HO_3)); (case aS => exact (below_size HBa)); (case aL => have := LMc7.out; omega); intro v187 w11 ho hb hg hat; rw [← Ny186.out] at ho; have n0_ := Aside0.mk (hb); have n1_ := Aside0.mk (ho); clear HB; clear HO_3; have HB := n0_; have HO188 := n1_; clear n0_ n1_; clear ho hb hg hat; have p9 : 0 ≤ (x4_1 : Int) := ODz; have q9 : x4_1 < (a0.size : Int) := ODz; have hx9 := bt_at a0 x4_1; replace p9 := eq_true p9; replace q9 := eq_true q9) | ((with_reducible refine gate_builtin (b := .append) (xs := #[.tmp 18, .tmp 22]) rfl ?_); at_builtin; refine Kd.R_append (Kd.int .u8) (w0 := w) w.heap.size rfl (.tmp 18) (.tmp 22) 135 5 (.int .u8 0) 1 rfl Tryd.underlying135 info5 rfl (by decide) (by omega) v187 y186 (bt a0 x4_1) [.int .u8 (bt a0 x4_1)] (fun _ => True) (fun _ => False) rfl rfl ?aP (fun _ hk => hk.elim) ?aF ?aO ?aB ?aS ?aL ?_; (case aP => exact rfl); (case aB => exact HBa); (case aF => exact (fun _ _ => trivial)); (case aO => exact (KRz HO188)); (case aS => exact (below_size HBa)); (case aL => have := LMc10.out; omega); intro v190 w12 ho hb hg hat; rw [← Ny189.out] at ho; have n0_ := Aside0.mk (hb); have n1_ := Aside0.mk (ho); clear HB; clear HO188; have HB := n0_; have HO191 := n1_; clear n0_ n1_; clear ho hb hg hat))
     go_roundg k1
     case measure => have := HK1.out; omega
     case rel => exact ⟨(y189), (wrap64 (x4_1 + 1)), EZc, H', ⟨by have := HK1.out; omega⟩, ⟨by (with_reducible repeat (first | apply Kd.R_alloc | apply Kd.R_drewN | apply Kd.R_drew)); exact HO191.out⟩, ⟨HBa⟩⟩
    rw [if_neg c10] at H
    exact absurd H (by simp)
   rw [if_neg c8] at H
   exact absurd H (by simp)
end Go.Proofs.YtgkjlfimjnhbbaaDoor.PFnExactChangesRight
