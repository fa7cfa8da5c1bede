-- Laid by this session's own program out of the translation; Lean checks it.
import Derived.Test.YtgkjlfimjnhbbaaDoorQFnExactChangesRightx0
import Derived.Test.YtgkjlfimjnhbbaaDoorLayIndexByte
namespace Go.Proofs.YtgkjlfimjnhbbaaDoor.PFnExactChangesRight
open Go.RowKit Go.Proofs.YtgkjlfimjnhbbaaDoorW.PrintWords Go.Proofs.YtgkjlfimjnhbbaaDoorW.PrintLast Go.Proofs.YtgkjlfimjnhbbaaDoorW.PrintMore
attribute [local go_sem] max2_int min2_int max_two min_two max_three min_three max_four min_four   -- for this text's walks alone
set_option linter.unusedVariables false
set_option linter.unusedSimpArgs false
def strings_IndexByte.f (a0 : ByteArray) (a1 : Int) : Option (Int) := some (Lib.indexByte a0.data.toList a1.toNat.toUInt8)
theorem strings_IndexByte.calls (a0 : ByteArray) (a1 : Int) (r : Int) (w : World) (h : strings_IndexByte.f a0 a1 = some r) :
  Calls Tryd.prog 194 #[.string a0, .int .u8 a1] w fun e w' => e = .returned (.int .i64 r) ∧ Drawn0 w w' := by
 obtain rfl := Option.some.inj h
 refine (show Calls Tryd.prog 194 _ _ _ from Any.strings_IndexByte Tryd.lays137 a0 a1 w).mono ?_
 rintro e w' ⟨he, rfl⟩
 exact ⟨he, Drawn0.refl _⟩
def impl_isMarked.f (a0 : ByteArray) (a1 : Int) : Option (Bool) := if 0 ≤ a1 then (if a1 < (a0.size : Int) then ((strings_IndexByte.f (⟨#[44, 43, 34, 92, 60, 62, 59, 61]⟩ : ByteArray) (bt a0 a1)).bind fun t344 => (if t344 ≥ 0 then (some true) else (if (bt a0 a1) = 35 then (if a1 = 0 then (some true) else (if (bt a0 a1) = 32 then (some (a1 == (wrap64 ((a0.size : Int) - 1)))) else (some false))) else (if (bt a0 a1) = 32 then (if a1 = 0 then (some true) else (some (a1 == (wrap64 ((a0.size : Int) - 1))))) else (some false))))) else (none)) else (none)
set_option maxHeartbeats 8000000 in
set_option maxRecDepth 100000 in
theorem impl_isMarked.calls (a0 : ByteArray) (a1 : Int) (r : Bool) (w : World) (h : impl_isMarked.f a0 a1 = some r) :
  Calls Tryd.prog 189 #[.string a0, .int .i64 a1] w fun e w' => e = .returned (.bool r) ∧ Drawn0 w w' := by
 have H : (if 0 ≤ a1 then (if a1 < (a0.size : Int) then ((strings_IndexByte.f (⟨#[44, 43, 34, 92, 60, 62, 59, 61]⟩ : ByteArray) (bt a0 a1)).bind fun t344 => (if t344 ≥ 0 then (some true) else (if (bt a0 a1) = 35 then (if a1 = 0 then (some true) else (if (bt a0 a1) = 32 then (some (a1 == (wrap64 ((a0.size : Int) - 1)))) else (some false))) else (if (bt a0 a1) = 32 then (if a1 = 0 then (some true) else (some (a1 == (wrap64 ((a0.size : Int) - 1))))) else (some false))))) else (none)) else (none)) = some r := h
 clear h
 by_cases c3 : 0 ≤ a1
 rotate_left
 ·rw [if_neg c3] at H
  exact absurd H (by simp)
 rw [if_pos c3] at H
 have c3b0 : decide (0 ≤ a1) = true := decide_eq_true c3
 clear c3
 by_cases c4 : a1 < (a0.size : Int)
 rotate_left
 ·rw [if_neg c4] at H
  exact absurd H (by simp)
 rw [if_pos c4] at H
 have c4b0 : decide (a1 < (a0.size : Int)) = true := decide_eq_true c4
 clear c4
 replace H := Option.bind_eq_some_iff.mp H
 obtain ⟨t344, A60, H⟩ := H
 replace H : (if t344 ≥ 0 then (some true) else (if (bt a0 a1) = 35 then (if a1 = 0 then (some true) else (if (bt a0 a1) = 32 then (some (a1 == (wrap64 ((a0.size : Int) - 1)))) else (some false))) else (if (bt a0 a1) = 32 then (if a1 = 0 then (some true) else (some (a1 == (wrap64 ((a0.size : Int) - 1))))) else (some false)))) = some r := H
 have A6 := Aside0.mk A60
 clear A60
 by_cases c7 : t344 ≥ 0
 ·rw [if_pos c7] at H
  have c7b0 : decide (0 ≤ t344) = true := decide_eq_true c7
  clear c7
  obtain rfl := Option.some.inj H
  have p5 : 0 ≤ (a1 : Int) := ODz
  have q5 : a1 < (a0.size : Int) := ODz
  have hx5 := bt_at a0 a1
  replace p5 := eq_true p5
  replace q5 := eq_true q5
  go_enter Tryd.func189, Tryd.ntmps189
  go_wp2_with (first | ((with_reducible refine gate_callee (f := 194) rfl ?_); refine goesL_ (some 10) rfl rfl Tryd.func194 (by kernel_rfl) rfl #[.string (⟨#[44, 43, 34, 92, 60, 62, 59, 61]⟩ : ByteArray), .int .u8 (bt a0 a1)] rfl MPz ?_; (with_reducible refine (strings_IndexByte.calls (⟨#[44, 43, 34, 92, 60, 62, 59, 61]⟩ : ByteArray) (bt a0 a1) t344 _ A6.out).mono ?_); rintro e w' ⟨rfl, ⟨nd, rfl⟩⟩; refine ⟨_, rfl, ?_⟩))
  go_ret
  exact ⟨EZb, DRz⟩
 rw [if_neg c7] at H
 have c7b0 : decide (0 ≤ t344) = false := decide_eq_false c7
 clear c7
 by_cases c8 : (bt a0 a1) = 35
 rotate_left
 ·rw [if_neg c8] at H
  have c8b0 : ((bt a0 a1) == 35) = false := beq_eq_false_iff_ne.mpr c8
  have c8b1 : ((bt a0 a1) != 35) = true := bne_iff_ne.mpr c8
  by_cases c11 : (bt a0 a1) = 32
  rotate_left
  ·rw [if_neg c11] at H
   have c11b0 : ((bt a0 a1) == 32) = false := beq_eq_false_iff_ne.mpr c11
   have c11b1 : ((bt a0 a1) != 32) = true := bne_iff_ne.mpr c11
   obtain rfl := Option.some.inj H
   have p5 : 0 ≤ (a1 : Int) := ODz
   have q5 : a1 < (a0.size : Int) := ODz
   have hx5 := bt_at a0 a1
   replace p5 := eq_true p5
   replace q5 := eq_true q5
   go_enter Tryd.func189, Tryd.ntmps189
   go_wp2_with (first | ((with_reducible refine gate_callee (f := 194) rfl ?_); refine goesL_ (some 10) rfl rfl Tryd.func194 (by kernel_rfl) rfl #[.string (⟨#[44, 43, 34, 92, 60, 62, 59, 61]⟩ : ByteArray), .int .u8 (bt a0 a1)] rfl MPz ?_; (with_reducible refine (strings_IndexByte.calls (⟨#[44, 43, 34, 92, 60, 62, 59, 61]⟩ : ByteArray) (bt a0 a1) t344 _ A6.out).mono ?_); rintro e w' ⟨rfl, ⟨nd, rfl⟩⟩; refine ⟨_, rfl, ?_⟩))
   go_ret
   exact ⟨EZb, DRz⟩
  rw [if_pos c11] at H
  have c11b0 : ((bt a0 a1) == 32) = true := beq_iff_eq.mpr c11
  have c11b1 : ((bt a0 a1) != 32) = false := bne_eq_false_iff_eq.mpr c11
  clear c11
  by_cases c12 : a1 = 0
  ·rw [if_pos c12] at H
   have c12b0 : (a1 == 0) = true := beq_iff_eq.mpr c12
   have c12b1 : (a1 != 0) = false := bne_eq_false_iff_eq.mpr c12
   clear c12
   obtain rfl := Option.some.inj H
   have p5 : 0 ≤ (a1 : Int) := ODz
   have q5 : a1 < (a0.size : Int) := ODz
   have hx5 := bt_at a0 a1
   replace p5 := eq_true p5
   replace q5 := eq_true q5
   go_enter Tryd.func189, Tryd.ntmps189
   go_wp2_with (first | ((with_reducible refine gate_callee (f := 194) rfl ?_); refine goesL_ (some 10) rfl rfl Tryd.func194 (by kernel_rfl) rfl #[.string (⟨#[44, 43, 34, 92, 60, 62, 59, 61]⟩ : ByteArray), .int .u8 (bt a0 a1)] rfl MPz ?_; (with_reducible refine (strings_IndexByte.calls (⟨#[44, 43, 34, 92, 60, 62, 59, 61]⟩ : ByteArray) (bt a0 a1) t344 _ A6.out).mono ?_); rintro e w' ⟨rfl, ⟨nd, rfl⟩⟩; refine ⟨_, rfl, ?_⟩))
   go_ret
   exact ⟨EZb, DRz⟩
  rw [if_neg c12] at H
  have c12b0 : (a1 == 0) = false := beq_eq_false_iff_ne.mpr c12
  have c12b1 : (a1 != 0) = true := bne_iff_ne.mpr c12
  obtain rfl := Option.some.inj H
  have p5 : 0 ≤ (a1 : Int) := ODz
  have q5 : a1 < (a0.size : Int) := ODz
  have hx5 := bt_at a0 a1
  replace p5 := eq_true p5
  replace q5 := eq_true q5
  go_enter Tryd.func189, Tryd.ntmps189
  go_wp2_with (first | ((with_reducible refine gate_callee (f := 194) rfl ?_); refine goesL_ (some 10) rfl rfl Tryd.func194 (by kernel_rfl) rfl #[.string (⟨#[44, 43, 34, 92, 60, 62, 59, 61]⟩ : ByteArray), .int .u8 (bt a0 a1)] rfl MPz ?_; (with_reducible refine (strings_IndexByte.calls (⟨#[44, 43, 34, 92, 60, 62, 59, 61]⟩ : ByteArray) (bt a0 a1) t344 _ A6.out).mono ?_); rintro e w' ⟨rfl, ⟨nd, rfl⟩⟩; refine ⟨_, rfl, ?_⟩))
  go_ret
  exact ⟨EZb, DRz⟩
 rw [if_pos c8] at H
 have c8b0 : ((bt a0 a1) == 35) = true := beq_iff_eq.mpr c8
 have c8b1 : ((bt a0 a1) != 35) = false := bne_eq_false_iff_eq.mpr c8
 clear c8
 by_cases c9 : a1 = 0
 ·rw [if_pos c9] at H
  have c9b0 : (a1 == 0) = true := beq_iff_eq.mpr c9
  have c9b1 : (a1 != 0) = false := bne_eq_false_iff_eq.mpr c9
  clear c9
  obtain rfl := Option.some.inj H
  have p5 : 0 ≤ (a1 : Int) := ODz
  have q5 : a1 < (a0.size : Int) := ODz
  have hx5 := bt_at a0 a1
  replace p5 := eq_true p5
  replace q5 := eq_true q5
  go_enter Tryd.func189, Tryd.ntmps189
  go_wp2_with (first | ((with_reducible refine gate_callee (f := 194) rfl ?_); refine goesL_ (some 10) rfl rfl Tryd.func194 (by kernel_rfl) rfl #[.string (⟨#[44, 43, 34, 92, 60, 62, 59, 61]⟩ : ByteArray), .int .u8 (bt a0 a1)] rfl MPz ?_; (with_reducible refine (strings_IndexByte.calls (⟨#[44, 43, 34, 92, 60, 62, 59, 61]⟩ : ByteArray) (bt a0 a1) t344 _ A6.out).mono ?_); rintro e w' ⟨rfl, ⟨nd, rfl⟩⟩; refine ⟨_, rfl, ?_⟩))
  go_ret
  exact ⟨EZb, DRz⟩
 rw [if_neg c9] at H
 have c9b0 : (a1 == 0) = false := beq_eq_false_iff_ne.mpr c9
 have c9b1 : (a1 != 0) = true := bne_iff_ne.mpr c9
 by_cases c10 : (bt a0 a1) = 32
 ·rw [if_pos c10] at H
  have c10b0 : ((bt a0 a1) == 32) = true := beq_iff_eq.mpr c10
  have c10b1 : ((bt a0 a1) != 32) = false := bne_eq_false_iff_eq.mpr c10
  clear c10
  obtain rfl := Option.some.inj H
  have p5 : 0 ≤ (a1 : Int) := ODz
  have q5 : a1 < (a0.size : Int) := ODz
  have hx5 := bt_at a0 a1
  replace p5 := eq_true p5
  replace q5 := eq_true q5
  go_enter Tryd.func189, Tryd.ntmps189
  go_wp2_with (first | ((with_reducible refine gate_callee (f := 194) rfl ?_); refine goesL_ (some 10) rfl rfl Tryd.func194 (by kernel_rfl) rfl #[.string (⟨#[44, 43, 34, 92, 60, 62, 59, 61]⟩ : ByteArray), .int .u8 (bt a0 a1)] rfl MPz ?_; (with_reducible refine (strings_IndexByte.calls (⟨#[44, 43, 34, 92, 60, 62, 59, 61]⟩ : ByteArray) (bt a0 a1) t344 _ A6.out).mono ?_); rintro e w' ⟨rfl, ⟨nd, rfl⟩⟩; refine ⟨_, rfl, ?_⟩))
  go_ret
  exact ⟨EZb, DRz⟩
 rw [if_neg c10] at H
 have c10b0 : ((bt a0 a1) == 32) = false := beq_eq_false_iff_ne.mpr c10
 have c10b1 : ((bt a0 a1) != 32) = true := bne_iff_ne.mpr c10
 obtain rfl := Option.some.inj H
 have p5 : 0 ≤ (a1 : Int) := ODz
 have q5 : a1 < (a0.size : Int) := ODz
 have hx5 := bt_at a0 a1
 replace p5 := eq_true p5
 replace q5 := eq_true q5
 go_enter Tryd.func189, Tryd.ntmps189
 go_wp2_with (first | ((with_reducible refine gate_callee (f := 194) rfl ?_); refine goesL_ (some 10) rfl rfl Tryd.func194 (by kernel_rfl) rfl #[.string (⟨#[44, 43, 34, 92, 60, 62, 59, 61]⟩ : ByteArray), .int .u8 (bt a0 a1)] rfl MPz ?_; (with_reducible refine (strings_IndexByte.calls (⟨#[44, 43, 34, 92, 60, 62, 59, 61]⟩ : ByteArray) (bt a0 a1) t344 _ A6.out).mono ?_); rintro e w' ⟨rfl, ⟨nd, rfl⟩⟩; refine ⟨_, rfl, ?_⟩))
 go_ret
 exact ⟨EZb, DRz⟩
mutual
def impl_dnText.l0 : Nat → List Int → List (S126) → Int → Int → Option (ByteArray)
 | 0, _, _, _, _ => none
 | k + 1, x3, x8, x9, x10 => if x10 < x9 then (if 0 ≤ x10 then (if x10 < (x8.length : Int) then (if x10 > 0 then (if x3.length < 140737488355328 then (impl_dnText.j1 k (x3 ++ [44]) x8 x9 x10 ((rd_T126 x8 x10).f0) ((rd_T126 x8 x10).f1)) else (none)) else (impl_dnText.j1 k x3 x8 x9 x10 ((rd_T126 x8 x10).f0) ((rd_T126 x8 x10).f1))) else (none)) else (none)) else (some (strOfNums x3))
def impl_dnText.j1 : Nat → List Int → List (S126) → Int → Int → ByteArray → ByteArray → Option (ByteArray)
 | 0, _, _, _, _, _, _ => none
 | k + 1, x3, x8, x9, x10, x350000, x350001 => if x3.length + x350000.size < 140737488355328 then ((some (x3 ++ bytesOf x350000 : List Int)).bind fun y353 => (if y353.length < 140737488355328 then (impl_dnText.l1 k (y353 ++ [61]) x8 x9 x10 (x350001.size : Int) 0 x350000 x350001) else (none))) else (none)
def impl_dnText.l1 : Nat → List Int → List (S126) → Int → Int → Int → Int → ByteArray → ByteArray → Option (ByteArray)
 | 0, _, _, _, _, _, _, _, _ => none
 | k + 1, x3, x8, x9, x10, x28, x29, x350000, x350001 => if x29 < x28 then ((impl_isMarked.f x350001 x29).bind fun t359 => (if t359 = true then (if x3.length < 140737488355328 then ((some (x3 ++ [92] : List Int)).bind fun y360 => (if 0 ≤ x29 then (if x29 < (x350001.size : Int) then (if y360.length < 140737488355328 then (impl_dnText.l1 k (y360 ++ [bt x350001 x29]) x8 x9 x10 x28 (wrap64 (x29 + 1)) x350000 x350001) else (none)) else (none)) else (none))) else (none)) else (if 0 ≤ x29 then (if x29 < (x350001.size : Int) then (if x3.length < 140737488355328 then (impl_dnText.l1 k (x3 ++ [bt x350001 x29]) x8 x9 x10 x28 (wrap64 (x29 + 1)) x350000 x350001) else (none)) else (none)) else (none)))) else (impl_dnText.l0 k x3 x8 x9 (wrap64 (x10 + 1)))
end
def impl_dnText.f (k : Nat) (l0 : List (S126)) : Option (ByteArray) := impl_dnText.l0 k (([] : List Int)) l0 (l0.length : Int) 0
theorem impl_dnText.mono_l : ∀ k, (∀ y0 y1 y2 y3, LeO (impl_dnText.l0 k y0 y1 y2 y3) (impl_dnText.l0 (k + 1) y0 y1 y2 y3)) ∧ (∀ y0 y1 y2 y3 y4 y5, LeO (impl_dnText.j1 k y0 y1 y2 y3 y4 y5) (impl_dnText.j1 (k + 1) y0 y1 y2 y3 y4 y5)) ∧ (∀ y0 y1 y2 y3 y4 y5 y6 y7, LeO (impl_dnText.l1 k y0 y1 y2 y3 y4 y5 y6 y7) (impl_dnText.l1 (k + 1) y0 y1 y2 y3 y4 y5 y6 y7))
 | 0 => ⟨fun _ _ _ _ r h => by simp [impl_dnText.l0] at h, fun _ _ _ _ _ _ r h => by simp [impl_dnText.j1] at h, fun _ _ _ _ _ _ _ _ r h => by simp [impl_dnText.l1] at h⟩
 | k + 1 => by
  obtain ⟨ih0, ih1, ih2⟩ := impl_dnText.mono_l k
  refine ⟨?_, ?_, ?_⟩
  ·intro y0 y1 y2 y3
   unfold impl_dnText.l0
   repeat' first
   | (with_reducible exact ih0 _ _ _ _)
   | (with_reducible exact ih1 _ _ _ _ _ _)
   | (with_reducible exact ih2 _ _ _ _ _ _ _ _)
   | (with_reducible exact LeO.refl _)
   | (with_reducible exact LeO.none _)
   | (with_reducible refine LeO.ite ?_ ?_)
   | (with_reducible refine LeO.bind ?_ (fun _ => ?_))
   | exact ih0 _ _ _ _
   | exact ih1 _ _ _ _ _ _
   | exact ih2 _ _ _ _ _ _ _ _
   | exact LeO.none _
   | refine LeO.ite ?_ ?_
   | refine LeO.bind ?_ (fun _ => ?_)
  ·intro y0 y1 y2 y3 y4 y5
   unfold impl_dnText.j1
   repeat' first
   | (with_reducible exact ih0 _ _ _ _)
   | (with_reducible exact ih1 _ _ _ _ _ _)
   | (with_reducible exact ih2 _ _ _ _ _ _ _ _)
   | (with_reducible exact LeO.refl _)
   | (with_reducible exact LeO.none _)
   | (with_reducible refine LeO.ite ?_ ?_)
   | (with_reducible refine LeO.bind ?_ (fun _ => ?_))
   | exact ih0 _ _ _ _
   | exact ih1 _ _ _ _ _ _
   | exact ih2 _ _ _ _ _ _ _ _
   | exact LeO.none _
   | refine LeO.ite ?_ ?_
   | refine LeO.bind ?_ (fun _ => ?_)
  ·intro y0 y1 y2 y3 y4 y5 y6 y7
   unfold impl_dnText.l1
   repeat' first
   | (with_reducible exact ih0 _ _ _ _)
   | (with_reducible exact ih1 _ _ _ _ _ _)
   | (with_reducible exact ih2 _ _ _ _ _ _ _ _)
   | (with_reducible exact LeO.refl _)
   | (with_reducible exact LeO.none _)
   | (with_reducible refine LeO.ite ?_ ?_)
   | (with_reducible refine LeO.bind ?_ (fun _ => ?_))
   | exact ih0 _ _ _ _
   | exact ih1 _ _ _ _ _ _
   | exact ih2 _ _ _ _ _ _ _ _
   | exact LeO.none _
   | refine LeO.ite ?_ ?_
   | refine LeO.bind ?_ (fun _ => ?_)
theorem impl_dnText.mono : ∀ a0 k, LeO (impl_dnText.f k a0) (impl_dnText.f (k + 1) a0) := by
 intro a0 k
 obtain ⟨ih0, ih1, ih2⟩ := impl_dnText.mono_l k
 unfold impl_dnText.f
 repeat' first
   | (with_reducible exact ih0 _ _ _ _)
   | (with_reducible exact ih1 _ _ _ _ _ _)
   | (with_reducible exact ih2 _ _ _ _ _ _ _ _)
   | (with_reducible exact LeO.refl _)
   | (with_reducible exact LeO.none _)
   | (with_reducible refine LeO.ite ?_ ?_)
   | (with_reducible refine LeO.bind ?_ (fun _ => ?_))
   | exact ih0 _ _ _ _
   | exact ih1 _ _ _ _ _ _
   | exact ih2 _ _ _ _ _ _ _ _
   | exact LeO.none _
   | refine LeO.ite ?_ ?_
   | refine LeO.bind ?_ (fun _ => ?_)
set_option maxHeartbeats 8000000 in
set_option maxRecDepth 100000 in
theorem impl_dnText.calls (k : Nat) (A0 : Option Addr) (c0 : Nat) (l0 : List (S126)) (r : ByteArray) (w : World) (hr0 : Kd.C k126 w A0 l0.length l0) (hc0 : l0.length ≤ c0) (h : impl_dnText.f k l0 = some r) :
  Calls Tryd.prog 159 #[.slice A0 l0.length c0] w fun e w' => e = .returned (.string r) ∧ Below w.heap.size w w' := by
 have hu126 := Tryd.underlying126
 have HR0 := Aside0.mk hr0
 have HC0 := Aside0.mk hc0
 clear hr0 hc0
 have HB := Aside0.mk (Below.refl w.heap.size w)
 have H : (impl_dnText.l0 k (([] : List Int)) l0 (l0.length : Int) 0) = some r := h
 clear h
 obtain ⟨y345, hy345⟩ : ∃ y_ : List Int, y_ = (([] : List Int)) := ⟨_, rfl⟩
 replace H : (impl_dnText.l0 k y345 l0 (l0.length : Int) 0) = some r := by first | (rw [hy345]; with_reducible exact H) | (have H2_ := (Option.bind_some _ _).symm.trans H; rw [hy345]; with_reducible exact H2_) | (have H2_ := (Option.bind_some _ _).symm.trans H; with_reducible exact H2_) | with_reducible exact H | (rw [hy345]; exact H) | exact H
 have Ny345 := Aside0.mk hy345
 clear hy345
 have H' := Aside0.mk H
 clear H
 go_enter Tryd.func159, Tryd.ntmps159
 go_wp2_with (first | ((with_reducible refine gate_dst (N := 7) rfl ?_); refine Kd.R_lit (Kd.int .u8) _ 5 ?hg (N := 7) ?hd (xs := ([] : List Int)) (inner := []) (ok := fun _ => True) (okp := fun _ => True) ?hr ?hp (fun _ hk => hk) trivial (Below.refl _ _) (Nat.le_refl _) (by simp) ?_; (case hd => rfl); (case hg => rfl); (case hr => first | (go_simp; done) | (go_simp; rfl)); (case hp => exact (Reps.none _ _)); intro v346 w2 ho3 hb hg_ hnew_; clear hg_ hnew_; (first | rw [← Ny345.out] at ho3 | (simp only [Int.reduceToNat] at ho3; rw [← Ny345.out] at ho3)); have n0_ := Aside0.mk (Kd.R_lower ho3 (below_size HBa)); have n1_ := Aside0.mk (below_step HBa hb); clear HB; have HO347 := n0_; have HB := n1_; clear n0_ n1_; clear hb ho3))
 go_loopg [3, 10] k (fun kq v3 v10 w' => ∃ (x3_1 : List Int) (x10_1 : Int), v10 = .int .i64 x10_1 ∧ Aside0 (impl_dnText.l0 kq x3_1 l0 (l0.length : Int) x10_1 = some r) ∧ Aside0 (kq ≤ k) ∧ Aside0 (Kd.R (Kd.int .u8) 5 w' w.heap.size (fun _ => True) v3 x3_1) ∧ Aside0 (Below w.heap.size w w'))
 case atStart => exact ⟨(y345), (0), EZc, H', ⟨Nat.le_refl _⟩, ⟨by (with_reducible repeat (first | apply Kd.R_alloc | apply Kd.R_drewN | apply Kd.R_drew)); exact HO347.out⟩, ⟨HBa⟩⟩
 case round =>
  clear H'
  try clear c1
  try clear p2
  obtain ⟨x3_1, x10_1, rfl, HA, HK1, HO_3, HB⟩ := hrel
  cases gk with
  | zero => exact absurd HA.out (by simp [impl_dnText.l0])
  | succ k1 =>
   have H := HA.out
   clear HA
   simp only [impl_dnText.l0] at H
   by_cases c4 : x10_1 < (l0.length : Int)
   rotate_left
   ·rw [if_neg c4] at H
    have c4b0 : decide (x10_1 < (l0.length : Int)) = false := decide_eq_false c4
    clear c4
    obtain rfl := Option.some.inj H
    have hcv37 := own_string (P := Tryd.prog) Tryd.underlying135 Tryd.underlying5 Tryd.underlying9 (Kd.own_of_R HO_3.out)
    go_wp2
    go_ret
    exact ⟨EZa, HBa⟩
   rw [if_pos c4] at H
   have c4b0 : decide (x10_1 < (l0.length : Int)) = true := decide_eq_true c4
   clear c4
   by_cases c5 : 0 ≤ x10_1
   rotate_left
   ·rw [if_neg c5] at H
    exact absurd H (by simp)
   rw [if_pos c5] at H
   have c5b0 : decide (0 ≤ x10_1) = true := decide_eq_true c5
   clear c5
   by_cases c6 : x10_1 < (l0.length : Int)
   rotate_left
   ·rw [if_neg c6] at H
    exact absurd H (by simp)
   rw [if_pos c6] at H
   have c6b0 : decide (x10_1 < (l0.length : Int)) = true := decide_eq_true c6
   clear c6
   have HC7 := Aside0.mk H
   clear H
   have p348 : 0 ≤ (x10_1 : Int) := ODz
   have q348 : x10_1 < (l0.length : Int) := ODz
   obtain ⟨ad348, e348, hx348_0, hx348_1⟩ := at_T126 HR0.out x10_1 p348 q348
   cases e348
   replace hx348_0 := HXz HB hx348_0
   replace hx348_1 := HXz HB hx348_1
   replace p348 := eq_true p348
   replace q348 := eq_true q348
   go_upto_if 16 with (first | ((with_reducible refine gate_dst (N := 5) rfl ?_); refine box_event ?hg (N := 5) ?hd (cs := #[.string (⟨#[]⟩ : ByteArray), .string (⟨#[]⟩ : ByteArray)]) (t := 126) ?hr ?_; (case hd => rfl); (case hg => rfl); (case hr => first | (go_simp; done) | (go_simp; rfl)); intro gb349 hg w8 hbox hb; have n0_ := Aside0.mk (Kd.R_below (KRz HO_3) hb); have n1_ := Aside0.mk (below_step HBa hb); have n2_ := Aside0.mk (hbox); have n3_ := BSz w hg HBa; have n4_ := BSz w hg HBa; clear HO_3; clear HB; have HO_3 := n0_; have HB := n1_; have BK349 := n2_; have GW349 := n3_; have GE349 := n4_; clear n0_ n1_ n2_ n3_ n4_; clear hb hbox hg; have hcz9_0 := C1z BK349; have hcz9_1 := C2z BK349; have hfz9_0 := blk_frozen BK349.out 0; have hfz9_1 := blk_frozen BK349.out 1))
   (try simp only [Act.put, List.setIfInBounds_toArray, List.set_cons_zero, List.set_cons_succ])
   go_cut [3] (fun v3 wc => ∃ (kq : Nat) (x3_6 : List Int), Aside0 (impl_dnText.j1 kq x3_6 l0 (l0.length : Int) x10_1 ((rd_T126 l0 x10_1).f0) ((rd_T126 l0 x10_1).f1) = some r) ∧ Aside0 (kq ≤ k1) ∧ Aside0 (Kd.R (Kd.int .u8) 5 wc w.heap.size (fun _ => True) v3 x3_6) ∧ Aside0 (wc.heap[gb349]? = some (.cells #[.string ((rd_T126 l0 x10_1).f0), .string ((rd_T126 l0 x10_1).f1)] 126 (0, 0))) ∧ Aside0 (Below w.heap.size w wc))
   case first =>
    have H := HC7.out
    clear HC7
    by_cases c10 : x10_1 > 0
    ·rw [if_pos c10] at H
     have c10b0 : decide (0 < x10_1) = true := decide_eq_true c10
     clear c10
     (first | rw [c10b0] | rw [c10v0] | (simp only [i64_w, i32_w]; rw [c10b0]) | (simp only [i64_w, i32_w]; rw [c10v0]) | skip)
     by_cases c11 : x3_1.length < 140737488355328
     ·rw [if_pos c11] at H
      have LMc11 := Aside0.mk c11
      clear c11
      obtain ⟨y350, hy350⟩ : ∃ y_ : List Int, y_ = (x3_1 ++ [44]) := ⟨_, rfl⟩
      replace H : (impl_dnText.j1 k1 y350 l0 (l0.length : Int) x10_1 ((rd_T126 l0 x10_1).f0) ((rd_T126 l0 x10_1).f1)) = some r := by first | (rw [hy350]; with_reducible exact H) | (have H2_ := (Option.bind_some _ _).symm.trans H; rw [hy350]; with_reducible exact H2_) | (have H2_ := (Option.bind_some _ _).symm.trans H; with_reducible exact H2_) | with_reducible exact H | (rw [hy350]; exact H) | exact H
      have Ny350 := Aside0.mk hy350
      clear hy350
      have H' := Aside0.mk H
      clear H
      go_wp2_with (first | ((with_reducible refine gate_builtin (b := .append) (xs := #[.tmp 17, .tmp 18]) rfl ?_); at_builtin; refine Kd.R_append (Kd.int .u8) (w0 := w) w.heap.size rfl (.tmp 17) (.tmp 18) 135 5 (.int .u8 0) 1 rfl Tryd.underlying135 info5 rfl (by decide) (by omega) u3 x3_1 44 [.int .u8 44] (fun _ => True) (fun _ => False) rfl (by first | (go_simp; done) | (go_simp; rfl)) ?aP (fun _ hk => hk.elim) ?aF ?aO ?aB ?aS ?aL ?_; (case aP => exact rfl); (case aB => exact (HBb GE349)); (case aF => exact (fun _ _ => trivial)); (case aO => exact (by (with_reducible repeat (first | apply Kd.R_alloc | apply Kd.R_drewN | apply Kd.R_drew)); exact Kd.R_mono (Kd.R_far (p := ⟨gb349, 1, none⟩) (Kd.R_far (p := ⟨gb349, 0, none⟩) (Kd.R_types HO_3.out BK349.out (by decide)) (fun _ hk => hk.2) (.string ((rd_T126 l0 x10_1).f0))) (fun _ hk => hk.2) (.string ((rd_T126 l0 x10_1).f1))) (fun _ hk => trivial))); (case aS => exact (below_size (HBb GE349))); (case aL => have := LMc11.out; omega); intro v351 w12 ho hb hg hat; rw [← Ny350.out] at ho; have n0_ := Aside0.mk (blk_grown (g := gb349) (o := .cells #[.string ((rd_T126 l0 x10_1).f0), .string ((rd_T126 l0 x10_1).f1)] 126 (0, 0)) (by (with_reducible repeat (first | refine blk_drewN ?_ _ | refine blk_drew ?_ | refine blk_alloc ?_ _)); refine blk_put (cs := #[.string ((rd_T126 l0 x10_1).f0), .string (⟨#[]⟩ : ByteArray)]) ?_ 1 _ rfl; (with_reducible repeat (first | refine blk_drewN ?_ _ | refine blk_drew ?_ | refine blk_alloc ?_ _)); refine blk_put (cs := #[.string (⟨#[]⟩ : ByteArray), .string (⟨#[]⟩ : ByteArray)]) ?_ 0 _ rfl; (with_reducible repeat (first | refine blk_drewN ?_ _ | refine blk_drew ?_ | refine blk_alloc ?_ _)); exact BK349.out) hg (Kd.R_ne HO_3.out BK349.out (by decide))); have n1_ := Aside0.mk (hb); have n2_ := Aside0.mk (ho); clear BK349; clear HB; clear HO_3; have BK349 := n0_; have HB := n1_; have HO352 := n2_; clear n0_ n1_ n2_; clear ho hb hg hat))
      go_meet
      case rel => exact ⟨_, (y350), H', ⟨by have := HK1.out; first | omega | exact Nat.le_refl _⟩, ⟨by (with_reducible repeat (first | apply Kd.R_alloc | apply Kd.R_drewN | apply Kd.R_drew)); exact HO352.out⟩, ⟨by (with_reducible repeat (first | refine blk_drewN ?_ _ | refine blk_drew ?_ | refine blk_alloc ?_ _)); exact BK349.out⟩, ⟨by repeat (first | (with_reducible first | exact HB.out | apply below_alloc | apply pw_below_drewN | apply below_drew1 | refine below_set ?_ GE349.out) | exact HB.out)⟩⟩
     rw [if_neg c11] at H
     exact absurd H (by simp)
    rw [if_neg c10] at H
    have c10b0 : decide (0 < x10_1) = false := decide_eq_false c10
    clear c10
    (first | rw [c10b0] | rw [c10v0] | (simp only [i64_w, i32_w]; rw [c10b0]) | (simp only [i64_w, i32_w]; rw [c10v0]) | skip)
    have H' := Aside0.mk H
    clear H
    go_wp2
    go_meet
    case rel => exact ⟨_, (x3_1), H', ⟨by have := HK1.out; first | omega | exact Nat.le_refl _⟩, ⟨by (with_reducible repeat (first | apply Kd.R_alloc | apply Kd.R_drewN | apply Kd.R_drew)); exact Kd.R_mono (Kd.R_far (p := ⟨gb349, 1, none⟩) (Kd.R_far (p := ⟨gb349, 0, none⟩) (Kd.R_types HO_3.out BK349.out (by decide)) (fun _ hk => hk.2) (.string ((rd_T126 l0 x10_1).f0))) (fun _ hk => hk.2) (.string ((rd_T126 l0 x10_1).f1))) (fun _ hk => trivial)⟩, ⟨by (with_reducible repeat (first | refine blk_drewN ?_ _ | refine blk_drew ?_ | refine blk_alloc ?_ _)); refine blk_put (cs := #[.string ((rd_T126 l0 x10_1).f0), .string (⟨#[]⟩ : ByteArray)]) ?_ 1 _ rfl; (with_reducible repeat (first | refine blk_drewN ?_ _ | refine blk_drew ?_ | refine blk_alloc ?_ _)); refine blk_put (cs := #[.string (⟨#[]⟩ : ByteArray), .string (⟨#[]⟩ : ByteArray)]) ?_ 0 _ rfl; (with_reducible repeat (first | refine blk_drewN ?_ _ | refine blk_drew ?_ | refine blk_alloc ?_ _)); exact BK349.out⟩, ⟨by repeat (first | (with_reducible first | exact HB.out | apply below_alloc | apply pw_below_drewN | apply below_drew1 | refine below_set ?_ GE349.out) | exact HB.out)⟩⟩
   case rest =>
    clear HC7
    try clear c1
    try clear p2
    try clear p3
    try clear q3
    try clear hx3
    try clear c4
    try clear c4b0
    try clear c5
    try clear c5b0
    try clear c6
    try clear c6b0
    try clear c10
    try clear c10b0
    try clear c11
    try clear hcz9_0
    try clear hcz9_1
    try clear hfz9_0
    try clear hfz9_1
    try clear hx348_0
    try clear hx348_1
    try clear p2
    try clear p348
    try clear q348
    obtain ⟨kq, x3_6, HA, HJ6, HO_3, BK349, HB⟩ := hcut
    cases kq with
    | zero => exact absurd HA.out (by simp [impl_dnText.j1])
    | succ kj6 =>
     have H := HA.out
     clear HA
     simp only [impl_dnText.j1] at H
     by_cases c13 : x3_6.length + ((rd_T126 l0 x10_1).f0).size < 140737488355328
     rotate_left
     ·rw [if_neg c13] at H
      exact absurd H (by simp)
     rw [if_pos c13] at H
     have LMc13 := Aside0.mk c13
     clear c13
     obtain ⟨y353, hy353⟩ : ∃ y_ : List Int, y_ = (x3_6 ++ bytesOf ((rd_T126 l0 x10_1).f0)) := ⟨_, rfl⟩
     replace H : (if y353.length < 140737488355328 then (impl_dnText.l1 kj6 (y353 ++ [61]) l0 (l0.length : Int) x10_1 (((rd_T126 l0 x10_1).f1).size : Int) 0 ((rd_T126 l0 x10_1).f0) ((rd_T126 l0 x10_1).f1)) else (none)) = some r := by first | (rw [hy353]; with_reducible exact H) | (have H2_ := (Option.bind_some _ _).symm.trans H; rw [hy353]; with_reducible exact H2_) | (have H2_ := (Option.bind_some _ _).symm.trans H; with_reducible exact H2_) | with_reducible exact H | (rw [hy353]; exact H) | exact H
     have Ny353 := Aside0.mk hy353
     clear hy353
     by_cases c14 : y353.length < 140737488355328
     rotate_left
     ·rw [if_neg c14] at H
      exact absurd H (by simp)
     rw [if_pos c14] at H
     have LMc14 := Aside0.mk c14
     clear c14
     obtain ⟨y356, hy356⟩ : ∃ y_ : List Int, y_ = (y353 ++ [61]) := ⟨_, rfl⟩
     replace H : (impl_dnText.l1 kj6 y356 l0 (l0.length : Int) x10_1 (((rd_T126 l0 x10_1).f1).size : Int) 0 ((rd_T126 l0 x10_1).f0) ((rd_T126 l0 x10_1).f1)) = some r := by first | (rw [hy356]; with_reducible exact H) | (have H2_ := (Option.bind_some _ _).symm.trans H; rw [hy356]; with_reducible exact H2_) | (have H2_ := (Option.bind_some _ _).symm.trans H; with_reducible exact H2_) | with_reducible exact H | (rw [hy356]; exact H) | exact H
     have Ny356 := Aside0.mk hy356
     clear hy356
     have H' := Aside0.mk H
     clear H
     have hcz15_0 := C1z BK349
     have hcz15_1 := C2z BK349
     have hfz15_0 := blk_frozen BK349.out 0
     have hfz15_1 := blk_frozen BK349.out 1
     go_wp2_with (first | (at_builtin; refine print_append_str (w0 := w) w.heap.size rfl (.tmp 20) _ 135 9 5 rfl Tryd.underlying135 Tryd.underlying9 info5 u3 x3_6 ((rd_T126 l0 x10_1).f0) rfl rfl ?aO ?aB ?aS ?aL ?_; (case aB => exact (HBb GE349)); (case aO => exact (Kd.own_of_R (KRz HO_3))); (case aS => exact (below_size (HBb GE349))); (case aL => have := LMc13.out; omega); intro v354 w16 ho0 hb hg; have ho := Kd.R_of_own (h1 := fun _ => rfl) (ok := fun _ => True) ho0 (fun _ _ => trivial); clear ho0; have hat := True.intro; rw [← Ny353.out] at ho; change Kd.R (Kd.int .u8) 5 w16 w.heap.size (fun _ => True) v354 y353 at ho; have n0_ := Aside0.mk (blk_grown (g := gb349) (o := .cells #[.string ((rd_T126 l0 x10_1).f0), .string ((rd_T126 l0 x10_1).f1)] 126 (0, 0)) (BKz BK349) hg (Kd.R_ne HO_3.out BK349.out (by decide))); have n1_ := Aside0.mk (hb); have n2_ := Aside0.mk (ho); clear BK349; clear HB; clear HO_3; have BK349 := n0_; have HB := n1_; have HO355 := n2_; clear n0_ n1_ n2_; clear ho hb hg hat) | ((with_reducible refine gate_builtin (b := .append) (xs := #[.tmp 23, .tmp 24]) rfl ?_); at_builtin; refine Kd.R_append (Kd.int .u8) (w0 := w) w.heap.size rfl (.tmp 23) (.tmp 24) 135 5 (.int .u8 0) 1 rfl Tryd.underlying135 info5 rfl (by decide) (by omega) v354 y353 61 [.int .u8 61] (fun _ => True) (fun _ => False) rfl rfl ?aP (fun _ hk => hk.elim) ?aF ?aO ?aB ?aS ?aL ?_; (case aP => exact rfl); (case aB => exact (HBb GE349)); (case aF => exact (fun _ _ => trivial)); (case aO => exact (KRz HO355)); (case aS => exact (below_size (HBb GE349))); (case aL => have := LMc14.out; omega); intro v357 w17 ho hb hg hat; rw [← Ny356.out] at ho; have n0_ := Aside0.mk (blk_grown (g := gb349) (o := .cells #[.string ((rd_T126 l0 x10_1).f0), .string ((rd_T126 l0 x10_1).f1)] 126 (0, 0)) (BKz BK349) hg (Kd.R_ne HO355.out BK349.out (by decide))); have n1_ := Aside0.mk (hb); have n2_ := Aside0.mk (ho); clear BK349; clear HB; clear HO355; have BK349 := n0_; have HB := n1_; have HO358 := n2_; clear n0_ n1_ n2_; clear ho hb hg hat; have hcz18_0 := C1z BK349; have hcz18_1 := C2z BK349; have hfz18_0 := blk_frozen BK349.out 0; have hfz18_1 := blk_frozen BK349.out 1))
     go_loopg [3, 29] kj6 (fun kq v3 v29 w' => ∃ (x3_3 : List Int) (x29_3 : Int), v29 = .int .i64 x29_3 ∧ Aside0 (impl_dnText.l1 kq x3_3 l0 (l0.length : Int) x10_1 (((rd_T126 l0 x10_1).f1).size : Int) x29_3 ((rd_T126 l0 x10_1).f0) ((rd_T126 l0 x10_1).f1) = some r) ∧ Aside0 (kq ≤ kj6) ∧ Aside0 (Kd.R (Kd.int .u8) 5 w' w.heap.size (fun _ => True) v3 x3_3) ∧ Aside0 (w'.heap[gb349]? = some (.cells #[.string ((rd_T126 l0 x10_1).f0), .string ((rd_T126 l0 x10_1).f1)] 126 (0, 0))) ∧ Aside0 (Below w.heap.size w w'))
     case atStart => exact ⟨(y356), (0), EZc, H', ⟨Nat.le_refl _⟩, ⟨by (with_reducible repeat (first | apply Kd.R_alloc | apply Kd.R_drewN | apply Kd.R_drew)); exact HO358.out⟩, ⟨by (with_reducible repeat (first | refine blk_drewN ?_ _ | refine blk_drew ?_ | refine blk_alloc ?_ _)); exact BK349.out⟩, ⟨by repeat (first | (with_reducible first | exact HB.out | apply below_alloc | apply pw_below_drewN | apply below_drew1 | refine below_set ?_ GE349.out) | exact HB.out)⟩⟩
     case round =>
      clear H'
      try clear c1
      try clear p2
      try clear p3
      try clear q3
      try clear hx3
      try clear c4
      try clear c4b0
      try clear c5
      try clear c5b0
      try clear c6
      try clear c6b0
      try clear c10
      try clear c10b0
      try clear c11
      try clear c13
      try clear c14
      try clear c15
      try clear hcz15_0
      try clear hcz15_1
      try clear hcz18_0
      try clear hcz18_1
      try clear hcz9_0
      try clear hcz9_1
      try clear hfz15_0
      try clear hfz15_1
      try clear hfz18_0
      try clear hfz18_1
      try clear hfz9_0
      try clear hfz9_1
      try clear hx348_0
      try clear hx348_1
      try clear p2
      try clear p3
      try clear p348
      try clear q3
      try clear q348
      obtain ⟨x3_3, x29_3, rfl, HA, HK3, HO_3, BK349, HB⟩ := hrel
      cases gk with
      | zero => exact absurd HA.out (by simp [impl_dnText.l1])
      | succ k3 =>
       have H := HA.out
       clear HA
       simp only [impl_dnText.l1] at H
       by_cases c19 : x29_3 < (((rd_T126 l0 x10_1).f1).size : Int)
       rotate_left
       ·rw [if_neg c19] at H
        have c19b0 : decide (x29_3 < (((rd_T126 l0 x10_1).f1).size : Int)) = false := decide_eq_false c19
        clear c19
        have H' := Aside0.mk H
        clear H
        go_wp2
        go_roundg k3
        case measure => have := HK1.out; have := HJ6.out; have := HK3.out; omega
        case rel => exact ⟨(x3_3), (wrap64 (x10_1 + 1)), EZc, H', ⟨by have := HK1.out; have := HJ6.out; have := HK3.out; omega⟩, ⟨by (with_reducible repeat (first | apply Kd.R_alloc | apply Kd.R_drewN | apply Kd.R_drew)); exact HO_3.out⟩, ⟨by repeat (first | (with_reducible first | exact HB.out | apply below_alloc | apply pw_below_drewN | apply below_drew1 | refine below_set ?_ GE349.out) | exact HB.out)⟩⟩
       rw [if_pos c19] at H
       have c19b0 : decide (x29_3 < (((rd_T126 l0 x10_1).f1).size : Int)) = true := decide_eq_true c19
       clear c19
       replace H := Option.bind_eq_some_iff.mp H
       obtain ⟨t359, A200, H⟩ := H
       replace H : (if t359 = true then (if x3_3.length < 140737488355328 then ((some (x3_3 ++ [92] : List Int)).bind fun y360 => (if 0 ≤ x29_3 then (if x29_3 < (((rd_T126 l0 x10_1).f1).size : Int) then (if y360.length < 140737488355328 then (impl_dnText.l1 k3 (y360 ++ [bt ((rd_T126 l0 x10_1).f1) x29_3]) l0 (l0.length : Int) x10_1 (((rd_T126 l0 x10_1).f1).size : Int) (wrap64 (x29_3 + 1)) ((rd_T126 l0 x10_1).f0) ((rd_T126 l0 x10_1).f1)) else (none)) else (none)) else (none))) else (none)) else (if 0 ≤ x29_3 then (if x29_3 < (((rd_T126 l0 x10_1).f1).size : Int) then (if x3_3.length < 140737488355328 then (impl_dnText.l1 k3 (x3_3 ++ [bt ((rd_T126 l0 x10_1).f1) x29_3]) l0 (l0.length : Int) x10_1 (((rd_T126 l0 x10_1).f1).size : Int) (wrap64 (x29_3 + 1)) ((rd_T126 l0 x10_1).f0) ((rd_T126 l0 x10_1).f1)) else (none)) else (none)) else (none))) = some r := H
       have A20 := Aside0.mk A200
       clear A200
       by_cases c21 : t359 = true
       rotate_left
       ·replace c21 := Bool.eq_false_iff.mpr c21
        subst c21
        have H1 : (if 0 ≤ x29_3 then (if x29_3 < (((rd_T126 l0 x10_1).f1).size : Int) then (if x3_3.length < 140737488355328 then (impl_dnText.l1 k3 (x3_3 ++ [bt ((rd_T126 l0 x10_1).f1) x29_3]) l0 (l0.length : Int) x10_1 (((rd_T126 l0 x10_1).f1).size : Int) (wrap64 (x29_3 + 1)) ((rd_T126 l0 x10_1).f0) ((rd_T126 l0 x10_1).f1)) else (none)) else (none)) else (none)) = some r := by rw [if_neg (show ¬ (false = true) by decide)] at H; exact H
        clear H
        have H := H1
        clear H1
        by_cases c31 : 0 ≤ x29_3
        rotate_left
        ·rw [if_neg c31] at H
         exact absurd H (by simp)
        rw [if_pos c31] at H
        have c31b0 : decide (0 ≤ x29_3) = true := decide_eq_true c31
        clear c31
        by_cases c32 : x29_3 < (((rd_T126 l0 x10_1).f1).size : Int)
        ·rw [if_pos c32] at H
         have c32b0 : decide (x29_3 < (((rd_T126 l0 x10_1).f1).size : Int)) = true := decide_eq_true c32
         clear c32
         by_cases c34 : x3_3.length < 140737488355328
         ·rw [if_pos c34] at H
          have LMc34 := Aside0.mk c34
          clear c34
          obtain ⟨y366, hy366⟩ : ∃ y_ : List Int, y_ = (x3_3 ++ [bt ((rd_T126 l0 x10_1).f1) x29_3]) := ⟨_, rfl⟩
          replace H : (impl_dnText.l1 k3 y366 l0 (l0.length : Int) x10_1 (((rd_T126 l0 x10_1).f1).size : Int) (wrap64 (x29_3 + 1)) ((rd_T126 l0 x10_1).f0) ((rd_T126 l0 x10_1).f1)) = some r := by first | (rw [hy366]; with_reducible exact H) | (have H2_ := (Option.bind_some _ _).symm.trans H; rw [hy366]; with_reducible exact H2_) | (have H2_ := (Option.bind_some _ _).symm.trans H; with_reducible exact H2_) | with_reducible exact H | (rw [hy366]; exact H) | exact H
          have Ny366 := Aside0.mk hy366
          clear hy366
          have H' := Aside0.mk H
          clear H
          have hcz35_0 := C1z BK349
          have hcz35_1 := C2z BK349
          have hfz35_0 := blk_frozen BK349.out 0
          have hfz35_1 := blk_frozen BK349.out 1
          go_wp2_with (first | ((with_reducible refine gate_callee (f := 189) rfl ?_); refine goesL_ (some 35) rfl rfl Tryd.func189 (by kernel_rfl) rfl #[.string ((rd_T126 l0 x10_1).f1), .int .i64 x29_3] rfl MPz ?_; (with_reducible refine (impl_isMarked.calls ((rd_T126 l0 x10_1).f1) x29_3 false _ A20.out).mono ?_); rintro e w' ⟨rfl, ⟨nd, rfl⟩⟩; refine ⟨_, rfl, ?_⟩; have p33 : 0 ≤ (x29_3 : Int) := ODz; have q33 : x29_3 < (((rd_T126 l0 x10_1).f1).size : Int) := ODz; have hx33 := bt_at ((rd_T126 l0 x10_1).f1) x29_3; replace p33 := eq_true p33; replace q33 := eq_true q33) | ((with_reducible refine gate_builtin (b := .append) (xs := #[.tmp 39, .tmp 44]) rfl ?_); at_builtin; refine Kd.R_append (Kd.int .u8) (w0 := w) w.heap.size rfl (.tmp 39) (.tmp 44) 135 5 (.int .u8 0) 1 rfl Tryd.underlying135 info5 rfl (by decide) (by omega) u3 x3_3 (bt ((rd_T126 l0 x10_1).f1) x29_3) [.int .u8 (bt ((rd_T126 l0 x10_1).f1) x29_3)] (fun _ => True) (fun _ => False) rfl rfl ?aP (fun _ hk => hk.elim) ?aF ?aO ?aB ?aS ?aL ?_; (case aP => exact rfl); (case aB => exact (HBb GE349)); (case aF => exact (fun _ _ => trivial)); (case aO => exact (KRz HO_3)); (case aS => exact (below_size (HBb GE349))); (case aL => have := LMc34.out; omega); intro v367 w36 ho hb hg hat; rw [← Ny366.out] at ho; have n0_ := Aside0.mk (blk_grown (g := gb349) (o := .cells #[.string ((rd_T126 l0 x10_1).f0), .string ((rd_T126 l0 x10_1).f1)] 126 (0, 0)) (BKz BK349) hg (Kd.R_ne HO_3.out BK349.out (by decide))); have n1_ := Aside0.mk (hb); have n2_ := Aside0.mk (ho); clear BK349; clear HB; clear HO_3; have BK349 := n0_; have HB := n1_; have HO368 := n2_; clear n0_ n1_ n2_; clear ho hb hg hat))
          go_roundg k3
          case measure => have := HK1.out; have := HJ6.out; have := HK3.out; omega
          case rel => exact ⟨(y366), (wrap64 (x29_3 + 1)), EZc, H', ⟨by have := HK1.out; have := HJ6.out; have := HK3.out; omega⟩, ⟨by (with_reducible repeat (first | apply Kd.R_alloc | apply Kd.R_drewN | apply Kd.R_drew)); exact HO368.out⟩, ⟨by (with_reducible repeat (first | refine blk_drewN ?_ _ | refine blk_drew ?_ | refine blk_alloc ?_ _)); exact BK349.out⟩, ⟨by repeat (first | (with_reducible first | exact HB.out | apply below_alloc | apply pw_below_drewN | apply below_drew1 | refine below_set ?_ GE349.out) | exact HB.out)⟩⟩
         rw [if_neg c34] at H
         exact absurd H (by simp)
        rw [if_neg c32] at H
        exact absurd H (by simp)
       subst c21
       have H1 : (if x3_3.length < 140737488355328 then ((some (x3_3 ++ [92] : List Int)).bind fun y360 => (if 0 ≤ x29_3 then (if x29_3 < (((rd_T126 l0 x10_1).f1).size : Int) then (if y360.length < 140737488355328 then (impl_dnText.l1 k3 (y360 ++ [bt ((rd_T126 l0 x10_1).f1) x29_3]) l0 (l0.length : Int) x10_1 (((rd_T126 l0 x10_1).f1).size : Int) (wrap64 (x29_3 + 1)) ((rd_T126 l0 x10_1).f0) ((rd_T126 l0 x10_1).f1)) else (none)) else (none)) else (none))) else (none)) = some r := by rw [if_pos rfl] at H; exact H
       clear H
       have H := H1
       clear H1
       by_cases c22 : x3_3.length < 140737488355328
       rotate_left
       ·rw [if_neg c22] at H
        exact absurd H (by simp)
       rw [if_pos c22] at H
       have LMc22 := Aside0.mk c22
       clear c22
       obtain ⟨y360, hy360⟩ : ∃ y_ : List Int, y_ = (x3_3 ++ [92]) := ⟨_, rfl⟩
       replace H : (if 0 ≤ x29_3 then (if x29_3 < (((rd_T126 l0 x10_1).f1).size : Int) then (if y360.length < 140737488355328 then (impl_dnText.l1 k3 (y360 ++ [bt ((rd_T126 l0 x10_1).f1) x29_3]) l0 (l0.length : Int) x10_1 (((rd_T126 l0 x10_1).f1).size : Int) (wrap64 (x29_3 + 1)) ((rd_T126 l0 x10_1).f0) ((rd_T126 l0 x10_1).f1)) else (none)) else (none)) else (none)) = some r := by first | (rw [hy360]; with_reducible exact H) | (have H2_ := (Option.bind_some _ _).symm.trans H; rw [hy360]; with_reducible exact H2_) | (have H2_ := (Option.bind_some _ _).symm.trans H; with_reducible exact H2_) | with_reducible exact H | (rw [hy360]; exact H) | exact H
       have Ny360 := Aside0.mk hy360
       clear hy360
       by_cases c23 : 0 ≤ x29_3
       rotate_left
       ·rw [if_neg c23] at H
        exact absurd H (by simp)
       rw [if_pos c23] at H
       have c23b0 : decide (0 ≤ x29_3) = true := decide_eq_true c23
       clear c23
       by_cases c24 : x29_3 < (((rd_T126 l0 x10_1).f1).size : Int)
       ·rw [if_pos c24] at H
        have c24b0 : decide (x29_3 < (((rd_T126 l0 x10_1).f1).size : Int)) = true := decide_eq_true c24
        clear c24
        by_cases c26 : y360.length < 140737488355328
        ·rw [if_pos c26] at H
         have LMc26 := Aside0.mk c26
         clear c26
         obtain ⟨y363, hy363⟩ : ∃ y_ : List Int, y_ = (y360 ++ [bt ((rd_T126 l0 x10_1).f1) x29_3]) := ⟨_, rfl⟩
         replace H : (impl_dnText.l1 k3 y363 l0 (l0.length : Int) x10_1 (((rd_T126 l0 x10_1).f1).size : Int) (wrap64 (x29_3 + 1)) ((rd_T126 l0 x10_1).f0) ((rd_T126 l0 x10_1).f1)) = some r := by first | (rw [hy363]; with_reducible exact H) | (have H2_ := (Option.bind_some _ _).symm.trans H; rw [hy363]; with_reducible exact H2_) | (have H2_ := (Option.bind_some _ _).symm.trans H; with_reducible exact H2_) | with_reducible exact H | (rw [hy363]; exact H) | exact H
         have Ny363 := Aside0.mk hy363
         clear hy363
         have H' := Aside0.mk H
         clear H
         have hcz27_0 := C1z BK349
         have hcz27_1 := C2z BK349
         have hfz27_0 := blk_frozen BK349.out 0
         have hfz27_1 := blk_frozen BK349.out 1
         go_wp2_with (first | ((with_reducible refine gate_callee (f := 189) rfl ?_); refine goesL_ (some 35) rfl rfl Tryd.func189 (by kernel_rfl) rfl #[.string ((rd_T126 l0 x10_1).f1), .int .i64 x29_3] rfl MPz ?_; (with_reducible refine (impl_isMarked.calls ((rd_T126 l0 x10_1).f1) x29_3 true _ A20.out).mono ?_); rintro e w' ⟨rfl, ⟨nd, rfl⟩⟩; refine ⟨_, rfl, ?_⟩) | ((with_reducible refine gate_builtin (b := .append) (xs := #[.tmp 36, .tmp 37]) rfl ?_); at_builtin; refine Kd.R_append (Kd.int .u8) (w0 := w) w.heap.size rfl (.tmp 36) (.tmp 37) 135 5 (.int .u8 0) 1 rfl Tryd.underlying135 info5 rfl (by decide) (by omega) u3 x3_3 92 [.int .u8 92] (fun _ => True) (fun _ => False) rfl rfl ?aP (fun _ hk => hk.elim) ?aF ?aO ?aB ?aS ?aL ?_; (case aP => exact rfl); (case aB => exact (HBb GE349)); (case aF => exact (fun _ _ => trivial)); (case aO => exact (KRz HO_3)); (case aS => exact (below_size (HBb GE349))); (case aL => have := LMc22.out; omega); intro v361 w28 ho hb hg hat; rw [← Ny360.out] at ho; have n0_ := Aside0.mk (blk_grown (g := gb349) (o := .cells #[.string ((rd_T126 l0 x10_1).f0), .string ((rd_T126 l0 x10_1).f1)] 126 (0, 0)) (BKz BK349) hg (Kd.R_ne HO_3.out BK349.out (by decide))); have n1_ := Aside0.mk (hb); have n2_ := Aside0.mk (ho); clear BK349; clear HB; clear HO_3; have BK349 := n0_; have HB := n1_; have HO362 := n2_; clear n0_ n1_ n2_; clear ho hb hg hat; have hcz29_0 := C1z BK349; have hcz29_1 := C2z BK349; have hfz29_0 := blk_frozen BK349.out 0; have hfz29_1 := blk_frozen BK349.out 1; have p25 : 0 ≤ (x29_3 : Int) := ODz; have q25 : x29_3 < (((rd_T126 l0 x10_1).f1).size : Int) := ODz; have hx25 := bt_at ((rd_T126 l0 x10_1).f1) x29_3; replace p25 := eq_true p25; replace q25 := eq_true q25) | ((with_reducible refine gate_builtin (b := .append) (xs := #[.tmp 39, .tmp 44]) rfl ?_); at_builtin; refine Kd.R_append (Kd.int .u8) (w0 := w) w.heap.size rfl (.tmp 39) (.tmp 44) 135 5 (.int .u8 0) 1 rfl Tryd.underlying135 info5 rfl (by decide) (by omega) v361 y360 (bt ((rd_T126 l0 x10_1).f1) x29_3) [.int .u8 (bt ((rd_T126 l0 x10_1).f1) x29_3)] (fun _ => True) (fun _ => False) rfl rfl ?aP (fun _ hk => hk.elim) ?aF ?aO ?aB ?aS ?aL ?_; (case aP => exact rfl); (case aB => exact (HBb GE349)); (case aF => exact (fun _ _ => trivial)); (case aO => exact (KRz HO362)); (case aS => exact (below_size (HBb GE349))); (case aL => have := LMc26.out; omega); intro v364 w30 ho hb hg hat; rw [← Ny363.out] at ho; have n0_ := Aside0.mk (blk_grown (g := gb349) (o := .cells #[.string ((rd_T126 l0 x10_1).f0), .string ((rd_T126 l0 x10_1).f1)] 126 (0, 0)) (BKz BK349) hg (Kd.R_ne HO362.out BK349.out (by decide))); have n1_ := Aside0.mk (hb); have n2_ := Aside0.mk (ho); clear BK349; clear HB; clear HO362; have BK349 := n0_; have HB := n1_; have HO365 := n2_; clear n0_ n1_ n2_; clear ho hb hg hat))
         go_roundg k3
         case measure => have := HK1.out; have := HJ6.out; have := HK3.out; omega
         case rel => exact ⟨(y363), (wrap64 (x29_3 + 1)), EZc, H', ⟨by have := HK1.out; have := HJ6.out; have := HK3.out; omega⟩, ⟨by (with_reducible repeat (first | apply Kd.R_alloc | apply Kd.R_drewN | apply Kd.R_drew)); exact HO365.out⟩, ⟨by (with_reducible repeat (first | refine blk_drewN ?_ _ | refine blk_drew ?_ | refine blk_alloc ?_ _)); exact BK349.out⟩, ⟨by repeat (first | (with_reducible first | exact HB.out | apply below_alloc | apply pw_below_drewN | apply below_drew1 | refine below_set ?_ GE349.out) | exact HB.out)⟩⟩
        rw [if_neg c26] at H
        exact absurd H (by simp)
       rw [if_neg c24] at H
       exact absurd H (by simp)
end Go.Proofs.YtgkjlfimjnhbbaaDoor.PFnExactChangesRight
