-- Laid by this session's own program out of the translation; Lean checks it.
import Derived.Test.YtdbboelacgehoaaDoorQFnExactEntryBytesx0
import Derived.Test.YtdbboelacgehoaaDoorLayIndexByte
namespace Go.Proofs.YtdbboelacgehoaaDoor.PFnExactEntryBytes
open Go.RowKit Go.Proofs.YtdbboelacgehoaaDoorW.PrintWords Go.Proofs.YtdbboelacgehoaaDoorW.PrintLast Go.Proofs.YtdbboelacgehoaaDoorW.PrintMore
attribute [local go_sem] max2_int min2_int max_two min_two max_three min_three max_four min_four   -- for this text's walks alone
set_option linter.unusedVariables false
set_option linter.unusedSimpArgs false
def strings_IndexByte.f (a0 : ByteArray) (a1 : Int) : Option (Int) := some (Lib.indexByte a0.data.toList a1.toNat.toUInt8)
theorem strings_IndexByte.calls (a0 : ByteArray) (a1 : Int) (r : Int) (w : World) (h : strings_IndexByte.f a0 a1 = some r) :
  Calls Tryd.prog 157 #[.string a0, .int .u8 a1] w fun e w' => e = .returned (.int .i64 r) ∧ Drawn0 w w' := by
 obtain rfl := Option.some.inj h
 refine (show Calls Tryd.prog 157 _ _ _ from Any.strings_IndexByte Tryd.lays137 a0 a1 w).mono ?_
 rintro e w' ⟨he, rfl⟩
 exact ⟨he, Drawn0.refl _⟩
def impl_isMarked.f (a0 : ByteArray) (a1 : Int) : Option (Bool) := if 0 ≤ a1 then (if a1 < (a0.size : Int) then ((strings_IndexByte.f (⟨#[44, 43, 34, 92, 60, 62, 59, 61]⟩ : ByteArray) (bt a0 a1)).bind fun t302 => (if t302 ≥ 0 then (some true) else (if (bt a0 a1) = 35 then (if a1 = 0 then (some true) else (if (bt a0 a1) = 32 then (some (a1 == (wrap64 ((a0.size : Int) - 1)))) else (some false))) else (if (bt a0 a1) = 32 then (if a1 = 0 then (some true) else (some (a1 == (wrap64 ((a0.size : Int) - 1))))) else (some false))))) else (none)) else (none)
set_option maxHeartbeats 8000000 in
set_option maxRecDepth 100000 in
theorem impl_isMarked.calls (a0 : ByteArray) (a1 : Int) (r : Bool) (w : World) (h : impl_isMarked.f a0 a1 = some r) :
  Calls Tryd.prog 123 #[.string a0, .int .i64 a1] w fun e w' => e = .returned (.bool r) ∧ Drawn0 w w' := by
 have H : (if 0 ≤ a1 then (if a1 < (a0.size : Int) then ((strings_IndexByte.f (⟨#[44, 43, 34, 92, 60, 62, 59, 61]⟩ : ByteArray) (bt a0 a1)).bind fun t302 => (if t302 ≥ 0 then (some true) else (if (bt a0 a1) = 35 then (if a1 = 0 then (some true) else (if (bt a0 a1) = 32 then (some (a1 == (wrap64 ((a0.size : Int) - 1)))) else (some false))) else (if (bt a0 a1) = 32 then (if a1 = 0 then (some true) else (some (a1 == (wrap64 ((a0.size : Int) - 1))))) else (some false))))) else (none)) else (none)) = some r := h
 clear h
 by_cases c3 : 0 ≤ a1
 ·rw [if_pos c3] at H
  have c3b0 : decide (0 ≤ a1) = true := decide_eq_true c3
  clear c3
  by_cases c4 : a1 < (a0.size : Int)
  ·rw [if_pos c4] at H
   have c4b0 : decide (a1 < (a0.size : Int)) = true := decide_eq_true c4
   clear c4
   replace H := Option.bind_eq_some_iff.mp H
   obtain ⟨t302, A60, H⟩ := H
   replace H : (if t302 ≥ 0 then (some true) else (if (bt a0 a1) = 35 then (if a1 = 0 then (some true) else (if (bt a0 a1) = 32 then (some (a1 == (wrap64 ((a0.size : Int) - 1)))) else (some false))) else (if (bt a0 a1) = 32 then (if a1 = 0 then (some true) else (some (a1 == (wrap64 ((a0.size : Int) - 1))))) else (some false)))) = some r := H
   have A6 := Aside0.mk A60
   clear A60
   by_cases c7 : t302 ≥ 0
   ·rw [if_pos c7] at H
    have c7b0 : decide (0 ≤ t302) = true := decide_eq_true c7
    clear c7
    obtain rfl := Option.some.inj H
    have p5 : 0 ≤ (a1 : Int) := ODz
    have q5 : a1 < (a0.size : Int) := ODz
    have hx5 := bt_at a0 a1
    replace p5 := eq_true p5
    replace q5 := eq_true q5
    go_enter Tryd.func123, Tryd.ntmps123
    go_wp2_with (first | ((with_reducible refine gate_callee (f := 157) rfl ?_); refine goesL_ (some 10) rfl rfl Tryd.func157 (by kernel_rfl) rfl #[.string (⟨#[44, 43, 34, 92, 60, 62, 59, 61]⟩ : ByteArray), .int .u8 (bt a0 a1)] rfl MPz ?_; (with_reducible refine (strings_IndexByte.calls (⟨#[44, 43, 34, 92, 60, 62, 59, 61]⟩ : ByteArray) (bt a0 a1) t302 _ A6.out).mono ?_); rintro e w' ⟨rfl, ⟨nd, rfl⟩⟩; refine ⟨_, rfl, ?_⟩))
    go_ret
    exact ⟨EZb, DRz⟩
   ·rw [if_neg c7] at H
    have c7b0 : decide (0 ≤ t302) = false := decide_eq_false c7
    clear c7
    by_cases c8 : (bt a0 a1) = 35
    ·rw [if_pos c8] at H
     have c8b0 : ((bt a0 a1) == 35) = true := beq_iff_eq.mpr c8
     have c8b1 : ((bt a0 a1) != 35) = false := bne_eq_false_iff_eq.mpr c8
     clear c8
     by_cases c9 : a1 = 0
     ·rw [if_pos c9] at H
      have c9b0 : (a1 == 0) = true := beq_iff_eq.mpr c9
      have c9b1 : (a1 != 0) = false := bne_eq_false_iff_eq.mpr c9
      clear c9
      obtain rfl := Option.some.inj H
      have p5 : 0 ≤ (a1 : Int) := ODz
      have q5 : a1 < (a0.size : Int) := ODz
      have hx5 := bt_at a0 a1
      replace p5 := eq_true p5
      replace q5 := eq_true q5
      go_enter Tryd.func123, Tryd.ntmps123
      go_wp2_with (first | ((with_reducible refine gate_callee (f := 157) rfl ?_); refine goesL_ (some 10) rfl rfl Tryd.func157 (by kernel_rfl) rfl #[.string (⟨#[44, 43, 34, 92, 60, 62, 59, 61]⟩ : ByteArray), .int .u8 (bt a0 a1)] rfl MPz ?_; (with_reducible refine (strings_IndexByte.calls (⟨#[44, 43, 34, 92, 60, 62, 59, 61]⟩ : ByteArray) (bt a0 a1) t302 _ A6.out).mono ?_); rintro e w' ⟨rfl, ⟨nd, rfl⟩⟩; refine ⟨_, rfl, ?_⟩))
      go_ret
      exact ⟨EZb, DRz⟩
     ·rw [if_neg c9] at H
      have c9b0 : (a1 == 0) = false := beq_eq_false_iff_ne.mpr c9
      have c9b1 : (a1 != 0) = true := bne_iff_ne.mpr c9
      by_cases c10 : (bt a0 a1) = 32
      ·rw [if_pos c10] at H
       have c10b0 : ((bt a0 a1) == 32) = true := beq_iff_eq.mpr c10
       have c10b1 : ((bt a0 a1) != 32) = false := bne_eq_false_iff_eq.mpr c10
       clear c10
       obtain rfl := Option.some.inj H
       have p5 : 0 ≤ (a1 : Int) := ODz
       have q5 : a1 < (a0.size : Int) := ODz
       have hx5 := bt_at a0 a1
       replace p5 := eq_true p5
       replace q5 := eq_true q5
       go_enter Tryd.func123, Tryd.ntmps123
       go_wp2_with (first | ((with_reducible refine gate_callee (f := 157) rfl ?_); refine goesL_ (some 10) rfl rfl Tryd.func157 (by kernel_rfl) rfl #[.string (⟨#[44, 43, 34, 92, 60, 62, 59, 61]⟩ : ByteArray), .int .u8 (bt a0 a1)] rfl MPz ?_; (with_reducible refine (strings_IndexByte.calls (⟨#[44, 43, 34, 92, 60, 62, 59, 61]⟩ : ByteArray) (bt a0 a1) t302 _ A6.out).mono ?_); rintro e w' ⟨rfl, ⟨nd, rfl⟩⟩; refine ⟨_, rfl, ?_⟩))
       go_ret
       exact ⟨EZb, DRz⟩
      ·rw [if_neg c10] at H
       have c10b0 : ((bt a0 a1) == 32) = false := beq_eq_false_iff_ne.mpr c10
       have c10b1 : ((bt a0 a1) != 32) = true := bne_iff_ne.mpr c10
       obtain rfl := Option.some.inj H
       have p5 : 0 ≤ (a1 : Int) := ODz
       have q5 : a1 < (a0.size : Int) := ODz
       have hx5 := bt_at a0 a1
       replace p5 := eq_true p5
       replace q5 := eq_true q5
       go_enter Tryd.func123, Tryd.ntmps123
       go_wp2_with (first | ((with_reducible refine gate_callee (f := 157) rfl ?_); refine goesL_ (some 10) rfl rfl Tryd.func157 (by kernel_rfl) rfl #[.string (⟨#[44, 43, 34, 92, 60, 62, 59, 61]⟩ : ByteArray), .int .u8 (bt a0 a1)] rfl MPz ?_; (with_reducible refine (strings_IndexByte.calls (⟨#[44, 43, 34, 92, 60, 62, 59, 61]⟩ : ByteArray) (bt a0 a1) t302 _ A6.out).mono ?_); rintro e w' ⟨rfl, ⟨nd, rfl⟩⟩; refine ⟨_, rfl, ?_⟩))
       go_ret
       exact ⟨EZb, DRz⟩
    ·rw [if_neg c8] at H
     have c8b0 : ((bt a0 a1) == 35) = false := beq_eq_false_iff_ne.mpr c8
     have c8b1 : ((bt a0 a1) != 35) = true := bne_iff_ne.mpr c8
     by_cases c11 : (bt a0 a1) = 32
     ·rw [if_pos c11] at H
      have c11b0 : ((bt a0 a1) == 32) = true := beq_iff_eq.mpr c11
      have c11b1 : ((bt a0 a1) != 32) = false := bne_eq_false_iff_eq.mpr c11
      clear c11
      by_cases c12 : a1 = 0
      ·rw [if_pos c12] at H
       have c12b0 : (a1 == 0) = true := beq_iff_eq.mpr c12
       have c12b1 : (a1 != 0) = false := bne_eq_false_iff_eq.mpr c12
       clear c12
       obtain rfl := Option.some.inj H
       have p5 : 0 ≤ (a1 : Int) := ODz
       have q5 : a1 < (a0.size : Int) := ODz
       have hx5 := bt_at a0 a1
       replace p5 := eq_true p5
       replace q5 := eq_true q5
       go_enter Tryd.func123, Tryd.ntmps123
       go_wp2_with (first | ((with_reducible refine gate_callee (f := 157) rfl ?_); refine goesL_ (some 10) rfl rfl Tryd.func157 (by kernel_rfl) rfl #[.string (⟨#[44, 43, 34, 92, 60, 62, 59, 61]⟩ : ByteArray), .int .u8 (bt a0 a1)] rfl MPz ?_; (with_reducible refine (strings_IndexByte.calls (⟨#[44, 43, 34, 92, 60, 62, 59, 61]⟩ : ByteArray) (bt a0 a1) t302 _ A6.out).mono ?_); rintro e w' ⟨rfl, ⟨nd, rfl⟩⟩; refine ⟨_, rfl, ?_⟩))
       go_ret
       exact ⟨EZb, DRz⟩
      ·rw [if_neg c12] at H
       have c12b0 : (a1 == 0) = false := beq_eq_false_iff_ne.mpr c12
       have c12b1 : (a1 != 0) = true := bne_iff_ne.mpr c12
       obtain rfl := Option.some.inj H
       have p5 : 0 ≤ (a1 : Int) := ODz
       have q5 : a1 < (a0.size : Int) := ODz
       have hx5 := bt_at a0 a1
       replace p5 := eq_true p5
       replace q5 := eq_true q5
       go_enter Tryd.func123, Tryd.ntmps123
       go_wp2_with (first | ((with_reducible refine gate_callee (f := 157) rfl ?_); refine goesL_ (some 10) rfl rfl Tryd.func157 (by kernel_rfl) rfl #[.string (⟨#[44, 43, 34, 92, 60, 62, 59, 61]⟩ : ByteArray), .int .u8 (bt a0 a1)] rfl MPz ?_; (with_reducible refine (strings_IndexByte.calls (⟨#[44, 43, 34, 92, 60, 62, 59, 61]⟩ : ByteArray) (bt a0 a1) t302 _ A6.out).mono ?_); rintro e w' ⟨rfl, ⟨nd, rfl⟩⟩; refine ⟨_, rfl, ?_⟩))
       go_ret
       exact ⟨EZb, DRz⟩
     ·rw [if_neg c11] at H
      have c11b0 : ((bt a0 a1) == 32) = false := beq_eq_false_iff_ne.mpr c11
      have c11b1 : ((bt a0 a1) != 32) = true := bne_iff_ne.mpr c11
      obtain rfl := Option.some.inj H
      have p5 : 0 ≤ (a1 : Int) := ODz
      have q5 : a1 < (a0.size : Int) := ODz
      have hx5 := bt_at a0 a1
      replace p5 := eq_true p5
      replace q5 := eq_true q5
      go_enter Tryd.func123, Tryd.ntmps123
      go_wp2_with (first | ((with_reducible refine gate_callee (f := 157) rfl ?_); refine goesL_ (some 10) rfl rfl Tryd.func157 (by kernel_rfl) rfl #[.string (⟨#[44, 43, 34, 92, 60, 62, 59, 61]⟩ : ByteArray), .int .u8 (bt a0 a1)] rfl MPz ?_; (with_reducible refine (strings_IndexByte.calls (⟨#[44, 43, 34, 92, 60, 62, 59, 61]⟩ : ByteArray) (bt a0 a1) t302 _ A6.out).mono ?_); rintro e w' ⟨rfl, ⟨nd, rfl⟩⟩; refine ⟨_, rfl, ?_⟩))
      go_ret
      exact ⟨EZb, DRz⟩
  ·rw [if_neg c4] at H
   exact absurd H (by simp)
 ·rw [if_neg c3] at H
  exact absurd H (by simp)
mutual
def impl_dnText.l0 : Nat → List Int → List (S42) → Int → Int → Option (ByteArray)
 | 0, _, _, _, _ => none
 | k + 1, x3, x8, x9, x10 => if x10 < x9 then (if 0 ≤ x10 then (if x10 < (x8.length : Int) then (if x10 > 0 then (if x3.length < 140737488355328 then (impl_dnText.j1 k (x3 ++ [44]) x8 x9 x10 ((rd_T42 x8 x10).f0) ((rd_T42 x8 x10).f1)) else (none)) else (impl_dnText.j1 k x3 x8 x9 x10 ((rd_T42 x8 x10).f0) ((rd_T42 x8 x10).f1))) else (none)) else (none)) else (some (strOfNums x3))
def impl_dnText.j1 : Nat → List Int → List (S42) → Int → Int → ByteArray → ByteArray → Option (ByteArray)
 | 0, _, _, _, _, _, _ => none
 | k + 1, x3, x8, x9, x10, x308000, x308001 => if x3.length + x308000.size < 140737488355328 then ((some (x3 ++ bytesOf x308000 : List Int)).bind fun y311 => (if y311.length < 140737488355328 then (impl_dnText.l1 k (y311 ++ [61]) x8 x9 x10 (x308001.size : Int) 0 x308000 x308001) else (none))) else (none)
def impl_dnText.l1 : Nat → List Int → List (S42) → Int → Int → Int → Int → ByteArray → ByteArray → Option (ByteArray)
 | 0, _, _, _, _, _, _, _, _ => none
 | k + 1, x3, x8, x9, x10, x28, x29, x308000, x308001 => if x29 < x28 then ((impl_isMarked.f x308001 x29).bind fun t317 => (if t317 = true then (if x3.length < 140737488355328 then ((some (x3 ++ [92] : List Int)).bind fun y318 => (if 0 ≤ x29 then (if x29 < (x308001.size : Int) then (if y318.length < 140737488355328 then (impl_dnText.l1 k (y318 ++ [bt x308001 x29]) x8 x9 x10 x28 (wrap64 (x29 + 1)) x308000 x308001) else (none)) else (none)) else (none))) else (none)) else (if 0 ≤ x29 then (if x29 < (x308001.size : Int) then (if x3.length < 140737488355328 then (impl_dnText.l1 k (x3 ++ [bt x308001 x29]) x8 x9 x10 x28 (wrap64 (x29 + 1)) x308000 x308001) else (none)) else (none)) else (none)))) else (impl_dnText.l0 k x3 x8 x9 (wrap64 (x10 + 1)))
end
def impl_dnText.f (k : Nat) (l0 : List (S42)) : Option (ByteArray) := impl_dnText.l0 k (([] : List Int)) l0 (l0.length : Int) 0
theorem impl_dnText.mono_l : ∀ k, (∀ y0 y1 y2 y3, LeO (impl_dnText.l0 k y0 y1 y2 y3) (impl_dnText.l0 (k + 1) y0 y1 y2 y3)) ∧ (∀ y0 y1 y2 y3 y4 y5, LeO (impl_dnText.j1 k y0 y1 y2 y3 y4 y5) (impl_dnText.j1 (k + 1) y0 y1 y2 y3 y4 y5)) ∧ (∀ y0 y1 y2 y3 y4 y5 y6 y7, LeO (impl_dnText.l1 k y0 y1 y2 y3 y4 y5 y6 y7) (impl_dnText.l1 (k + 1) y0 y1 y2 y3 y4 y5 y6 y7))
 | 0 => ⟨fun _ _ _ _ r h => by simp [impl_dnText.l0] at h, fun _ _ _ _ _ _ r h => by simp [impl_dnText.j1] at h, fun _ _ _ _ _ _ _ _ r h => by simp [impl_dnText.l1] at h⟩
 | k + 1 => by
  obtain ⟨ih0, ih1, ih2⟩ := impl_dnText.mono_l k
  refine ⟨?_, ?_, ?_⟩
  ·intro y0 y1 y2 y3
   unfold impl_dnText.l0
   repeat' first
   | (with_reducible exact ih0 _ _ _ _)
   | (with_reducible exact ih1 _ _ _ _ _ _)
   | (with_reducible exact ih2 _ _ _ _ _ _ _ _)
   | (with_reducible exact LeO.refl _)
   | (with_reducible exact LeO.none _)
   | (with_reducible refine LeO.ite ?_ ?_)
   | (with_reducible refine LeO.bind ?_ (fun _ => ?_))
   | exact ih0 _ _ _ _
   | exact ih1 _ _ _ _ _ _
   | exact ih2 _ _ _ _ _ _ _ _
   | exact LeO.none _
   | refine LeO.ite ?_ ?_
   | refine LeO.bind ?_ (fun _ => ?_)
  ·intro y0 y1 y2 y3 y4 y5
   unfold impl_dnText.j1
   repeat' first
   | (with_reducible exact ih0 _ _ _ _)
   | (with_reducible exact ih1 _ _ _ _ _ _)
   | (with_reducible exact ih2 _ _ _ _ _ _ _ _)
   | (with_reducible exact LeO.refl _)
   | (with_reducible exact LeO.none _)
   | (with_reducible refine LeO.ite ?_ ?_)
   | (with_reducible refine LeO.bind ?_ (fun _ => ?_))
   | exact ih0 _ _ _ _
   | exact ih1 _ _ _ _ _ _
   | exact ih2 _ _ _ _ _ _ _ _
   | exact LeO.none _
   | refine LeO.ite ?_ ?_
   | refine LeO.bind ?_ (fun _ => ?_)
  ·intro y0 y1 y2 y3 y4 y5 y6 y7
   unfold impl_dnText.l1
   repeat' first
   | (with_reducible exact ih0 _ _ _ _)
   | (with_reducible exact ih1 _ _ _ _ _ _)
   | (with_reducible exact ih2 _ _ _ _ _ _ _ _)
   | (with_reducible exact LeO.refl _)
   | (with_reducible exact LeO.none _)
   | (with_reducible refine LeO.ite ?_ ?_)
   | (with_reducible refine LeO.bind ?_ (fun _ => ?_))
   | exact ih0 _ _ _ _
   | exact ih1 _ _ _ _ _ _
   | exact ih2 _ _ _ _ _ _ _ _
   | exact LeO.none _
   | refine LeO.ite ?_ ?_
   | refine LeO.bind ?_ (fun _ => ?_)
theorem impl_dnText.mono : ∀ a0 k, LeO (impl_dnText.f k a0) (impl_dnText.f (k + 1) a0) := by
 intro a0 k
 obtain ⟨ih0, ih1, ih2⟩ := impl_dnText.mono_l k
 unfold impl_dnText.f
 repeat' first
   | (with_reducible exact ih0 _ _ _ _)
   | (with_reducible exact ih1 _ _ _ _ _ _)
   | (with_reducible exact ih2 _ _ _ _ _ _ _ _)
   | (with_reducible exact LeO.refl _)
   | (with_reducible exact LeO.none _)
   | (with_reducible refine LeO.ite ?_ ?_)
   | (with_reducible refine LeO.bind ?_ (fun _ => ?_))
   | exact ih0 _ _ _ _
   | exact ih1 _ _ _ _ _ _
   | exact ih2 _ _ _ _ _ _ _ _
   | exact LeO.none _
   | refine LeO.ite ?_ ?_
   | refine LeO.bind ?_ (fun _ => ?_)
set_option maxHeartbeats 8000000 in
set_option maxRecDepth 100000 in
theorem impl_dnText.calls (k : Nat) (A0 : Option Addr) (c0 : Nat) (l0 : List (S42)) (r : ByteArray) (w : World) (hr0 : Kd.C k42 w A0 l0.length l0) (hc0 : l0.length ≤ c0) (h : impl_dnText.f k l0 = some r) :
  Calls Tryd.prog 74 #[.slice A0 l0.length c0] w fun e w' => e = .returned (.string r) ∧ Below w.heap.size w w' := by
 have hu42 := Tryd.underlying42
 have HR0 := Aside0.mk hr0
 have HC0 := Aside0.mk hc0
 clear hr0 hc0
 have HB := Aside0.mk (Below.refl w.heap.size w)
 have H : (impl_dnText.l0 k (([] : List Int)) l0 (l0.length : Int) 0) = some r := h
 clear h
 obtain ⟨y303, hy303⟩ : ∃ y_ : List Int, y_ = (([] : List Int)) := ⟨_, rfl⟩
 replace H : (impl_dnText.l0 k y303 l0 (l0.length : Int) 0) = some r := by first | (rw [hy303]; with_reducible exact H) | (have H2_ := (Option.bind_some _ _).symm.trans H; rw [hy303]; with_reducible exact H2_) | (have H2_ := (Option.bind_some _ _).symm.trans H; with_reducible exact H2_) | with_reducible exact H | (rw [hy303]; exact H) | exact H
 have Ny303 := Aside0.mk hy303
 clear hy303
 have H' := Aside0.mk H
 clear H
 go_enter Tryd.func74, Tryd.ntmps74
 go_wp2_with (first | ((with_reducible refine gate_dst (N := 7) rfl ?_); refine Kd.R_lit (Kd.int .u8) _ 5 ?hg (N := 7) ?hd (xs := ([] : List Int)) (inner := []) (ok := fun _ => True) (okp := fun _ => True) ?hr ?hp (fun _ hk => hk) trivial (Below.refl _ _) (Nat.le_refl _) (by simp) ?_; (case hd => rfl); (case hg => rfl); (case hr => first | (go_simp; done) | (go_simp; rfl)); (case hp => exact (Reps.none _ _)); intro v304 w2 ho3 hb hg_ hnew_; clear hg_ hnew_; (first | rw [← Ny303.out] at ho3 | (simp only [Int.reduceToNat] at ho3; rw [← Ny303.out] at ho3)); have n0_ := Aside0.mk (Kd.R_lower ho3 (below_size HBa)); have n1_ := Aside0.mk (below_step HBa hb); clear HB; have HO305 := n0_; have HB := n1_; clear n0_ n1_; clear hb ho3))
 go_loopg [3, 10] k (fun kq v3 v10 w' => ∃ (x3_1 : List Int) (x10_1 : Int), v10 = .int .i64 x10_1 ∧ Aside0 (impl_dnText.l0 kq x3_1 l0 (l0.length : Int) x10_1 = some r) ∧ Aside0 (kq ≤ k) ∧ Aside0 (Kd.R (Kd.int .u8) 5 w' w.heap.size (fun _ => True) v3 x3_1) ∧ Aside0 (Below w.heap.size w w'))
 case atStart => exact ⟨(y303), (0), EZc, H', ⟨Nat.le_refl _⟩, ⟨by (with_reducible repeat (first | apply Kd.R_alloc | apply Kd.R_drewN | apply Kd.R_drew)); exact HO305.out⟩, ⟨HBa⟩⟩
 case round =>
  clear H'
  try clear p2
  obtain ⟨x3_1, x10_1, rfl, HA, HK1, HO_3, HB⟩ := hrel
  cases gk with
  | zero => exact absurd HA.out (by simp [impl_dnText.l0])
  | succ k1 =>
   have H := HA.out
   clear HA
   simp only [impl_dnText.l0] at H
   by_cases c4 : x10_1 < (l0.length : Int)
   ·rw [if_pos c4] at H
    have c4b0 : decide (x10_1 < (l0.length : Int)) = true := decide_eq_true c4
    clear c4
    by_cases c5 : 0 ≤ x10_1
    ·rw [if_pos c5] at H
     have c5b0 : decide (0 ≤ x10_1) = true := decide_eq_true c5
     clear c5
     by_cases c6 : x10_1 < (l0.length : Int)
     ·rw [if_pos c6] at H
      have c6b0 : decide (x10_1 < (l0.length : Int)) = true := decide_eq_true c6
      clear c6
      have HC7 := Aside0.mk H
      clear H
      have p306 : 0 ≤ (x10_1 : Int) := ODz
      have q306 : x10_1 < (l0.length : Int) := ODz
      obtain ⟨ad306, e306, hx306_0, hx306_1⟩ := at_T42 HR0.out x10_1 p306 q306
      cases e306
      replace hx306_0 := (HB.out.cell (World.block_lt_of_cell? w _ hx306_0)).trans hx306_0
      replace hx306_1 := (HB.out.cell (World.block_lt_of_cell? w _ hx306_1)).trans hx306_1
      replace p306 := eq_true p306
      replace q306 := eq_true q306
      go_upto_if 16 with (first | ((with_reducible refine gate_dst (N := 5) rfl ?_); refine box_event ?hg (N := 5) ?hd (cs := #[.string (⟨#[]⟩ : ByteArray), .string (⟨#[]⟩ : ByteArray)]) (t := 42) ?hr ?_; (case hd => rfl); (case hg => rfl); (case hr => first | (go_simp; done) | (go_simp; rfl)); intro gb307 hg w8 hbox hb; have n0_ := Aside0.mk (Kd.R_below (by (with_reducible repeat (first | apply Kd.R_alloc | apply Kd.R_drewN | apply Kd.R_drew)); exact HO_3.out) hb); have n1_ := Aside0.mk (below_step HBa hb); have n2_ := Aside0.mk (hbox); have n3_ := Aside0.mk ((by rw [hg]; exact (below_size HBa) : w.heap.size ≤ gb307)); have n4_ := Aside0.mk ((by rw [hg]; exact (below_size HBa) : w.heap.size ≤ gb307)); clear HO_3; clear HB; have HO_3 := n0_; have HB := n1_; have BK307 := n2_; have GW307 := n3_; have GE307 := n4_; clear n0_ n1_ n2_ n3_ n4_; clear hb hbox hg; have hcz9_0 : w8.cell? ⟨gb307, 0, none⟩ = some (.string (⟨#[]⟩ : ByteArray)) := (blk_cell BK307.out 0).trans rfl; have hcz9_1 : w8.cell? ⟨gb307, 1, none⟩ = some (.string (⟨#[]⟩ : ByteArray)) := (blk_cell BK307.out 1).trans rfl; have hfz9_0 := blk_frozen BK307.out 0; have hfz9_1 := blk_frozen BK307.out 1))
      (try simp only [Act.put, List.setIfInBounds_toArray, List.set_cons_zero, List.set_cons_succ])
      go_cut [3] (fun v3 wc => ∃ (kq : Nat) (x3_6 : List Int), Aside0 (impl_dnText.j1 kq x3_6 l0 (l0.length : Int) x10_1 ((rd_T42 l0 x10_1).f0) ((rd_T42 l0 x10_1).f1) = some r) ∧ Aside0 (kq ≤ k1) ∧ Aside0 (Kd.R (Kd.int .u8) 5 wc w.heap.size (fun _ => True) v3 x3_6) ∧ Aside0 (wc.heap[gb307]? = some (.cells #[.string ((rd_T42 l0 x10_1).f0), .string ((rd_T42 l0 x10_1).f1)] 42 (0, 0))) ∧ Aside0 (Below w.heap.size w wc))
      case first =>
       have H := HC7.out
       clear HC7
       by_cases c10 : x10_1 > 0
       ·rw [if_pos c10] at H
        have c10b0 : decide (0 < x10_1) = true := decide_eq_true c10
        clear c10
        (first | rw [c10b0] | rw [c10v0] | (simp only [i64_w, i32_w]; rw [c10b0]) | (simp only [i64_w, i32_w]; rw [c10v0]) | skip)
        by_cases c11 : x3_1.length < 140737488355328
        ·rw [if_pos c11] at H
         have LMc11 := Aside0.mk c11
         clear c11
         obtain ⟨y308, hy308⟩ : ∃ y_ : List Int, y_ = (x3_1 ++ [44]) := ⟨_, rfl⟩
         replace H : (impl_dnText.j1 k1 y308 l0 (l0.length : Int) x10_1 ((rd_T42 l0 x10_1).f0) ((rd_T42 l0 x10_1).f1)) = some r := by first | (rw [hy308]; with_reducible exact H) | (have H2_ := (Option.bind_some _ _).symm.trans H; rw [hy308]; with_reducible exact H2_) | (have H2_ := (Option.bind_some _ _).symm.trans H; with_reducible exact H2_) | with_reducible exact H | (rw [hy308]; exact H) | exact H
         have Ny308 := Aside0.mk hy308
         clear hy308
         have H' := Aside0.mk H
         clear H
         go_wp2_with (first | ((with_reducible refine gate_builtin (b := .append) (xs := #[.tmp 17, .tmp 18]) rfl ?_); at_builtin; refine Kd.R_append (Kd.int .u8) (w0 := w) w.heap.size rfl (.tmp 17) (.tmp 18) 36 5 (.int .u8 0) 1 rfl Tryd.underlying36 info5 rfl (by decide) (by omega) u3 x3_1 44 [.int .u8 44] (fun _ => True) (fun _ => False) rfl (by first | (go_simp; done) | (go_simp; rfl)) ?aP (fun _ hk => hk.elim) ?aF ?aO ?aB ?aS ?aL ?_; (case aP => exact rfl); (case aB => exact (HBb GE307)); (case aF => exact (fun _ _ => trivial)); (case aO => exact (by (with_reducible repeat (first | apply Kd.R_alloc | apply Kd.R_drewN | apply Kd.R_drew)); exact Kd.R_mono (Kd.R_far (p := ⟨gb307, 1, none⟩) (Kd.R_far (p := ⟨gb307, 0, none⟩) (Kd.R_types HO_3.out BK307.out (by decide)) (fun _ hk => hk.2) (.string ((rd_T42 l0 x10_1).f0))) (fun _ hk => hk.2) (.string ((rd_T42 l0 x10_1).f1))) (fun _ hk => trivial))); (case aS => exact (below_size (HBb GE307))); (case aL => have := LMc11.out; omega); intro v309 w12 ho hb hg hat; rw [← Ny308.out] at ho; have n0_ := Aside0.mk (blk_grown (g := gb307) (o := .cells #[.string ((rd_T42 l0 x10_1).f0), .string ((rd_T42 l0 x10_1).f1)] 42 (0, 0)) (by (with_reducible repeat (first | refine blk_drewN ?_ _ | refine blk_drew ?_ | refine blk_alloc ?_ _)); refine blk_put (cs := #[.string ((rd_T42 l0 x10_1).f0), .string (⟨#[]⟩ : ByteArray)]) ?_ 1 _ rfl; (with_reducible repeat (first | refine blk_drewN ?_ _ | refine blk_drew ?_ | refine blk_alloc ?_ _)); refine blk_put (cs := #[.string (⟨#[]⟩ : ByteArray), .string (⟨#[]⟩ : ByteArray)]) ?_ 0 _ rfl; (with_reducible repeat (first | refine blk_drewN ?_ _ | refine blk_drew ?_ | refine blk_alloc ?_ _)); exact BK307.out) hg (Kd.R_ne HO_3.out BK307.out (by decide))); have n1_ := Aside0.mk (hb); have n2_ := Aside0.mk (ho); clear BK307; clear HB; clear HO_3; have BK307 := n0_; have HB := n1_; have HO310 := n2_; clear n0_ n1_ n2_; clear ho hb hg hat))
         go_meet
         case rel => exact ⟨_, (y308), H', ⟨by have := HK1.out; first | omega | exact Nat.le_refl _⟩, ⟨by (with_reducible repeat (first | apply Kd.R_alloc | apply Kd.R_drewN | apply Kd.R_drew)); exact HO310.out⟩, ⟨by (with_reducible repeat (first | refine blk_drewN ?_ _ | refine blk_drew ?_ | refine blk_alloc ?_ _)); exact BK307.out⟩, ⟨by repeat (first | (with_reducible first | exact HB.out | apply below_alloc | apply pw_below_drewN | apply below_drew1 | refine below_set ?_ GE307.out) | exact HB.out)⟩⟩
        ·rw [if_neg c11] at H
         exact absurd H (by simp)
       ·rw [if_neg c10] at H
        have c10b0 : decide (0 < x10_1) = false := decide_eq_false c10
        clear c10
        (first | rw [c10b0] | rw [c10v0] | (simp only [i64_w, i32_w]; rw [c10b0]) | (simp only [i64_w, i32_w]; rw [c10v0]) | skip)
        have H' := Aside0.mk H
        clear H
        go_wp2
        go_meet
        case rel => exact ⟨_, (x3_1), H', ⟨by have := HK1.out; first | omega | exact Nat.le_refl _⟩, ⟨by (with_reducible repeat (first | apply Kd.R_alloc | apply Kd.R_drewN | apply Kd.R_drew)); exact Kd.R_mono (Kd.R_far (p := ⟨gb307, 1, none⟩) (Kd.R_far (p := ⟨gb307, 0, none⟩) (Kd.R_types HO_3.out BK307.out (by decide)) (fun _ hk => hk.2) (.string ((rd_T42 l0 x10_1).f0))) (fun _ hk => hk.2) (.string ((rd_T42 l0 x10_1).f1))) (fun _ hk => trivial)⟩, ⟨by (with_reducible repeat (first | refine blk_drewN ?_ _ | refine blk_drew ?_ | refine blk_alloc ?_ _)); refine blk_put (cs := #[.string ((rd_T42 l0 x10_1).f0), .string (⟨#[]⟩ : ByteArray)]) ?_ 1 _ rfl; (with_reducible repeat (first | refine blk_drewN ?_ _ | refine blk_drew ?_ | refine blk_alloc ?_ _)); refine blk_put (cs := #[.string (⟨#[]⟩ : ByteArray), .string (⟨#[]⟩ : ByteArray)]) ?_ 0 _ rfl; (with_reducible repeat (first | refine blk_drewN ?_ _ | refine blk_drew ?_ | refine blk_alloc ?_ _)); exact BK307.out⟩, ⟨by repeat (first | (with_reducible first | exact HB.out | apply below_alloc | apply pw_below_drewN | apply below_drew1 | refine below_set ?_ GE307.out) | exact HB.out)⟩⟩
      case rest =>
       clear HC7
       try clear c1
       try clear p2
       try clear p3
       try clear q3
       try clear hx3
       try clear c4
       try clear c4b0
       try clear c5
       try clear c5b0
       try clear c6
       try clear c6b0
       try clear c7
       try clear c10
       try clear c10b0
       try clear c11
       try clear hcz9_0
       try clear hcz9_1
       try clear hfz9_0
       try clear hfz9_1
       try clear hx306_0
       try clear hx306_1
       try clear p2
       try clear p306
       try clear q306
       obtain ⟨kq, x3_6, HA, HJ6, HO_3, BK307, HB⟩ := hcut
       cases kq with
       | zero => exact absurd HA.out (by simp [impl_dnText.j1])
       | succ kj6 =>
        have H := HA.out
        clear HA
        simp only [impl_dnText.j1] at H
        by_cases c13 : x3_6.length + ((rd_T42 l0 x10_1).f0).size < 140737488355328
        ·rw [if_pos c13] at H
         have LMc13 := Aside0.mk c13
         clear c13
         obtain ⟨y311, hy311⟩ : ∃ y_ : List Int, y_ = (x3_6 ++ bytesOf ((rd_T42 l0 x10_1).f0)) := ⟨_, rfl⟩
         replace H : (if y311.length < 140737488355328 then (impl_dnText.l1 kj6 (y311 ++ [61]) l0 (l0.length : Int) x10_1 (((rd_T42 l0 x10_1).f1).size : Int) 0 ((rd_T42 l0 x10_1).f0) ((rd_T42 l0 x10_1).f1)) else (none)) = some r := by first | (rw [hy311]; with_reducible exact H) | (have H2_ := (Option.bind_some _ _).symm.trans H; rw [hy311]; with_reducible exact H2_) | (have H2_ := (Option.bind_some _ _).symm.trans H; with_reducible exact H2_) | with_reducible exact H | (rw [hy311]; exact H) | exact H
         have Ny311 := Aside0.mk hy311
         clear hy311
         by_cases c14 : y311.length < 140737488355328
         ·rw [if_pos c14] at H
          have LMc14 := Aside0.mk c14
          clear c14
          obtain ⟨y314, hy314⟩ : ∃ y_ : List Int, y_ = (y311 ++ [61]) := ⟨_, rfl⟩
          replace H : (impl_dnText.l1 kj6 y314 l0 (l0.length : Int) x10_1 (((rd_T42 l0 x10_1).f1).size : Int) 0 ((rd_T42 l0 x10_1).f0) ((rd_T42 l0 x10_1).f1)) = some r := by first | (rw [hy314]; with_reducible exact H) | (have H2_ := (Option.bind_some _ _).symm.trans H; rw [hy314]; with_reducible exact H2_) | (have H2_ := (Option.bind_some _ _).symm.trans H; with_reducible exact H2_) | with_reducible exact H | (rw [hy314]; exact H) | exact H
          have Ny314 := Aside0.mk hy314
          clear hy314
          have H' := Aside0.mk H
          clear H
          have hcz15_0 : wc.cell? ⟨gb307, 0, none⟩ = some (.string ((rd_T42 l0 x10_1).f0)) := (blk_cell BK307.out 0).trans rfl
          have hcz15_1 : wc.cell? ⟨gb307, 1, none⟩ = some (.string ((rd_T42 l0 x10_1).f1)) := (blk_cell BK307.out 1).trans rfl
          have hfz15_0 := blk_frozen BK307.out 0
          have hfz15_1 := blk_frozen BK307.out 1
          go_wp2_with (first | (at_builtin; refine print_append_str (w0 := w) w.heap.size rfl (.tmp 20) _ 36 9 5 rfl Tryd.underlying36 Tryd.underlying9 info5 u3 x3_6 ((rd_T42 l0 x10_1).f0) rfl rfl ?aO ?aB ?aS ?aL ?_; (case aB => exact (HBb GE307)); (case aO => exact (Kd.own_of_R (by (with_reducible repeat (first | apply Kd.R_alloc | apply Kd.R_drewN | apply Kd.R_drew)); exact HO_3.out))); (case aS => exact (below_size (HBb GE307))); (case aL => have := LMc13.out; omega); intro v312 w16 ho0 hb hg; have ho := Kd.R_of_own (h1 := fun _ => rfl) (ok := fun _ => True) ho0 (fun _ _ => trivial); clear ho0; have hat := True.intro; rw [← Ny311.out] at ho; change Kd.R (Kd.int .u8) 5 w16 w.heap.size (fun _ => True) v312 y311 at ho; have n0_ := Aside0.mk (blk_grown (g := gb307) (o := .cells #[.string ((rd_T42 l0 x10_1).f0), .string ((rd_T42 l0 x10_1).f1)] 42 (0, 0)) (BKz BK307) hg (Kd.R_ne HO_3.out BK307.out (by decide))); have n1_ := Aside0.mk (hb); have n2_ := Aside0.mk (ho); clear BK307; clear HB; clear HO_3; have BK307 := n0_; have HB := n1_; have HO313 := n2_; clear n0_ n1_ n2_; clear ho hb hg hat) | ((with_reducible refine gate_builtin (b := .append) (xs := #[.tmp 23, .tmp 24]) rfl ?_); at_builtin; refine Kd.R_append (Kd.int .u8) (w0 := w) w.heap.size rfl (.tmp 23) (.tmp 24) 36 5 (.int .u8 0) 1 rfl Tryd.underlying36 info5 rfl (by decide) (by omega) v312 y311 61 [.int .u8 61] (fun _ => True) (fun _ => False) rfl rfl ?aP (fun _ hk => hk.elim) ?aF ?aO ?aB ?aS ?aL ?_; (case aP => exact rfl); (case aB => exact (HBb GE307)); (case aF => exact (fun _ _ => trivial)); (case aO => exact (by (with_reducible repeat (first | apply Kd.R_alloc | apply Kd.R_drewN | apply Kd.R_drew)); exact HO313.out)); (case aS => exact (below_size (HBb GE307))); (case aL => have := LMc14.out; omega); intro v315 w17 ho hb hg hat; rw [← Ny314.out] at ho; have n0_ := Aside0.mk (blk_grown (g := gb307) (o := .cells #[.string ((rd_T42 l0 x10_1).f0), .string ((rd_T42 l0 x10_1).f1)] 42 (0, 0)) (BKz BK307) hg (Kd.R_ne HO313.out BK307.out (by decide))); have n1_ := Aside0.mk (hb); have n2_ := Aside0.mk (ho); clear BK307; clear HB; clear HO313; have BK307 := n0_; have HB := n1_; have HO316 := n2_; clear n0_ n1_ n2_; clear ho hb hg hat; have hcz18_0 : w17.cell? ⟨gb307, 0, none⟩ = some (.string ((rd_T42 l0 x10_1).f0)) := (blk_cell BK307.out 0).trans rfl; have hcz18_1 : w17.cell? ⟨gb307, 1, none⟩ = some (.string ((rd_T42 l0 x10_1).f1)) := (blk_cell BK307.out 1).trans rfl; have hfz18_0 := blk_frozen BK307.out 0; have hfz18_1 := blk_frozen BK307.out 1))
          go_loopg [3, 29] kj6 (fun kq v3 v29 w' => ∃ (x3_3 : List Int) (x29_3 : Int), v29 = .int .i64 x29_3 ∧ Aside0 (impl_dnText.l1 kq x3_3 l0 (l0.length : Int) x10_1 (((rd_T42 l0 x10_1).f1).size : Int) x29_3 ((rd_T42 l0 x10_1).f0) ((rd_T42 l0 x10_1).f1) = some r) ∧ Aside0 (kq ≤ kj6) ∧ Aside0 (Kd.R (Kd.int .u8) 5 w' w.heap.size (fun _ => True) v3 x3_3) ∧ Aside0 (w'.heap[gb307]? = some (.cells #[.string ((rd_T42 l0 x10_1).f0), .string ((rd_T42 l0 x10_1).f1)] 42 (0, 0))) ∧ Aside0 (Below w.heap.size w w'))
          case atStart => exact ⟨(y314), (0), EZc, H', ⟨Nat.le_refl _⟩, ⟨by (with_reducible repeat (first | apply Kd.R_alloc | apply Kd.R_drewN | apply Kd.R_drew)); exact HO316.out⟩, ⟨by (with_reducible repeat (first | refine blk_drewN ?_ _ | refine blk_drew ?_ | refine blk_alloc ?_ _)); exact BK307.out⟩, ⟨by repeat (first | (with_reducible first | exact HB.out | apply below_alloc | apply pw_below_drewN | apply below_drew1 | refine below_set ?_ GE307.out) | exact HB.out)⟩⟩
          case round =>
           clear H'
           try clear c1
           try clear p2
           try clear p3
           try clear q3
           try clear hx3
           try clear c4
           try clear c4b0
           try clear c5
           try clear c5b0
           try clear c6
           try clear c6b0
           try clear c7
           try clear c10
           try clear c10b0
           try clear c11
           try clear c13
           try clear c14
           try clear hcz15_0
           try clear hcz15_1
           try clear hcz18_0
           try clear hcz18_1
           try clear hcz9_0
           try clear hcz9_1
           try clear hfz15_0
           try clear hfz15_1
           try clear hfz18_0
           try clear hfz18_1
           try clear hfz9_0
           try clear hfz9_1
           try clear hx306_0
           try clear hx306_1
           try clear p2
           try clear p3
           try clear p306
           try clear q3
           try clear q306
           obtain ⟨x3_3, x29_3, rfl, HA, HK3, HO_3, BK307, HB⟩ := hrel
           cases gk with
           | zero => exact absurd HA.out (by simp [impl_dnText.l1])
           | succ k3 =>
            have H := HA.out
            clear HA
            simp only [impl_dnText.l1] at H
            by_cases c19 : x29_3 < (((rd_T42 l0 x10_1).f1).size : Int)
            ·rw [if_pos c19] at H
             have c19b0 : decide (x29_3 < (((rd_T42 l0 x10_1).f1).size : Int)) = true := decide_eq_true c19
             clear c19
             replace H := Option.bind_eq_some_iff.mp H
             obtain ⟨t317, A200, H⟩ := H
             replace H : (if t317 = true then (if x3_3.length < 140737488355328 then ((some (x3_3 ++ [92] : List Int)).bind fun y318 => (if 0 ≤ x29_3 then (if x29_3 < (((rd_T42 l0 x10_1).f1).size : Int) then (if y318.length < 140737488355328 then (impl_dnText.l1 k3 (y318 ++ [bt ((rd_T42 l0 x10_1).f1) x29_3]) l0 (l0.length : Int) x10_1 (((rd_T42 l0 x10_1).f1).size : Int) (wrap64 (x29_3 + 1)) ((rd_T42 l0 x10_1).f0) ((rd_T42 l0 x10_1).f1)) else (none)) else (none)) else (none))) else (none)) else (if 0 ≤ x29_3 then (if x29_3 < (((rd_T42 l0 x10_1).f1).size : Int) then (if x3_3.length < 140737488355328 then (impl_dnText.l1 k3 (x3_3 ++ [bt ((rd_T42 l0 x10_1).f1) x29_3]) l0 (l0.length : Int) x10_1 (((rd_T42 l0 x10_1).f1).size : Int) (wrap64 (x29_3 + 1)) ((rd_T42 l0 x10_1).f0) ((rd_T42 l0 x10_1).f1)) else (none)) else (none)) else (none))) = some r := H
             have A20 := Aside0.mk A200
             clear A200
             by_cases c21 : t317 = true
             ·subst c21
              have H1 : (if x3_3.length < 140737488355328 then ((some (x3_3 ++ [92] : List Int)).bind fun y318 => (if 0 ≤ x29_3 then (if x29_3 < (((rd_T42 l0 x10_1).f1).size : Int) then (if y318.length < 140737488355328 then (impl_dnText.l1 k3 (y318 ++ [bt ((rd_T42 l0 x10_1).f1) x29_3]) l0 (l0.length : Int) x10_1 (((rd_T42 l0 x10_1).f1).size : Int) (wrap64 (x29_3 + 1)) ((rd_T42 l0 x10_1).f0) ((rd_T42 l0 x10_1).f1)) else (none)) else (none)) else (none))) else (none)) = some r := by rw [if_pos rfl] at H; exact H
              clear H
              have H := H1
              clear H1
              by_cases c22 : x3_3.length < 140737488355328
              ·rw [if_pos c22] at H
               have LMc22 := Aside0.mk c22
               clear c22
               obtain ⟨y318, hy318⟩ : ∃ y_ : List Int, y_ = (x3_3 ++ [92]) := ⟨_, rfl⟩
               replace H : (if 0 ≤ x29_3 then (if x29_3 < (((rd_T42 l0 x10_1).f1).size : Int) then (if y318.length < 140737488355328 then (impl_dnText.l1 k3 (y318 ++ [bt ((rd_T42 l0 x10_1).f1) x29_3]) l0 (l0.length : Int) x10_1 (((rd_T42 l0 x10_1).f1).size : Int) (wrap64 (x29_3 + 1)) ((rd_T42 l0 x10_1).f0) ((rd_T42 l0 x10_1).f1)) else (none)) else (none)) else (none)) = some r := by first | (rw [hy318]; with_reducible exact H) | (have H2_ := (Option.bind_some _ _).symm.trans H; rw [hy318]; with_reducible exact H2_) | (have H2_ := (Option.bind_some _ _).symm.trans H; with_reducible exact H2_) | with_reducible exact H | (rw [hy318]; exact H) | exact H
               have Ny318 := Aside0.mk hy318
               clear hy318
               by_cases c23 : 0 ≤ x29_3
               ·rw [if_pos c23] at H
                have c23b0 : decide (0 ≤ x29_3) = true := decide_eq_true c23
                clear c23
                by_cases c24 : x29_3 < (((rd_T42 l0 x10_1).f1).size : Int)
                ·rw [if_pos c24] at H
                 have c24b0 : decide (x29_3 < (((rd_T42 l0 x10_1).f1).size : Int)) = true := decide_eq_true c24
                 clear c24
                 by_cases c26 : y318.length < 140737488355328
                 ·rw [if_pos c26] at H
                  have LMc26 := Aside0.mk c26
                  clear c26
                  obtain ⟨y321, hy321⟩ : ∃ y_ : List Int, y_ = (y318 ++ [bt ((rd_T42 l0 x10_1).f1) x29_3]) := ⟨_, rfl⟩
                  replace H : (impl_dnText.l1 k3 y321 l0 (l0.length : Int) x10_1 (((rd_T42 l0 x10_1).f1).size : Int) (wrap64 (x29_3 + 1)) ((rd_T42 l0 x10_1).f0) ((rd_T42 l0 x10_1).f1)) = some r := by first | (rw [hy321]; with_reducible exact H) | (have H2_ := (Option.bind_some _ _).symm.trans H; rw [hy321]; with_reducible exact H2_) | (have H2_ := (Option.bind_some _ _).symm.trans H; with_reducible exact H2_) | with_reducible exact H | (rw [hy321]; exact H) | exact H
                  have Ny321 := Aside0.mk hy321
                  clear hy321
                  have H' := Aside0.mk H
                  clear H
                  have hcz27_0 : wr.cell? ⟨gb307, 0, none⟩ = some (.string ((rd_T42 l0 x10_1).f0)) := (blk_cell BK307.out 0).trans rfl
                  have hcz27_1 : wr.cell? ⟨gb307, 1, none⟩ = some (.string ((rd_T42 l0 x10_1).f1)) := (blk_cell BK307.out 1).trans rfl
                  have hfz27_0 := blk_frozen BK307.out 0
                  have hfz27_1 := blk_frozen BK307.out 1
                  go_wp2_with (first | ((with_reducible refine gate_callee (f := 123) rfl ?_); refine goesL_ (some 35) rfl rfl Tryd.func123 (by kernel_rfl) rfl #[.string ((rd_T42 l0 x10_1).f1), .int .i64 x29_3] rfl MPz ?_; (with_reducible refine (impl_isMarked.calls ((rd_T42 l0 x10_1).f1) x29_3 true _ A20.out).mono ?_); rintro e w' ⟨rfl, ⟨nd, rfl⟩⟩; refine ⟨_, rfl, ?_⟩) | ((with_reducible refine gate_builtin (b := .append) (xs := #[.tmp 36, .tmp 37]) rfl ?_); at_builtin; refine Kd.R_append (Kd.int .u8) (w0 := w) w.heap.size rfl (.tmp 36) (.tmp 37) 36 5 (.int .u8 0) 1 rfl Tryd.underlying36 info5 rfl (by decide) (by omega) u3 x3_3 92 [.int .u8 92] (fun _ => True) (fun _ => False) rfl rfl ?aP (fun _ hk => hk.elim) ?aF ?aO ?aB ?aS ?aL ?_; (case aP => exact rfl); (case aB => exact (HBb GE307)); (case aF => exact (fun _ _ => trivial)); (case aO => exact (by (with_reducible repeat (first | apply Kd.R_alloc | apply Kd.R_drewN | apply Kd.R_drew)); exact HO_3.out)); (case aS => exact (below_size (HBb GE307))); (case aL => have := LMc22.out; omega); intro v319 w28 ho hb hg hat; rw [← Ny318.out] at ho; have n0_ := Aside0.mk (blk_grown (g := gb307) (o := .cells #[.string ((rd_T42 l0 x10_1).f0), .string ((rd_T42 l0 x10_1).f1)] 42 (0, 0)) (BKz BK307) hg (Kd.R_ne HO_3.out BK307.out (by decide))); have n1_ := Aside0.mk (hb); have n2_ := Aside0.mk (ho); clear BK307; clear HB; clear HO_3; have BK307 := n0_; have HB := n1_; have HO320 := n2_; clear n0_ n1_ n2_; clear ho hb hg hat; have hcz29_0 : w28.cell? ⟨gb307, 0, none⟩ = some (.string ((rd_T42 l0 x10_1).f0)) := (blk_cell BK307.out 0).trans rfl; have hcz29_1 : w28.cell? ⟨gb307, 1, none⟩ = some (.string ((rd_T42 l0 x10_1).f1)) := (blk_cell BK307.out 1).trans rfl; have hfz29_0 := blk_frozen BK307.out 0; have hfz29_1 := blk_frozen BK307.out 1; have p25 : 0 ≤ (x29_3 : Int) := ODz; have q25 : x29_3 < (((rd_T42 l0 x10_1).f1).size : Int) := ODz; have hx25 := bt_at ((rd_T42 l0 x10_1).f1) x29_3; replace p25 := eq_true p25; replace q25 := eq_true q25) | ((with_reducible refine gate_builtin (b := .append) (xs := #[.tmp 39, .tmp 44]) rfl ?_); at_builtin; refine Kd.R_append (Kd.int .u8) (w0 := w) w.heap.size rfl (.tmp 39) (.tmp 44) 36 5 (.int .u8 0) 1 rfl Tryd.underlying36 info5 rfl (by decide) (by omega) v319 y318 (bt ((rd_T42 l0 x10_1).f1) x29_3) [.int .u8 (bt ((rd_T42 l0 x10_1).f1) x29_3)] (fun _ => True) (fun _ => False) rfl rfl ?aP (fun _ hk => hk.elim) ?aF ?aO ?aB ?aS ?aL ?_; (case aP => exact rfl); (case aB => exact (HBb GE307)); (case aF => exact (fun _ _ => trivial)); (case aO => exact (by (with_reducible repeat (first | apply Kd.R_alloc | apply Kd.R_drewN | apply Kd.R_drew)); exact HO320.out)); (case aS => exact (below_size (HBb GE307))); (case aL => have := LMc26.out; omega); intro v322 w30 ho hb hg hat; rw [← Ny321.out] at ho; have n0_ := Aside0.mk (blk_grown (g := gb307) (o := .cells #[.string ((rd_T42 l0 x10_1).f0), .string ((rd_T42 l0 x10_1).f1)] 42 (0, 0)) (BKz BK307) hg (Kd.R_ne HO320.out BK307.out (by decide))); have n1_ := Aside0.mk (hb); have n2_ := Aside0.mk (ho); clear BK307; clear HB; clear HO320; have BK307 := n0_; have HB := n1_; have HO323 := n2_; clear n0_ n1_ n2_; clear ho hb hg hat))
                  go_roundg k3
                  case measure => have := HK1.out; have := HJ6.out; have := HK3.out; omega
                  case rel => exact ⟨(y321), (wrap64 (x29_3 + 1)), EZc, H', ⟨by have := HK1.out; have := HJ6.out; have := HK3.out; omega⟩, ⟨by (with_reducible repeat (first | apply Kd.R_alloc | apply Kd.R_drewN | apply Kd.R_drew)); exact HO323.out⟩, ⟨by (with_reducible repeat (first | refine blk_drewN ?_ _ | refine blk_drew ?_ | refine blk_alloc ?_ _)); exact BK307.out⟩, ⟨by repeat (first | (with_reducible first | exact HB.out | apply below_alloc | apply pw_below_drewN | apply below_drew1 | refine below_set ?_ GE307.out) | exact HB.out)⟩⟩
                 ·rw [if_neg c26] at H
                  exact absurd H (by simp)
                ·rw [if_neg c24] at H
                 exact absurd H (by simp)
               ·rw [if_neg c23] at H
                exact absurd H (by simp)
              ·rw [if_neg c22] at H
               exact absurd H (by simp)
             ·replace c21 := Bool.eq_false_iff.mpr c21
              subst c21
              have H1 : (if 0 ≤ x29_3 then (if x29_3 < (((rd_T42 l0 x10_1).f1).size : Int) then (if x3_3.length < 140737488355328 then (impl_dnText.l1 k3 (x3_3 ++ [bt ((rd_T42 l0 x10_1).f1) x29_3]) l0 (l0.length : Int) x10_1 (((rd_T42 l0 x10_1).f1).size : Int) (wrap64 (x29_3 + 1)) ((rd_T42 l0 x10_1).f0) ((rd_T42 l0 x10_1).f1)) else (none)) else (none)) else (none)) = some r := by rw [if_neg (show ¬ (false = true) by decide)] at H; exact H
              clear H
              have H := H1
              clear H1
              by_cases c31 : 0 ≤ x29_3
              ·rw [if_pos c31] at H
               have c31b0 : decide (0 ≤ x29_3) = true := decide_eq_true c31
               clear c31
               by_cases c32 : x29_3 < (((rd_T42 l0 x10_1).f1).size : Int)
               ·rw [if_pos c32] at H
                have c32b0 : decide (x29_3 < (((rd_T42 l0 x10_1).f1).size : Int)) = true := decide_eq_true c32
                clear c32
                by_cases c34 : x3_3.length < 140737488355328
                ·rw [if_pos c34] at H
                 have LMc34 := Aside0.mk c34
                 clear c34
                 obtain ⟨y324, hy324⟩ : ∃ y_ : List Int, y_ = (x3_3 ++ [bt ((rd_T42 l0 x10_1).f1) x29_3]) := ⟨_, rfl⟩
                 replace H : (impl_dnText.l1 k3 y324 l0 (l0.length : Int) x10_1 (((rd_T42 l0 x10_1).f1).size : Int) (wrap64 (x29_3 + 1)) ((rd_T42 l0 x10_1).f0) ((rd_T42 l0 x10_1).f1)) = some r := by first | (rw [hy324]; with_reducible exact H) | (have H2_ := (Option.bind_some _ _).symm.trans H; rw [hy324]; with_reducible exact H2_) | (have H2_ := (Option.bind_some _ _).symm.trans H; with_reducible exact H2_) | with_reducible exact H | (rw [hy324]; exact H) | exact H
                 have Ny324 := Aside0.mk hy324
                 clear hy324
                 have H' := Aside0.mk H
                 clear H
                 have hcz35_0 : wr.cell? ⟨gb307, 0, none⟩ = some (.string ((rd_T42 l0 x10_1).f0)) := (blk_cell BK307.out 0).trans rfl
                 have hcz35_1 : wr.cell? ⟨gb307, 1, none⟩ = some (.string ((rd_T42 l0 x10_1).f1)) := (blk_cell BK307.out 1).trans rfl
                 have hfz35_0 := blk_frozen BK307.out 0
                 have hfz35_1 := blk_frozen BK307.out 1
                 go_wp2_with (first | ((with_reducible refine gate_callee (f := 123) rfl ?_); refine goesL_ (some 35) rfl rfl Tryd.func123 (by kernel_rfl) rfl #[.string ((rd_T42 l0 x10_1).f1), .int .i64 x29_3] rfl MPz ?_; (with_reducible refine (impl_isMarked.calls ((rd_T42 l0 x10_1).f1) x29_3 false _ A20.out).mono ?_); rintro e w' ⟨rfl, ⟨nd, rfl⟩⟩; refine ⟨_, rfl, ?_⟩; have p33 : 0 ≤ (x29_3 : Int) := ODz; have q33 : x29_3 < (((rd_T42 l0 x10_1).f1).size : Int) := ODz; have hx33 := bt_at ((rd_T42 l0 x10_1).f1) x29_3; replace p33 := eq_true p33; replace q33 := eq_true q33) | ((with_reducible refine gate_builtin (b := .append) (xs := #[.tmp 39, .tmp 44]) rfl ?_); at_builtin; refine Kd.R_append (Kd.int .u8) (w0 := w) w.heap.size rfl (.tmp 39) (.tmp 44) 36 5 (.int .u8 0) 1 rfl Tryd.underlying36 info5 rfl (by decide) (by omega) u3 x3_3 (bt ((rd_T42 l0 x10_1).f1) x29_3) [.int .u8 (bt ((rd_T42 l0 x10_1).f1) x29_3)] (fun _ => True) (fun _ => False) rfl rfl ?aP (fun _ hk => hk.elim) ?aF ?aO ?aB ?aS ?aL ?_; (case aP => exact rfl); (case aB => exact (HBb GE307)); (case aF => exact (fun _ _ => trivial)); (case aO => exact (by (with_reducible repeat (first | apply Kd.R_alloc | apply Kd.R_drewN | apply Kd.R_drew)); exact HO_3.out)); (case aS => exact (below_size (HBb GE307))); (case aL => have := LMc34.out; omega); intro v325 w36 ho hb hg hat; rw [← Ny324.out] at ho; have n0_ := Aside0.mk (blk_grown (g := gb307) (o := .cells #[.string ((rd_T42 l0 x10_1).f0), .string ((rd_T42 l0 x10_1).f1)] 42 (0, 0)) (BKz BK307) hg (Kd.R_ne HO_3.out BK307.out (by decide))); have n1_ := Aside0.mk (hb); have n2_ := Aside0.mk (ho); clear BK307; clear HB; clear HO_3; have BK307 := n0_; have HB := n1_; have HO326 := n2_; clear n0_ n1_ n2_; clear ho hb hg hat))
                 go_roundg k3
                 case measure => have := HK1.out; have := HJ6.out; have := HK3.out; omega
                 case rel => exact ⟨(y324), (wrap64 (x29_3 + 1)), EZc, H', ⟨by have := HK1.out; have := HJ6.out; have := HK3.out; omega⟩, ⟨by (with_reducible repeat (first | apply Kd.R_alloc | apply Kd.R_drewN | apply Kd.R_drew)); exact HO326.out⟩, ⟨by (with_reducible repeat (first | refine blk_drewN ?_ _ | refine blk_drew ?_ | refine blk_alloc ?_ _)); exact BK307.out⟩, ⟨by repeat (first | (with_reducible first | exact HB.out | apply below_alloc | apply pw_below_drewN | apply below_drew1 | refine below_set ?_ GE307.out) | exact HB.out)⟩⟩
                ·rw [if_neg c34] at H
                 exact absurd H (by simp)
               ·rw [if_neg c32] at H
                exact absurd H (by simp)
              ·rw [if_neg c31] at H
               exact absurd H (by simp)
            ·rw [if_neg c19] at H
             have c19b0 : decide (x29_3 < (((rd_T42 l0 x10_1).f1).size : Int)) = false := decide_eq_false c19
             clear c19
             have H' := Aside0.mk H
             clear H
             go_wp2
             go_roundg k3
             case measure => have := HK1.out; have := HJ6.out; have := HK3.out; omega
             case rel => exact ⟨(x3_3), (wrap64 (x10_1 + 1)), EZc, H', ⟨by have := HK1.out; have := HJ6.out; have := HK3.out; omega⟩, ⟨by (with_reducible repeat (first | apply Kd.R_alloc | apply Kd.R_drewN | apply Kd.R_drew)); exact HO_3.out⟩, ⟨by repeat (first | (with_reducible first | exact HB.out | apply below_alloc | apply pw_below_drewN | apply below_drew1 | refine below_set ?_ GE307.out) | exact HB.out)⟩⟩
         ·rw [if_neg c14] at H
          exact absurd H (by simp)
        ·rw [if_neg c13] at H
         exact absurd H (by simp)
     ·rw [if_neg c6] at H
      exact absurd H (by simp)
    ·rw [if_neg c5] at H
     exact absurd H (by simp)
   ·rw [if_neg c4] at H
    have c4b0 : decide (x10_1 < (l0.length : Int)) = false := decide_eq_false c4
    clear c4
    obtain rfl := Option.some.inj H
    have hcv37 := own_string (P := Tryd.prog) Tryd.underlying36 Tryd.underlying5 Tryd.underlying9 (Kd.own_of_R HO_3.out)
    go_wp2
    go_ret
    exact ⟨EZa, HBa⟩
def impl_isLong.l0 : Nat → List ByteArray → Int → Int → Option (Bool)
 | 0, _, _, _ => none
 | k + 1, x5, x6, x7 => if x7 < x6 then (if 0 ≤ x7 then (if x7 < (x5.length : Int) then (if ((rdOf ByteArray.empty x5 x7).size : Int) > 8000 then (some true) else (impl_isLong.l0 k x5 x6 (wrap64 (x7 + 1)))) else (none)) else (none)) else (some false)
def impl_isLong.f (k : Nat) (l0 : List ByteArray) : Option (Bool) := impl_isLong.l0 k l0 (l0.length : Int) 0
theorem impl_isLong.mono_l : ∀ k, (∀ y0 y1 y2, LeO (impl_isLong.l0 k y0 y1 y2) (impl_isLong.l0 (k + 1) y0 y1 y2))
 | 0 => fun _ _ _ r h => by simp [impl_isLong.l0] at h
 | k + 1 => by
  have ih0 := impl_isLong.mono_l k
  ·intro y0 y1 y2
   unfold impl_isLong.l0
   repeat' first
   | (with_reducible exact ih0 _ _ _)
   | (with_reducible exact LeO.refl _)
   | (with_reducible exact LeO.none _)
   | (with_reducible refine LeO.ite ?_ ?_)
   | (with_reducible refine LeO.bind ?_ (fun _ => ?_))
   | exact ih0 _ _ _
   | exact LeO.none _
   | refine LeO.ite ?_ ?_
   | refine LeO.bind ?_ (fun _ => ?_)
theorem impl_isLong.mono : ∀ a0 k, LeO (impl_isLong.f k a0) (impl_isLong.f (k + 1) a0) := by
 intro a0 k
 have ih0 := impl_isLong.mono_l k
 unfold impl_isLong.f
 repeat' first
   | (with_reducible exact ih0 _ _ _)
   | (with_reducible exact LeO.refl _)
   | (with_reducible exact LeO.none _)
   | (with_reducible refine LeO.ite ?_ ?_)
   | (with_reducible refine LeO.bind ?_ (fun _ => ?_))
   | exact ih0 _ _ _
   | exact LeO.none _
   | refine LeO.ite ?_ ?_
   | refine LeO.bind ?_ (fun _ => ?_)
set_option maxHeartbeats 8000000 in
set_option maxRecDepth 100000 in
theorem impl_isLong.calls (k : Nat) (A0 : Option Addr) (c0 : Nat) (l0 : List ByteArray) (r : Bool) (w : World) (hr0 : Kd.C Kd.string w A0 l0.length l0) (hc0 : l0.length ≤ c0) (h : impl_isLong.f k l0 = some r) :
  Calls Tryd.prog 105 #[.slice A0 l0.length c0] w fun e w' => e = .returned (.bool r) ∧ Drawn0 w w' := by
 have HR0 := Aside0.mk hr0
 have HC0 := Aside0.mk hc0
 clear hr0 hc0
 have H : (impl_isLong.l0 k l0 (l0.length : Int) 0) = some r := h
 clear h
 have H' := Aside0.mk H
 clear H
 go_enter Tryd.func105, Tryd.ntmps105
 go_wp2
 go_loopg [7] k (fun kq v7 w' => ∃ (x7_1 : Int), v7 = .int .i64 x7_1 ∧ Aside0 (impl_isLong.l0 kq l0 (l0.length : Int) x7_1 = some r) ∧ Aside0 (kq ≤ k) ∧ Drawn0 w w')
 case atStart => exact ⟨(0), EZc, H', ⟨Nat.le_refl _⟩, DRz⟩
 case round =>
  clear H'
  try clear c1
  obtain ⟨x7_1, rfl, HA, HK1, ⟨m1, rfl⟩⟩ := hrel
  cases gk with
  | zero => exact absurd HA.out (by simp [impl_isLong.l0])
  | succ k1 =>
   have H := HA.out
   clear HA
   simp only [impl_isLong.l0] at H
   by_cases c2 : x7_1 < (l0.length : Int)
   ·rw [if_pos c2] at H
    have c2b0 : decide (x7_1 < (l0.length : Int)) = true := decide_eq_true c2
    clear c2
    by_cases c3 : 0 ≤ x7_1
    ·rw [if_pos c3] at H
     have c3b0 : decide (0 ≤ x7_1) = true := decide_eq_true c3
     clear c3
     by_cases c4 : x7_1 < (l0.length : Int)
     ·rw [if_pos c4] at H
      have c4b0 : decide (x7_1 < (l0.length : Int)) = true := decide_eq_true c4
      clear c4
      by_cases c5 : ((rdOf ByteArray.empty l0 x7_1).size : Int) > 8000
      ·rw [if_pos c5] at H
       have c5b0 : decide (8000 < ((rdOf ByteArray.empty l0 x7_1).size : Int)) = true := decide_eq_true c5
       have c5b1 : decide (8000 < (rdOf ByteArray.empty l0 x7_1).size) = true := decide_eq_true (by omega)
       clear c5
       obtain rfl := Option.some.inj H
       have p327 : 0 ≤ (x7_1 : Int) := ODz
       have q327 : x7_1 < (l0.length : Int) := ODz
       obtain ⟨ad327, e327, hx327_0⟩ := Kd.at_string HR0.out x7_1 p327 q327
       cases e327
       replace p327 := eq_true p327
       replace q327 := eq_true q327
       go_wp2
       go_ret
       exact ⟨EZb, DRz⟩
      ·rw [if_neg c5] at H
       have c5b0 : decide (8000 < ((rdOf ByteArray.empty l0 x7_1).size : Int)) = false := decide_eq_false c5
       have c5b1 : decide (8000 < (rdOf ByteArray.empty l0 x7_1).size) = false := decide_eq_false (by omega)
       clear c5
       have H' := Aside0.mk H
       clear H
       have p327 : 0 ≤ (x7_1 : Int) := ODz
       have q327 : x7_1 < (l0.length : Int) := ODz
       obtain ⟨ad327, e327, hx327_0⟩ := Kd.at_string HR0.out x7_1 p327 q327
       cases e327
       replace p327 := eq_true p327
       replace q327 := eq_true q327
       go_wp2
       go_roundg k1
       case measure => have := HK1.out; omega
       case rel => exact ⟨(wrap64 (x7_1 + 1)), EZc, H', ⟨by have := HK1.out; omega⟩, DRz⟩
     ·rw [if_neg c4] at H
      exact absurd H (by simp)
    ·rw [if_neg c3] at H
     exact absurd H (by simp)
   ·rw [if_neg c2] at H
    have c2b0 : decide (x7_1 < (l0.length : Int)) = false := decide_eq_false c2
    clear c2
    obtain rfl := Option.some.inj H
    go_wp2
    go_ret
    exact ⟨EZb, DRz⟩
def impl_PutNum.l0 : Nat → Int → List Int → Option (ByteArray)
 | 0, _, _ => none
 | k + 1, x3, x4 => if x3 ≥ 128 then (if x4.length < 140737488355328 then (impl_PutNum.l0 k (x3 / 128) (x4 ++ [Go.bits .or .u8 ((x3) % 256) 128])) else (none)) else (if x4.length < 140737488355328 then (some (strOfNums (x4 ++ [(x3) % 256]))) else (none))
def impl_PutNum.f (k : Nat) (a0 : Int) : Option (ByteArray) := impl_PutNum.l0 k (Go.bits .xor .u64 (IntKind.u64.wrap ((IntKind.u64.wrap (a0)) * 2)) (IntKind.u64.wrap (a0 / 9223372036854775808))) (([] : List Int))
theorem impl_PutNum.mono_l : ∀ k, (∀ y0 y1, LeO (impl_PutNum.l0 k y0 y1) (impl_PutNum.l0 (k + 1) y0 y1))
 | 0 => fun _ _ r h => by simp [impl_PutNum.l0] at h
 | k + 1 => by
  have ih0 := impl_PutNum.mono_l k
  ·intro y0 y1
   unfold impl_PutNum.l0
   repeat' first
   | (with_reducible exact ih0 _ _)
   | (with_reducible exact LeO.refl _)
   | (with_reducible exact LeO.none _)
   | (with_reducible refine LeO.ite ?_ ?_)
   | (with_reducible refine LeO.bind ?_ (fun _ => ?_))
   | exact ih0 _ _
   | exact LeO.none _
   | refine LeO.ite ?_ ?_
   | refine LeO.bind ?_ (fun _ => ?_)
theorem impl_PutNum.mono : ∀ a0 k, LeO (impl_PutNum.f k a0) (impl_PutNum.f (k + 1) a0) := by
 intro a0 k
 have ih0 := impl_PutNum.mono_l k
 unfold impl_PutNum.f
 repeat' first
   | (with_reducible exact ih0 _ _)
   | (with_reducible exact LeO.refl _)
   | (with_reducible exact LeO.none _)
   | (with_reducible refine LeO.ite ?_ ?_)
   | (with_reducible refine LeO.bind ?_ (fun _ => ?_))
   | exact ih0 _ _
   | exact LeO.none _
   | refine LeO.ite ?_ ?_
   | refine LeO.bind ?_ (fun _ => ?_)
set_option maxHeartbeats 8000000 in
set_option maxRecDepth 100000 in
theorem impl_PutNum.calls (k : Nat) (a0 : Int) (r : ByteArray) (w : World) (h : impl_PutNum.f k a0 = some r) :
  Calls Tryd.prog 154 #[.int .i64 a0] w fun e w' => e = .returned (.string r) ∧ Below w.heap.size w w' := by
 have HB := Aside0.mk (Below.refl w.heap.size w)
 have H : (impl_PutNum.l0 k (Go.bits .xor .u64 (IntKind.u64.wrap ((IntKind.u64.wrap (a0)) * 2)) (IntKind.u64.wrap (a0 / 9223372036854775808))) (([] : List Int))) = some r := h
 clear h
 obtain ⟨y328, hy328⟩ : ∃ y_ : List Int, y_ = (([] : List Int)) := ⟨_, rfl⟩
 replace H : (impl_PutNum.l0 k (Go.bits .xor .u64 (IntKind.u64.wrap ((IntKind.u64.wrap (a0)) * 2)) (IntKind.u64.wrap (a0 / 9223372036854775808))) y328) = some r := by first | (rw [hy328]; with_reducible exact H) | (have H2_ := (Option.bind_some _ _).symm.trans H; rw [hy328]; with_reducible exact H2_) | (have H2_ := (Option.bind_some _ _).symm.trans H; with_reducible exact H2_) | with_reducible exact H | (rw [hy328]; exact H) | exact H
 have Ny328 := Aside0.mk hy328
 clear hy328
 have H' := Aside0.mk H
 clear H
 go_enter Tryd.func154, Tryd.ntmps154
 go_wp2_with (first | ((with_reducible refine gate_dst (N := 12) rfl ?_); refine Kd.R_lit (Kd.int .u8) _ 5 ?hg (N := 12) ?hd (xs := ([] : List Int)) (inner := []) (ok := fun _ => True) (okp := fun _ => True) ?hr ?hp (fun _ hk => hk) trivial (Below.refl _ _) (Nat.le_refl _) (by simp) ?_; (case hd => rfl); (case hg => rfl); (case hr => first | (go_simp; done) | (go_simp; rfl)); (case hp => exact (Reps.none _ _)); intro v329 w2 ho3 hb hg_ hnew_; clear hg_ hnew_; (first | rw [← Ny328.out] at ho3 | (simp only [Int.reduceToNat] at ho3; rw [← Ny328.out] at ho3)); have n0_ := Aside0.mk (Kd.R_lower ho3 (below_size HBa)); have n1_ := Aside0.mk (below_step HBa hb); clear HB; have HO330 := n0_; have HB := n1_; clear n0_ n1_; clear hb ho3))
 go_loopg [3, 4] k (fun kq v3 v4 w' => ∃ (x3_1 : Int) (x4_1 : List Int), v3 = .int .u64 x3_1 ∧ Aside0 (impl_PutNum.l0 kq x3_1 x4_1 = some r) ∧ Aside0 (kq ≤ k) ∧ Aside0 (Kd.R (Kd.int .u8) 5 w' w.heap.size (fun _ => True) v4 x4_1) ∧ Aside0 (Below w.heap.size w w'))
 case atStart => exact ⟨(Go.bits .xor .u64 (IntKind.u64.wrap ((IntKind.u64.wrap (a0)) * 2)) (IntKind.u64.wrap (a0 / 9223372036854775808))), (y328), EZc, H', ⟨Nat.le_refl _⟩, ⟨by (with_reducible repeat (first | apply Kd.R_alloc | apply Kd.R_drewN | apply Kd.R_drew)); exact HO330.out⟩, ⟨HBa⟩⟩
 case round =>
  clear H'
  try clear c1
  try clear p2
  obtain ⟨x3_1, x4_1, rfl, HA, HK1, HO_4, HB⟩ := hrel
  cases gk with
  | zero => exact absurd HA.out (by simp [impl_PutNum.l0])
  | succ k1 =>
   have H := HA.out
   clear HA
   simp only [impl_PutNum.l0] at H
   by_cases c4 : x3_1 ≥ 128
   ·rw [if_pos c4] at H
    have c4b0 : decide (128 ≤ x3_1) = true := decide_eq_true c4
    clear c4
    by_cases c5 : x4_1.length < 140737488355328
    ·rw [if_pos c5] at H
     have LMc5 := Aside0.mk c5
     clear c5
     obtain ⟨y331, hy331⟩ : ∃ y_ : List Int, y_ = (x4_1 ++ [Go.bits .or .u8 ((x3_1) % 256) 128]) := ⟨_, rfl⟩
     replace H : (impl_PutNum.l0 k1 (x3_1 / 128) y331) = some r := by first | (rw [hy331]; with_reducible exact H) | (have H2_ := (Option.bind_some _ _).symm.trans H; rw [hy331]; with_reducible exact H2_) | (have H2_ := (Option.bind_some _ _).symm.trans H; with_reducible exact H2_) | with_reducible exact H | (rw [hy331]; exact H) | exact H
     have Ny331 := Aside0.mk hy331
     clear hy331
     have H' := Aside0.mk H
     clear H
     go_wp2_with (first | ((with_reducible refine gate_builtin (b := .append) (xs := #[.tmp 15, .tmp 19]) rfl ?_); at_builtin; refine Kd.R_append (Kd.int .u8) (w0 := w) w.heap.size rfl (.tmp 15) (.tmp 19) 36 5 (.int .u8 0) 1 rfl Tryd.underlying36 info5 rfl (by decide) (by omega) u4 x4_1 (Go.bits .or .u8 ((x3_1) % 256) 128) [.int .u8 (Go.bits .or .u8 ((x3_1) % 256) 128)] (fun _ => True) (fun _ => False) rfl rfl ?aP (fun _ hk => hk.elim) ?aF ?aO ?aB ?aS ?aL ?_; (case aP => exact rfl); (case aB => exact HBa); (case aF => exact (fun _ _ => trivial)); (case aO => exact (by (with_reducible repeat (first | apply Kd.R_alloc | apply Kd.R_drewN | apply Kd.R_drew)); exact HO_4.out)); (case aS => exact (below_size HBa)); (case aL => have := LMc5.out; omega); intro v332 w6 ho hb hg hat; rw [← Ny331.out] at ho; have n0_ := Aside0.mk (hb); have n1_ := Aside0.mk (ho); clear HB; clear HO_4; have HB := n0_; have HO333 := n1_; clear n0_ n1_; clear ho hb hg hat))
     go_roundg k1
     case measure => have := HK1.out; omega
     case rel => exact ⟨(x3_1 / 128), (y331), EZc, H', ⟨by have := HK1.out; omega⟩, ⟨by (with_reducible repeat (first | apply Kd.R_alloc | apply Kd.R_drewN | apply Kd.R_drew)); exact HO333.out⟩, ⟨HBa⟩⟩
    ·rw [if_neg c5] at H
     exact absurd H (by simp)
   ·rw [if_neg c4] at H
    have c4b0 : decide (128 ≤ x3_1) = false := decide_eq_false c4
    clear c4
    by_cases c7 : x4_1.length < 140737488355328
    ·rw [if_pos c7] at H
     have LMc7 := Aside0.mk c7
     clear c7
     obtain ⟨y334, hy334⟩ : ∃ y_ : List Int, y_ = (x4_1 ++ [(x3_1) % 256]) := ⟨_, rfl⟩
     replace H : (some (strOfNums y334)) = some r := by first | (rw [hy334]; with_reducible exact H) | (have H2_ := (Option.bind_some _ _).symm.trans H; rw [hy334]; with_reducible exact H2_) | (have H2_ := (Option.bind_some _ _).symm.trans H; with_reducible exact H2_) | with_reducible exact H | (rw [hy334]; exact H) | exact H
     have Ny334 := Aside0.mk hy334
     clear hy334
     obtain rfl := Option.some.inj H
     go_wp2_with (first | ((with_reducible refine gate_builtin (b := .append) (xs := #[.tmp 23, .tmp 26]) rfl ?_); at_builtin; refine Kd.R_append (Kd.int .u8) (w0 := w) w.heap.size rfl (.tmp 23) (.tmp 26) 36 5 (.int .u8 0) 1 rfl Tryd.underlying36 info5 rfl (by decide) (by omega) u4 x4_1 ((x3_1) % 256) [.int .u8 ((x3_1) % 256)] (fun _ => True) (fun _ => False) rfl rfl ?aP (fun _ hk => hk.elim) ?aF ?aO ?aB ?aS ?aL ?_; (case aP => exact rfl); (case aB => exact HBa); (case aF => exact (fun _ _ => trivial)); (case aO => exact (by (with_reducible repeat (first | apply Kd.R_alloc | apply Kd.R_drewN | apply Kd.R_drew)); exact HO_4.out)); (case aS => exact (below_size HBa)); (case aL => have := LMc7.out; omega); intro v335 w8 ho hb hg hat; rw [← Ny334.out] at ho; have n0_ := Aside0.mk (hb); have n1_ := Aside0.mk (ho); clear HB; clear HO_4; have HB := n0_; have HO336 := n1_; clear n0_ n1_; clear ho hb hg hat; have hcv9 := own_string (P := Tryd.prog) Tryd.underlying36 Tryd.underlying5 Tryd.underlying9 (Kd.own_of_R HO336.out)))
     go_ret
     exact ⟨EZa, HBa⟩
    ·rw [if_neg c7] at H
     exact absurd H (by simp)
def impl_PutText.f (k : Nat) (a0 : ByteArray) : Option (ByteArray) := (impl_isLong.f k (([a0] : List ByteArray))).bind fun t340 => (if t340 = true then (some (⟨#[]⟩ : ByteArray)) else ((impl_PutNum.f k (a0.size : Int)).bind fun t341 => (if t341.size + a0.size ≤ 9223372036854775807 then (some (t341 ++ a0)) else (none))))
theorem impl_PutText.mono : ∀ a0 k, LeO (impl_PutText.f k a0) (impl_PutText.f (k + 1) a0) := by
 intro a0 k
 unfold impl_PutText.f
 repeat' first
   | (with_reducible exact impl_PutNum.mono _ _)
   | (with_reducible exact impl_isLong.mono _ _)
   | (with_reducible exact LeO.refl _)
   | (with_reducible exact LeO.none _)
   | (with_reducible refine LeO.ite ?_ ?_)
   | (with_reducible refine LeO.bind ?_ (fun _ => ?_))
   | exact impl_PutNum.mono _ _
   | exact impl_isLong.mono _ _
   | exact LeO.none _
   | refine LeO.ite ?_ ?_
   | refine LeO.bind ?_ (fun _ => ?_)
set_option maxHeartbeats 8000000 in
set_option maxRecDepth 100000 in
theorem impl_PutText.calls (k : Nat) (a0 : ByteArray) (r : ByteArray) (w : World) (h : impl_PutText.f k a0 = some r) :
  Calls Tryd.prog 153 #[.string a0] w fun e w' => e = .returned (.string r) ∧ Below w.heap.size w w' := by
 have HB := Aside0.mk (Below.refl w.heap.size w)
 have H : ((impl_isLong.f k (([a0] : List ByteArray))).bind fun t340 => (if t340 = true then (some (⟨#[]⟩ : ByteArray)) else ((impl_PutNum.f k (a0.size : Int)).bind fun t341 => (if t341.size + a0.size ≤ 9223372036854775807 then (some (t341 ++ a0)) else (none))))) = some r := h
 clear h
 obtain ⟨y337, hy337⟩ : ∃ y_ : List ByteArray, y_ = (([a0] : List ByteArray)) := ⟨_, rfl⟩
 replace H : ((impl_isLong.f k y337).bind fun t340 => (if t340 = true then (some (⟨#[]⟩ : ByteArray)) else ((impl_PutNum.f k (a0.size : Int)).bind fun t341 => (if t341.size + a0.size ≤ 9223372036854775807 then (some (t341 ++ a0)) else (none))))) = some r := by first | (rw [hy337]; with_reducible exact H) | (have H2_ := (Option.bind_some _ _).symm.trans H; rw [hy337]; with_reducible exact H2_) | (have H2_ := (Option.bind_some _ _).symm.trans H; with_reducible exact H2_) | with_reducible exact H | (rw [hy337]; exact H) | exact H
 have Ny337 := Aside0.mk hy337
 clear hy337
 replace H := Option.bind_eq_some_iff.mp H
 obtain ⟨t340, A20, H⟩ := H
 replace H : (if t340 = true then (some (⟨#[]⟩ : ByteArray)) else ((impl_PutNum.f k (a0.size : Int)).bind fun t341 => (if t341.size + a0.size ≤ 9223372036854775807 then (some (t341 ++ a0)) else (none)))) = some r := H
 have A2 := Aside0.mk A20
 clear A20
 by_cases c3 : t340 = true
 ·subst c3
  have H1 : (some (⟨#[]⟩ : ByteArray)) = some r := by rw [if_pos rfl] at H; exact H
  clear H
  have H := H1
  clear H1
  obtain rfl := Option.some.inj H
  go_enter Tryd.func153, Tryd.ntmps153
  go_wp2_with (first | ((with_reducible refine gate_dst (N := 4) rfl ?_); refine Kd.R_lit Kd.string _ 9 ?hg (N := 4) ?hd (xs := ([a0] : List ByteArray)) (inner := [.string a0]) (ok := fun _ => True) (okp := fun _ => True) ?hr ?hp (fun _ hk => hk) trivial (Below.refl _ _) (Nat.le_refl _) (by simp) ?_; (case hd => rfl); (case hg => rfl); (case hr => first | (go_simp; done) | (go_simp; rfl)); (case hp => exact (Reps.one (show Kd.M Kd.string _ _ _ a0 [.string a0] from rfl) (Reps.none _ _))); intro v338 w4 ho5 hb hg_ hnew_; clear hg_ hnew_; (first | rw [← Ny337.out] at ho5 | (simp only [Int.reduceToNat] at ho5; rw [← Ny337.out] at ho5)); have n0_ := Aside0.mk (Kd.R_lower ho5 (below_size HBa)); have n1_ := Aside0.mk (below_step HBa hb); clear HB; have HO339 := n0_; have HB := n1_; clear n0_ n1_; clear hb ho5; obtain ⟨Ao6, co6, eo6⟩ := Kd.R_slice HO339.out; subst eo6) | ((with_reducible refine gate_callee (f := 105) rfl ?_); refine goesL_ (some 5) rfl rfl Tryd.func105 (by kernel_rfl) rfl #[.slice Ao6 y337.length co6] rfl MPz ?_; (with_reducible refine (impl_isLong.calls k _ _ y337 true _ ?side1 ?side2 A2.out).mono ?_); (case side1 => repeat (first | exact (Kd.R_reads' HO339.out).2.2 | (with_reducible refine Kd.C_alloc ?_ _) | (with_reducible refine Kd.C_drewN ?_ _) | (with_reducible refine Kd.C_drew ?_))); (case side2 => exact (Kd.R_reads' HO339.out).2.1); rintro e w' ⟨rfl, ⟨nd, rfl⟩⟩; refine ⟨_, rfl, ?_⟩))
  go_ret
  exact ⟨EZa, HBa⟩
 ·replace c3 := Bool.eq_false_iff.mpr c3
  subst c3
  have H1 : ((impl_PutNum.f k (a0.size : Int)).bind fun t341 => (if t341.size + a0.size ≤ 9223372036854775807 then (some (t341 ++ a0)) else (none))) = some r := by rw [if_neg (show ¬ (false = true) by decide)] at H; exact H
  clear H
  have H := H1
  clear H1
  replace H := Option.bind_eq_some_iff.mp H
  obtain ⟨t341, A70, H⟩ := H
  replace H : (if t341.size + a0.size ≤ 9223372036854775807 then (some (t341 ++ a0)) else (none)) = some r := H
  have A7 := Aside0.mk A70
  clear A70
  by_cases c8 : t341.size + a0.size ≤ 9223372036854775807
  ·rw [if_pos c8] at H
   have c8b0 := eq_true c8
   have c8b1 : decide (t341.size + a0.size ≤ 9223372036854775807) = true := decide_eq_true c8
   try have c8b2 : (9223372036854775807 < t341.size + a0.size) = False := eq_false (Nat.not_lt.2 c8)
   obtain rfl := Option.some.inj H
   go_enter Tryd.func153, Tryd.ntmps153
   go_wp2_with (first | ((with_reducible refine gate_dst (N := 4) rfl ?_); refine Kd.R_lit Kd.string _ 9 ?hg (N := 4) ?hd (xs := ([a0] : List ByteArray)) (inner := [.string a0]) (ok := fun _ => True) (okp := fun _ => True) ?hr ?hp (fun _ hk => hk) trivial (Below.refl _ _) (Nat.le_refl _) (by simp) ?_; (case hd => rfl); (case hg => rfl); (case hr => first | (go_simp; done) | (go_simp; rfl)); (case hp => exact (Reps.one (show Kd.M Kd.string _ _ _ a0 [.string a0] from rfl) (Reps.none _ _))); intro v338 w9 ho10 hb hg_ hnew_; clear hg_ hnew_; (first | rw [← Ny337.out] at ho10 | (simp only [Int.reduceToNat] at ho10; rw [← Ny337.out] at ho10)); have n0_ := Aside0.mk (Kd.R_lower ho10 (below_size HBa)); have n1_ := Aside0.mk (below_step HBa hb); clear HB; have HO339 := n0_; have HB := n1_; clear n0_ n1_; clear hb ho10; obtain ⟨Ao11, co11, eo11⟩ := Kd.R_slice HO339.out; subst eo11) | ((with_reducible refine gate_callee (f := 105) rfl ?_); refine goesL_ (some 5) rfl rfl Tryd.func105 (by kernel_rfl) rfl #[.slice Ao11 y337.length co11] rfl MPz ?_; (with_reducible refine (impl_isLong.calls k _ _ y337 false _ ?side1 ?side2 A2.out).mono ?_); (case side1 => repeat (first | exact (Kd.R_reads' HO339.out).2.2 | (with_reducible refine Kd.C_alloc ?_ _) | (with_reducible refine Kd.C_drewN ?_ _) | (with_reducible refine Kd.C_drew ?_))); (case side2 => exact (Kd.R_reads' HO339.out).2.1); rintro e w' ⟨rfl, ⟨nd, rfl⟩⟩; refine ⟨_, rfl, ?_⟩) | ((with_reducible refine gate_callee (f := 154) rfl ?_); refine goesL_ (some 8) rfl rfl Tryd.func154 (by kernel_rfl) rfl #[.int .i64 (a0.size : Int)] rfl MPz ?_; (with_reducible refine (impl_PutNum.calls k (a0.size : Int) t341 _ A7.out).mono ?_); rintro e w12 ⟨rfl, hb⟩; refine ⟨_, rfl, ?_⟩; have n0_ := Aside0.mk (Kd.R_below (by (with_reducible repeat (first | apply Kd.R_alloc | apply Kd.R_drewN | apply Kd.R_drew)); exact HO339.out) hb); have n1_ := Aside0.mk (below_step HBa hb); clear HO339; clear HB; have HO339 := n0_; have HB := n1_; clear n0_ n1_; (try clear hb); (try clear hb2); (try clear hk); (try clear hi)))
   go_ret
   exact ⟨EZa, HBa⟩
  ·rw [if_neg c8] at H
   exact absurd H (by simp)
def impl_Attr.f (l0 : List (S114)) : Option (Int) := some (l0.length : Int)
set_option maxHeartbeats 8000000 in
set_option maxRecDepth 100000 in
theorem impl_Attr.calls (A0 : Option Addr) (c0 : Nat) (l0 : List (S114)) (r : Int) (w : World) (hr0 : Kd.C k114 w A0 l0.length l0) (hc0 : l0.length ≤ c0) (h : impl_Attr.f l0 = some r) :
  Calls Tryd.prog 155 #[.slice A0 l0.length c0] w fun e w' => e = .returned (.int .i64 r) ∧ Drawn0 w w' := by
 have HR0 := Aside0.mk hr0
 have HC0 := Aside0.mk hc0
 clear hr0 hc0
 have H : (some (l0.length : Int)) = some r := h
 clear h
 obtain rfl := Option.some.inj H
 go_enter Tryd.func155, Tryd.ntmps155
 go_wp2
 go_ret
 exact ⟨EZb, DRz⟩
end Go.Proofs.YtdbboelacgehoaaDoor.PFnExactEntryBytes
