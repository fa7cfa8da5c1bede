import Derived.Test.YtmkeigielncpjaaGreatDoorQFnAclx0
import Derived.Test.YtmkeigielncpjaaGreatDoorQFnAclx5
import Derived.RangeFuncNested
import Derived.RangeFuncBound
import Derived.RangeFuncCalls
import Derived.RangeFuncLeaves
import Derived.Shelf.Abstract
import Derived.Shelf.RegionOpen
import Derived.WalkKit
import Derived.OwnWalkIn
import Derived.TacticsInMore
import Derived.LoopNIn
import Derived.LoopIn
namespace Go.Proofs.YtmkeigielncpjaaGreatDoor.PFnAcl
open Go.RowKit Go.Proofs.YtmkeigielncpjaaGreatDoorW.PrintWords Go.Proofs.YtmkeigielncpjaaGreatDoorW.PrintLast Go.Proofs.YtmkeigielncpjaaGreatDoorW.PrintMore
set_option maxRecDepth 100000
set_option maxHeartbeats 16000000
attribute [local go_sem] max2_int min2_int max_two min_two max_three min_three max_four min_four
set_option linter.unusedVariables false
set_option linter.unusedSimpArgs false
def Vs.f (a0 : ByteArray) (a1 : ByteArray) : Option (Bool) := if (a0.size : Int) ≥ (a1.size : Int) then (if 0 ≤ (wrap64 ((a0.size : Int) - (a1.size : Int))) then (if (wrap64 ((a0.size : Int) - (a1.size : Int))) ≤ (a0.size : Int) then (some ((a0.extract ((wrap64 ((a0.size : Int) - (a1.size : Int))) : Int).toNat a0.size).toList == a1.toList)) else (none)) else (none)) else (some false)
theorem Vs.calls (a0 : ByteArray) (a1 : ByteArray) (r : Bool) (w : World) (h : Vs.f a0 a1 = some r) :
  Calls Tryz.prog 154 #[.string a0, .string a1] w fun e w' => e = .returned (.bool r) ∧ Drawn0 w w' := by
 have H : (if (a0.size : Int) ≥ (a1.size : Int) then (if 0 ≤ (wrap64 ((a0.size : Int) - (a1.size : Int))) then (if (wrap64 ((a0.size : Int) - (a1.size : Int))) ≤ (a0.size : Int) then (some ((a0.extract ((wrap64 ((a0.size : Int) - (a1.size : Int))) : Int).toNat a0.size).toList == a1.toList)) else (none)) else (none)) else (some false)) = some r := h
 clear h
 by_cases c3 : (a0.size : Int) ≥ (a1.size : Int)
 rotate_left
 ·rw [if_neg c3] at H
  have c3b0 : decide ((a1.size : Int) ≤ (a0.size : Int)) = false := decide_eq_false c3
  have c3b1 : decide (a1.size ≤ a0.size) = false := decide_eq_false (fun h => c3 (Int.ofNat_le.mpr h))
  clear c3
  obtain rfl := Option.some.inj H
  clear H
  go_enter Tryz.func154, Tryz.ntmps154
  go_wp2
  go_ret
  exact ⟨EZb, DRz⟩
 rw [if_pos c3] at H
 have c3b0 : decide ((a1.size : Int) ≤ (a0.size : Int)) = true := decide_eq_true c3
 have c3b1 : decide (a1.size ≤ a0.size) = true := decide_eq_true (Int.ofNat_le.mp c3)
 clear c3
 obtain ⟨ji4, hji4⟩ : ∃ j_ : Int, (wrap64 ((a0.size : Int) - (a1.size : Int))) = j_ := ⟨_, rfl⟩
 replace H : (if 0 ≤ (ji4) then (if (ji4) ≤ (a0.size : Int) then (some ((a0.extract ((ji4) : Int).toNat a0.size).toList == a1.toList)) else (none)) else (none)) = some r := by first | (rw [hji4] at H; exact H) | (simp only [hji4] at H ⊢; exact H)
 have hji4w : (IntKind.i64.wrap ((a0.size : Int) - (a1.size : Int))) = ji4 := (i64_w _).trans hji4
 by_cases c5 : 0 ≤ (ji4)
 rotate_left
 ·rw [if_neg c5] at H
  exact absurd H (by simp)
 rw [if_pos c5] at H
 have c5b0 := eq_true c5
 have c5b1 := decide_eq_true c5
 clear c5
 by_cases c6 : (ji4) ≤ (a0.size : Int)
 ·rw [if_pos c6] at H
  have c6b0 := eq_true c6
  have c6b1 := decide_eq_true c6
  clear c6
  obtain rfl := Option.some.inj H
  clear H
  go_enter Tryz.func154, Tryz.ntmps154
  go_wp2
  go_ret
  exact ⟨by first | rfl | (simp only [bne_nil_, beq_nil_]; rfl) | (simp; done) | (simp only [← hji4] <;> (first | rfl | simp)) | (simp [*]; done), DRz⟩
 rw [if_neg c6] at H
 exact absurd H (by simp)
def Vt.f (a0 : ByteArray) (a1 : ByteArray) : Option (ByteArray) := (Vs.f a0 a1).bind fun t189 => (if t189 = true then (if 0 ≤ (wrap64 ((a0.size : Int) - (a1.size : Int))) then (if (wrap64 ((a0.size : Int) - (a1.size : Int))) ≤ (a0.size : Int) then (some (a0.extract 0 ((wrap64 ((a0.size : Int) - (a1.size : Int))) : Int).toNat)) else (none)) else (none)) else (some a0))
theorem Vt.calls (a0 : ByteArray) (a1 : ByteArray) (r : ByteArray) (w : World) (h : Vt.f a0 a1 = some r) :
  Calls Tryz.prog 155 #[.string a0, .string a1] w fun e w' => e = .returned (.string r) ∧ Drawn0 w w' := by
 have H : ((Vs.f a0 a1).bind fun t189 => (if t189 = true then (if 0 ≤ (wrap64 ((a0.size : Int) - (a1.size : Int))) then (if (wrap64 ((a0.size : Int) - (a1.size : Int))) ≤ (a0.size : Int) then (some (a0.extract 0 ((wrap64 ((a0.size : Int) - (a1.size : Int))) : Int).toNat)) else (none)) else (none)) else (some a0))) = some r := h
 clear h
 replace H := Option.bind_eq_some_iff.mp H
 obtain ⟨t189, A30, H⟩ := H
 replace H : (if t189 = true then (if 0 ≤ (wrap64 ((a0.size : Int) - (a1.size : Int))) then (if (wrap64 ((a0.size : Int) - (a1.size : Int))) ≤ (a0.size : Int) then (some (a0.extract 0 ((wrap64 ((a0.size : Int) - (a1.size : Int))) : Int).toNat)) else (none)) else (none)) else (some a0)) = some r := H
 have A3 := Aside0.mk A30
 clear A30
 by_cases c4 : t189 = true
 rotate_left
 ·replace c4 := Bool.eq_false_iff.mpr c4
  subst c4
  have H1 : (some a0) = some r := by rw [if_neg (show ¬ (false = true) by decide)] at H; exact H
  clear H
  have H := H1
  clear H1
  obtain rfl := Option.some.inj H
  clear H
  go_enter Tryz.func155, Tryz.ntmps155
  go_wp2_with (first | ((with_reducible refine gate_callee (f := 154) rfl ?_); refine goesL_ (some 7) rfl rfl Tryz.func154 (by kernel_rfl) rfl #[.string a0, .string a1] rfl MPz ?_; (with_reducible refine (Vs.calls a0 a1 false _ A3.out).mono ?_); rintro e w' ⟨rfl, ⟨nd, rfl⟩⟩; refine ⟨_, rfl, ?_⟩))
  go_ret
  exact ⟨EZb, DRz⟩
 subst c4
 have H1 : (if 0 ≤ (wrap64 ((a0.size : Int) - (a1.size : Int))) then (if (wrap64 ((a0.size : Int) - (a1.size : Int))) ≤ (a0.size : Int) then (some (a0.extract 0 ((wrap64 ((a0.size : Int) - (a1.size : Int))) : Int).toNat)) else (none)) else (none)) = some r := by rw [if_pos rfl] at H; exact H
 clear H
 have H := H1
 clear H1
 obtain ⟨ji5, hji5⟩ : ∃ j_ : Int, (wrap64 ((a0.size : Int) - (a1.size : Int))) = j_ := ⟨_, rfl⟩
 replace H : (if 0 ≤ (ji5) then (if (ji5) ≤ (a0.size : Int) then (some (a0.extract 0 ((ji5) : Int).toNat)) else (none)) else (none)) = some r := by first | (rw [hji5] at H; exact H) | (simp only [hji5] at H ⊢; exact H)
 (try rw [hji5] at A3)
 have hji5w : (IntKind.i64.wrap ((a0.size : Int) - (a1.size : Int))) = ji5 := (i64_w _).trans hji5
 by_cases c6 : 0 ≤ (ji5)
 rotate_left
 ·rw [if_neg c6] at H
  exact absurd H (by simp)
 rw [if_pos c6] at H
 have c6b0 := eq_true c6
 have c6b1 := decide_eq_true c6
 clear c6
 by_cases c7 : (ji5) ≤ (a0.size : Int)
 ·rw [if_pos c7] at H
  have c7b0 := eq_true c7
  have c7b1 := decide_eq_true c7
  clear c7
  obtain rfl := Option.some.inj H
  clear H
  go_enter Tryz.func155, Tryz.ntmps155
  go_wp2_with (first | ((with_reducible refine gate_callee (f := 154) rfl ?_); refine goesL_ (some 7) rfl rfl Tryz.func154 (by kernel_rfl) rfl #[.string a0, .string a1] rfl MPz ?_; (with_reducible refine (Vs.calls a0 a1 true _ A3.out).mono ?_); rintro e w' ⟨rfl, ⟨nd, rfl⟩⟩; refine ⟨_, rfl, ?_⟩))
  go_ret
  exact ⟨by first | rfl | (simp only [bne_nil_, beq_nil_]; rfl) | (simp; done) | (simp only [← hji5] <;> (first | rfl | simp)) | (simp [*]; done), DRz⟩
 rw [if_neg c7] at H
 exact absurd H (by simp)
def Vr.f (a0 : ByteArray) (a1 : ByteArray) : Option (ByteArray) := (Vt.f a0 a1).bind fun t190 => (some t190)
theorem Vr.calls (a0 : ByteArray) (a1 : ByteArray) (r : ByteArray) (w : World) (h : Vr.f a0 a1 = some r) :
  Calls Tryz.prog 119 #[.string a0, .string a1] w fun e w' => e = .returned (.string r) ∧ Drawn0 w w' := by
 have H : ((Vt.f a0 a1).bind fun t190 => (some t190)) = some r := h
 clear h
 replace H := Option.bind_eq_some_iff.mp H
 obtain ⟨t190, A30, H⟩ := H
 replace H : (some t190) = some r := H
 have A3 := Aside0.mk A30
 clear A30
 obtain rfl := Option.some.inj H
 clear H
 go_enter Tryz.func119, Tryz.ntmps119
 go_wp2_with (first | ((with_reducible refine gate_callee (f := 155) rfl ?_); refine goesL_ (some 7) rfl rfl Tryz.func155 (by kernel_rfl) rfl #[.string a0, .string a1] rfl MPz ?_; (with_reducible refine (Vt.calls a0 a1 t190 _ A3.out).mono ?_); rintro e w' ⟨rfl, ⟨nd, rfl⟩⟩; refine ⟨_, rfl, ?_⟩))
 go_ret
 exact ⟨EZb, DRz⟩
def Gx.l0 : Nat → ByteArray → Int → Int → Option (Bool)
 | 0, _, _, _ => none
 | k + 1, x0, x5, x6 => if x6 < x5 then (if 0 ≤ x6 then (if x6 < (x0.size : Int) then (if (bt x0 x6) < 32 then (some false) else (if (bt x0 x6) > 126 then (some false) else (Gx.l0 k x0 x5 (wrap64 (x6 + 1))))) else (none)) else (none)) else (some true)
def Gx.f (k : Nat) (a0 : ByteArray) : Option (Bool) := Gx.l0 k a0 (a0.size : Int) 0
theorem Gx.mono_l : ∀ k, (∀ y0 y1 y2, LeO (Gx.l0 k y0 y1 y2) (Gx.l0 (k + 1) y0 y1 y2))
 | 0 => fun _ _ _ r h => by simp [Gx.l0] at h
 | k + 1 => by
  have ih0 := Gx.mono_l k
  ·intro y0 y1 y2
   unfold Gx.l0
   with_reducible repeat' first | exact ih0 _ _ _ | exact LeO.refl _ | exact LeO.none _ | refine LeO.ite ?_ ?_ | refine LeO.bind ?_ (fun _ => ?_)
theorem Gx.mono : ∀ a0 k, LeO (Gx.f k a0) (Gx.f (k + 1) a0) := by
 intro a0 k
 have ih0 := Gx.mono_l k
 unfold Gx.f
 with_reducible repeat' first | exact ih0 _ _ _ | exact LeO.refl _ | exact LeO.none _ | refine LeO.ite ?_ ?_ | refine LeO.bind ?_ (fun _ => ?_)
theorem Gx.calls (k : Nat) (a0 : ByteArray) (r : Bool) (w : World) (h : Gx.f k a0 = some r) :
  Calls Tryz.prog 156 #[.string a0] w fun e w' => e = .returned (.bool r) ∧ Drawn0 w w' := by
 have H : (Gx.l0 k a0 (a0.size : Int) 0) = some r := h
 clear h
 have H' := Aside0.mk H
 clear H
 go_enter Tryz.func156, Tryz.ntmps156
 go_wp2
 go_loopg [6] k (fun kq v6 w' => ∃ (x6_1 : Int), v6 = .int .i64 x6_1 ∧ Aside0 (Gx.l0 kq a0 (a0.size : Int) x6_1 = some r) ∧ Aside0 (kq ≤ k) ∧ Drawn0 w w')
 case atStart => exact ⟨(0), EZc, H', ⟨Nat.le_refl _⟩, DRz⟩
 case round =>
  clear H'
  obtain ⟨x6_1, rfl, HA, HK1, ⟨m1, rfl⟩⟩ := hrel
  cases gk with
  | zero => exact absurd HA.out (by simp [Gx.l0])
  | succ k1 =>
   have H := HA.out
   clear HA
   simp only [Gx.l0] at H
   by_cases c2 : x6_1 < (a0.size : Int)
   rotate_left
   ·rw [if_neg c2] at H
    have c2b0 := decide_eq_false c2
    clear c2
    obtain rfl := Option.some.inj H
    clear H
    go_wp2
    go_ret
    exact ⟨EZb, DRz⟩
   rw [if_pos c2] at H
   have c2b0 := decide_eq_true c2
   clear c2
   by_cases c3 : 0 ≤ x6_1
   rotate_left
   ·rw [if_neg c3] at H
    exact absurd H (by simp)
   rw [if_pos c3] at H
   have c3b0 := decide_eq_true c3
   clear c3
   by_cases c4 : x6_1 < (a0.size : Int)
   rotate_left
   ·rw [if_neg c4] at H
    exact absurd H (by simp)
   rw [if_pos c4] at H
   have c4b0 := decide_eq_true c4
   clear c4
   by_cases c6 : (bt a0 x6_1) < 32
   ·rw [if_pos c6] at H
    have c6b0 := decide_eq_true c6
    clear c6
    obtain rfl := Option.some.inj H
    clear H
    have p5 : 0 ≤ (x6_1 : Int) := ODz
    have q5 : x6_1 < (a0.size : Int) := ODz
    have hx5 := bt_at a0 x6_1
    replace p5 := eq_true p5
    replace q5 := eq_true q5
    go_wp2
    go_ret
    exact ⟨EZb, DRz⟩
   rw [if_neg c6] at H
   have c6b0 := decide_eq_false c6
   clear c6
   by_cases c8 : (bt a0 x6_1) > 126
   ·rw [if_pos c8] at H
    have c8b0 : decide (126 < (bt a0 x6_1)) = true := decide_eq_true c8
    clear c8
    obtain rfl := Option.some.inj H
    clear H
    have p5 : 0 ≤ (x6_1 : Int) := ODz
    have q5 : x6_1 < (a0.size : Int) := ODz
    have hx5 := bt_at a0 x6_1
    replace p5 := eq_true p5
    replace q5 := eq_true q5
    have p7 : 0 ≤ (x6_1 : Int) := ODz
    have q7 : x6_1 < (a0.size : Int) := ODz
    have hx7 := bt_at a0 x6_1
    replace p7 := eq_true p7
    replace q7 := eq_true q7
    go_wp2
    go_ret
    exact ⟨EZb, DRz⟩
   rw [if_neg c8] at H
   have c8b0 : decide (126 < (bt a0 x6_1)) = false := decide_eq_false c8
   clear c8
   have H' := Aside0.mk H
   clear H
   have p5 : 0 ≤ (x6_1 : Int) := ODz
   have q5 : x6_1 < (a0.size : Int) := ODz
   have hx5 := bt_at a0 x6_1
   replace p5 := eq_true p5
   replace q5 := eq_true q5
   have p7 : 0 ≤ (x6_1 : Int) := ODz
   have q7 : x6_1 < (a0.size : Int) := ODz
   have hx7 := bt_at a0 x6_1
   replace p7 := eq_true p7
   replace q7 := eq_true q7
   go_wp2
   go_roundg k1
   case measure => have := HK1.out; omega
   case rel => exact ⟨(wrap64 (x6_1 + 1)), EZc, H', ⟨by have := HK1.out; omega⟩, DRz⟩
mutual
def Gk.j0 : Nat → ByteArray → Bool → Option (ByteArray)
 | 0, _, _ => none
 | k + 1, x0, x13 => if x13 = true then (some (⟨#[]⟩ : ByteArray)) else (Gk.l0 k x0 (([] : List Int)) (x0.size : Int) 0)
def Gk.l0 : Nat → ByteArray → List Int → Int → Int → Option (ByteArray)
 | 0, _, _, _, _ => none
 | k + 1, x0, x3, x16, x17 => if x17 < x16 then (if 0 ≤ x17 then (if x17 < (x0.size : Int) then (if (bt x0 x17) ≥ 65 then (Gk.j2 k x0 x3 (bt x0 x17) x16 x17 (decide ((bt x0 x17) ≤ 90))) else (Gk.j2 k x0 x3 (bt x0 x17) x16 x17 false)) else (none)) else (none)) else ((Vr.f (strOfNums x3) (⟨#[32]⟩ : ByteArray)).bind fun t195 => (some t195))
def Gk.j2 : Nat → ByteArray → List Int → Int → Int → Int → Bool → Option (ByteArray)
 | 0, _, _, _, _, _, _ => none
 | k + 1, x0, x3, x5, x16, x17, x28 => if x28 = true then (if ((x5 + 32) % 256) = 32 then (if (x3.length : Int) > 0 then (if 0 ≤ (wrap64 ((x3.length : Int) - 1)) then (if (wrap64 ((x3.length : Int) - 1)) < (x3.length : Int) then (if (rd x3 (wrap64 ((x3.length : Int) - 1))) = 32 then (Gk.l0 k x0 x3 x16 (wrap64 (x17 + 1))) else (if x3.length < 140737488355328 then (Gk.l0 k x0 (x3 ++ [(x5 + 32) % 256]) x16 (wrap64 (x17 + 1))) else (none))) else (none)) else (none)) else (Gk.l0 k x0 x3 x16 (wrap64 (x17 + 1)))) else (if x3.length < 140737488355328 then (Gk.l0 k x0 (x3 ++ [(x5 + 32) % 256]) x16 (wrap64 (x17 + 1))) else (none))) else (if x5 = 32 then (if (x3.length : Int) > 0 then (if 0 ≤ (wrap64 ((x3.length : Int) - 1)) then (if (wrap64 ((x3.length : Int) - 1)) < (x3.length : Int) then (if (rd x3 (wrap64 ((x3.length : Int) - 1))) = 32 then (Gk.l0 k x0 x3 x16 (wrap64 (x17 + 1))) else (if x3.length < 140737488355328 then (Gk.l0 k x0 (x3 ++ [x5]) x16 (wrap64 (x17 + 1))) else (none))) else (none)) else (none)) else (Gk.l0 k x0 x3 x16 (wrap64 (x17 + 1)))) else (if x3.length < 140737488355328 then (Gk.l0 k x0 (x3 ++ [x5]) x16 (wrap64 (x17 + 1))) else (none)))
end
def Gk.f (k : Nat) (a0 : ByteArray) : Option (ByteArray) := if (a0.size : Int) > 100 then (Gk.j0 k a0 true) else ((Gx.f k a0).bind fun t191 => (Gk.j0 k a0 (!t191)))
theorem Gk.mono_l : ∀ k, (∀ y0 y1, LeO (Gk.j0 k y0 y1) (Gk.j0 (k + 1) y0 y1)) ∧ (∀ y0 y1 y2 y3, LeO (Gk.l0 k y0 y1 y2 y3) (Gk.l0 (k + 1) y0 y1 y2 y3)) ∧ (∀ y0 y1 y2 y3 y4 y5, LeO (Gk.j2 k y0 y1 y2 y3 y4 y5) (Gk.j2 (k + 1) y0 y1 y2 y3 y4 y5))
 | 0 => ⟨fun _ _ r h => by simp [Gk.j0] at h, fun _ _ _ _ r h => by simp [Gk.l0] at h, fun _ _ _ _ _ _ r h => by simp [Gk.j2] at h⟩
 | k + 1 => by
  obtain ⟨ih0, ih1, ih2⟩ := Gk.mono_l k
  refine ⟨?_, ?_, ?_⟩
  ·intro y0 y1
   unfold Gk.j0
   with_reducible repeat' first | exact ih0 _ _ | exact ih1 _ _ _ _ | exact ih2 _ _ _ _ _ _ | exact Gx.mono _ _ | exact LeO.refl _ | exact LeO.none _ | refine LeO.ite ?_ ?_ | refine LeO.bind ?_ (fun _ => ?_)
  ·intro y0 y1 y2 y3
   unfold Gk.l0
   with_reducible repeat' first | exact ih0 _ _ | exact ih1 _ _ _ _ | exact ih2 _ _ _ _ _ _ | exact Gx.mono _ _ | exact LeO.refl _ | exact LeO.none _ | refine LeO.ite ?_ ?_ | refine LeO.bind ?_ (fun _ => ?_)
  ·intro y0 y1 y2 y3 y4 y5
   unfold Gk.j2
   with_reducible repeat' first | exact ih0 _ _ | exact ih1 _ _ _ _ | exact ih2 _ _ _ _ _ _ | exact Gx.mono _ _ | exact LeO.refl _ | exact LeO.none _ | refine LeO.ite ?_ ?_ | refine LeO.bind ?_ (fun _ => ?_)
theorem Gk.mono : ∀ a0 k, LeO (Gk.f k a0) (Gk.f (k + 1) a0) := by
 intro a0 k
 obtain ⟨ih0, ih1, ih2⟩ := Gk.mono_l k
 unfold Gk.f
 with_reducible repeat' first | exact ih0 _ _ | exact ih1 _ _ _ _ | exact ih2 _ _ _ _ _ _ | exact Gx.mono _ _ | exact LeO.refl _ | exact LeO.none _ | refine LeO.ite ?_ ?_ | refine LeO.bind ?_ (fun _ => ?_)
theorem Gk.calls (k : Nat) (a0 : ByteArray) (r : ByteArray) (w : World) (h : Gk.f k a0 = some r) :
  Calls Tryz.prog 122 #[.string a0] w fun e w' => e = .returned (.string r) ∧ Below w.heap.size w w' := by
 have HB := Aside0.mk (Below.refl w.heap.size w)
 have H : (if (a0.size : Int) > 100 then (Gk.j0 k a0 true) else ((Gx.f k a0).bind fun t191 => (Gk.j0 k a0 (!t191)))) = some r := h
 clear h
 have HC2 := Aside0.mk H
 clear H
 go_enter Tryz.func122, Tryz.ntmps122
 go_upto_region 1 with (fail)
 go_cut [13] (fun v13 wc => ∃ (kq : Nat) (x13_1 : Bool), v13 = .bool x13_1 ∧ Aside0 (Gk.j0 kq a0 x13_1 = some r) ∧ Aside0 (kq ≤ k) ∧ Aside0 (Below w.heap.size w wc))
 case first =>
  have H := HC2.out
  clear HC2
  by_cases c3 : (a0.size : Int) > 100
  ·rw [if_pos c3] at H
   have c3b0 : decide (100 < (a0.size : Int)) = true := decide_eq_true c3
   have c3b1 : decide (100 < a0.size) = true := decide_eq_true (by omega)
   clear c3
   (first | rw [c3b0] | rw [c3v0] | (simp only [i64_w, i32_w]; rw [c3b0]) | (simp only [i64_w, i32_w]; rw [c3v0]) | skip)
   have H' := Aside0.mk H
   clear H
   go_wp2
   go_meet
   case rel => exact ⟨_, (true), EZc, H', ⟨by first | omega | exact Nat.le_refl _⟩, ⟨HBa⟩⟩
  rw [if_neg c3] at H
  have c3b0 : decide (100 < (a0.size : Int)) = false := decide_eq_false c3
  have c3b1 : decide (100 < a0.size) = false := decide_eq_false (by omega)
  clear c3
  (first | rw [c3b0] | rw [c3v0] | (simp only [i64_w, i32_w]; rw [c3b0]) | (simp only [i64_w, i32_w]; rw [c3v0]) | skip)
  replace H := Option.bind_eq_some_iff.mp H
  obtain ⟨t191, A40, H⟩ := H
  replace H : (Gk.j0 k a0 (!t191)) = some r := H
  have A4 := Aside0.mk A40
  clear A40
  have H' := Aside0.mk H
  clear H
  go_wp2_with (first | (go_at_call 156; (with_reducible refine (Gx.calls k a0 t191 _ A4.out).mono ?_); rintro e w' ⟨rfl, ⟨nd, rfl⟩⟩))
  go_meet
  case rel => exact ⟨_, (!t191), EZc, H', ⟨by first | omega | exact Nat.le_refl _⟩, ⟨HBa⟩⟩
 case rest =>
  clear HC2
  obtain ⟨kq, x13_1, rfl, HA, HJ1, HB⟩ := hcut
  cases kq with
  | zero => exact absurd HA.out (by simp [Gk.j0])
  | succ kj1 =>
   have H := HA.out
   clear HA
   simp only [Gk.j0] at H
   by_cases c5 : x13_1 = true
   ·subst c5
    have H1 : (some (⟨#[]⟩ : ByteArray)) = some r := by rw [if_pos rfl] at H; exact H
    clear H
    have H := H1
    clear H1
    obtain rfl := Option.some.inj H
    clear H
    go_wp2
    go_ret
    exact ⟨EZa, HBa⟩
   replace c5 := Bool.eq_false_iff.mpr c5
   subst c5
   have H1 : (Gk.l0 kj1 a0 (([] : List Int)) (a0.size : Int) 0) = some r := by rw [if_neg (show ¬ (false = true) by decide)] at H; exact H
   clear H
   have H := H1
   clear H1
   obtain ⟨y192, hy192⟩ : ∃ y_ : List Int, y_ = (([] : List Int)) := ⟨_, rfl⟩
   replace H : (Gk.l0 kj1 a0 y192 (a0.size : Int) 0) = some r := by first | (rw [hy192]; with_reducible exact H) | (have H2_ := (Option.bind_some _ _).symm.trans H; rw [hy192]; with_reducible exact H2_) | (have H2_ := (Option.bind_some _ _).symm.trans H; with_reducible exact H2_) | with_reducible exact H | (rw [hy192]; exact H) | exact H
   have Ny192 := Aside0.mk hy192
   clear hy192
   have H' := Aside0.mk H
   clear H
   go_wp2_with (first | ((with_reducible refine gate_dst (N := 14) rfl ?_); (try (refine gate_guard (by rfl) ?_; dsimp only)); refine Kd.R_lit (Kd.int .u8) _ 5 ?hg (N := 14) ?hd (xs := ([] : List Int)) (inner := []) (ok := fun _ => True) (okp := fun _ => True) ?hr ?hp (fun _ hk => hk) trivial (Below.refl _ _) (Nat.le_refl _) (by simp) ?_; (case hd => rfl); (case hg => rfl); (case hr => first | (go_simp; done) | (go_simp; rfl)); (case hp => exact (Reps.none _ _)); intro v193 w6 ho7 hb hg_ hnew_; clear hg_ hnew_; (first | rw [← Ny192.out] at ho7 | (simp only [Int.reduceToNat] at ho7; rw [← Ny192.out] at ho7)); have n0_ := Aside0.mk (Kd.R_lower ho7 (below_size HBa)); have n1_ := Aside0.mk (below_step HBa hb); clear HB; have HO194 := n0_; have HB := n1_; clear n0_ n1_; clear hb ho7))
   go_loopg [3, 17] kj1 (fun kq v3 v17 w' => ∃ (x3_2 : List Int) (x17_2 : Int), v17 = .int .i64 x17_2 ∧ Aside0 (Gk.l0 kq a0 x3_2 (a0.size : Int) x17_2 = some r) ∧ Aside0 (kq ≤ kj1) ∧ Aside0 (Kd.R (Kd.int .u8) 5 w' w.heap.size (fun _ => True) v3 x3_2) ∧ Aside0 (Below w.heap.size w w'))
   case atStart => exact ⟨(y192), (0), EZc, H', ⟨Nat.le_refl _⟩, ⟨by (with_reducible repeat (first | apply Kd.R_alloc | apply Kd.R_drewN | apply Kd.R_drew)); exact HO194.out⟩, ⟨HBa⟩⟩
   case round =>
    clear H'
    try clear c5
    obtain ⟨x3_2, x17_2, rfl, HA, HK2, HO_3, HB⟩ := hrel
    cases gk with
    | zero => exact absurd HA.out (by simp [Gk.l0])
    | succ k2 =>
     have H := HA.out
     clear HA
     simp only [Gk.l0] at H
     by_cases c8 : x17_2 < (a0.size : Int)
     rotate_left
     ·rw [if_neg c8] at H
      have c8b0 := decide_eq_false c8
      clear c8
      replace H := Option.bind_eq_some_iff.mp H
      obtain ⟨t195, A410, H⟩ := H
      replace H : (some t195) = some r := H
      have A41 := Aside0.mk A410
      clear A410
      obtain rfl := Option.some.inj H
      clear H
      have hcv42 := own_string (P := Tryz.prog) Tryz.underlying35 Tryz.underlying5 Tryz.underlying9 (Kd.own_of_R HO_3.out)
      go_wp2_with (first | ((with_reducible refine gate_callee (f := 119) rfl ?_); refine goesL_ (some 54) rfl rfl Tryz.func119 (by kernel_rfl) rfl #[.string (strOfNums x3_2), .string (⟨#[32]⟩ : ByteArray)] rfl MPz ?_; (with_reducible refine (Vr.calls (strOfNums x3_2) (⟨#[32]⟩ : ByteArray) t195 _ A41.out).mono ?_); rintro e w' ⟨rfl, ⟨nd, rfl⟩⟩; refine ⟨_, rfl, ?_⟩))
      go_ret
      exact ⟨EZa, HBa⟩
     rw [if_pos c8] at H
     have c8b0 := decide_eq_true c8
     clear c8
     by_cases c9 : 0 ≤ x17_2
     rotate_left
     ·rw [if_neg c9] at H
      exact absurd H (by simp)
     rw [if_pos c9] at H
     have c9b0 := decide_eq_true c9
     clear c9
     by_cases c10 : x17_2 < (a0.size : Int)
     rotate_left
     ·rw [if_neg c10] at H
      exact absurd H (by simp)
     rw [if_pos c10] at H
     have c10b0 := decide_eq_true c10
     clear c10
     have HC12 := Aside0.mk H
     clear H
     have p11 : 0 ≤ (x17_2 : Int) := ODz
     have q11 : x17_2 < (a0.size : Int) := ODz
     have hx11 := bt_at a0 x17_2
     replace p11 := eq_true p11
     replace q11 := eq_true q11
     go_upto_region 8 with (fail)
     go_cut [28] (fun v28 wc => ∃ (kq : Nat) (x28_11 : Bool), v28 = .bool x28_11 ∧ Aside0 (Gk.j2 kq a0 x3_2 (bt a0 x17_2) (a0.size : Int) x17_2 x28_11 = some r) ∧ Aside0 (kq ≤ k2) ∧ Aside0 (Kd.R (Kd.int .u8) 5 wc w.heap.size (fun _ => True) u3 x3_2) ∧ Aside0 (Below w.heap.size w wc))
     case first =>
      have H := HC12.out
      clear HC12
      by_cases c13 : (bt a0 x17_2) ≥ 65
      ·rw [if_pos c13] at H
       have c13b0 : decide (65 ≤ (bt a0 x17_2)) = true := decide_eq_true c13
       clear c13
       (first | rw [c13b0] | rw [c13v0] | (simp only [i64_w, i32_w]; rw [c13b0]) | (simp only [i64_w, i32_w]; rw [c13v0]) | skip)
       have H' := Aside0.mk H
       clear H
       go_wp2
       go_meet
       case rel => exact ⟨_, (decide ((bt a0 x17_2) ≤ 90)), EZc, H', ⟨by have := HJ1.out; have := HK2.out; first | omega | exact Nat.le_refl _⟩, ⟨by (with_reducible repeat (first | apply Kd.R_alloc | apply Kd.R_drewN | apply Kd.R_drew)); exact HO_3.out⟩, ⟨HBa⟩⟩
      rw [if_neg c13] at H
      have c13b0 : decide (65 ≤ (bt a0 x17_2)) = false := decide_eq_false c13
      clear c13
      (first | rw [c13b0] | rw [c13v0] | (simp only [i64_w, i32_w]; rw [c13b0]) | (simp only [i64_w, i32_w]; rw [c13v0]) | skip)
      have H' := Aside0.mk H
      clear H
      go_wp2
      go_meet
      case rel => exact ⟨_, (false), EZc, H', ⟨by have := HJ1.out; have := HK2.out; first | omega | exact Nat.le_refl _⟩, ⟨by (with_reducible repeat (first | apply Kd.R_alloc | apply Kd.R_drewN | apply Kd.R_drew)); exact HO_3.out⟩, ⟨HBa⟩⟩
     case rest =>
      clear HC12
      try clear c5
      try clear c8
      try clear c8b0
      try clear c9
      try clear c9b0
      try clear c10
      try clear c10b0
      try clear p11
      try clear q11
      try clear hx11
      try clear p11
      try clear q11
      obtain ⟨kq, x28_11, rfl, HA, HJ11, HO_3, HB⟩ := hcut
      cases kq with
      | zero => exact absurd HA.out (by simp [Gk.j2])
      | succ kj11 =>
       have H := HA.out
       clear HA
       simp only [Gk.j2] at H
       by_cases c14 : x28_11 = true
       ·subst c14
        have H1 : (if (((bt a0 x17_2) + 32) % 256) = 32 then (if (x3_2.length : Int) > 0 then (if 0 ≤ (wrap64 ((x3_2.length : Int) - 1)) then (if (wrap64 ((x3_2.length : Int) - 1)) < (x3_2.length : Int) then (if (rd x3_2 (wrap64 ((x3_2.length : Int) - 1))) = 32 then (Gk.l0 kj11 a0 x3_2 (a0.size : Int) (wrap64 (x17_2 + 1))) else (if x3_2.length < 140737488355328 then (Gk.l0 kj11 a0 (x3_2 ++ [((bt a0 x17_2) + 32) % 256]) (a0.size : Int) (wrap64 (x17_2 + 1))) else (none))) else (none)) else (none)) else (Gk.l0 kj11 a0 x3_2 (a0.size : Int) (wrap64 (x17_2 + 1)))) else (if x3_2.length < 140737488355328 then (Gk.l0 kj11 a0 (x3_2 ++ [((bt a0 x17_2) + 32) % 256]) (a0.size : Int) (wrap64 (x17_2 + 1))) else (none))) = some r := by rw [if_pos rfl] at H; exact H
        clear H
        have H := H1
        clear H1
        by_cases c15 : (((bt a0 x17_2) + 32) % 256) = 32
        rotate_left
        ·rw [if_neg c15] at H
         obtain ⟨c15b0, c15b1⟩ := QFz c15
         by_cases c26 : x3_2.length < 140737488355328
         ·rw [if_pos c26] at H
          have LMc26 := Aside0.mk c26
          clear c26
          obtain ⟨y200, hy200⟩ : ∃ y_ : List Int, y_ = (x3_2 ++ [((bt a0 x17_2) + 32) % 256]) := ⟨_, rfl⟩
          replace H : (Gk.l0 kj11 a0 y200 (a0.size : Int) (wrap64 (x17_2 + 1))) = some r := by first | (rw [hy200]; with_reducible exact H) | (have H2_ := (Option.bind_some _ _).symm.trans H; rw [hy200]; with_reducible exact H2_) | (have H2_ := (Option.bind_some _ _).symm.trans H; with_reducible exact H2_) | with_reducible exact H | (rw [hy200]; exact H) | exact H
          have Ny200 := Aside0.mk hy200
          clear hy200
          have H' := Aside0.mk H
          clear H
          go_wp2_with (first | ((with_reducible refine gate_builtin (b := .append) (xs := #[.tmp 47, .tmp 49]) rfl ?_); (try (refine gate_guard (by rfl) ?_; dsimp only)); at_builtin; refine Kd.R_append (Kd.int .u8) (w0 := w) w.heap.size rfl (.tmp 47) (.tmp 49) 35 5 (.int .u8 0) 1 rfl Tryz.underlying35 info5 rfl (by decide) (by omega) u3 x3_2 (((bt a0 x17_2) + 32) % 256) [.int .u8 (((bt a0 x17_2) + 32) % 256)] (fun _ => True) (fun _ => False) rfl rfl ?aP (fun _ hk => hk.elim) ?aF ?aO ?aB ?aS ?aL ?_; (case aP => exact rfl); (case aB => exact HBa); (case aF => exact (fun _ _ => trivial)); (case aO => exact (KRz HO_3)); (case aS => exact (below_size HBa)); (case aL => have := LMc26.out; omega); intro v201 w27 ho hb hg hat; rw [← Ny200.out] at ho; have n0_ := Aside0.mk (hb); have n1_ := Aside0.mk (ho); clear HB; clear HO_3; have HB := n0_; have HO202 := n1_; clear n0_ n1_; clear ho hb hg hat))
          go_roundg kj11
          case measure => have := HJ1.out; have := HK2.out; have := HJ11.out; omega
          case rel => exact ⟨(y200), (wrap64 (x17_2 + 1)), EZc, H', ⟨by have := HJ1.out; have := HK2.out; have := HJ11.out; omega⟩, ⟨by (with_reducible repeat (first | apply Kd.R_alloc | apply Kd.R_drewN | apply Kd.R_drew)); exact HO202.out⟩, ⟨HBa⟩⟩
         rw [if_neg c26] at H
         exact absurd H (by simp)
        rw [if_pos c15] at H
        obtain ⟨c15b0, c15b1⟩ := QTz c15
        clear c15
        by_cases c16 : (x3_2.length : Int) > 0
        rotate_left
        ·rw [if_neg c16] at H
         have c16b0 : decide (0 < (x3_2.length : Int)) = false := decide_eq_false c16
         have c16b1 : decide (0 < x3_2.length) = false := decide_eq_false (by omega)
         clear c16
         have H' := Aside0.mk H
         clear H
         obtain ⟨Ao25, co25, eo25⟩ := Kd.R_slice HO_3.out
         subst eo25
         go_wp2
         go_roundg kj11
         case measure => have := HJ1.out; have := HK2.out; have := HJ11.out; omega
         case rel => exact ⟨(x3_2), (wrap64 (x17_2 + 1)), EZc, H', ⟨by have := HJ1.out; have := HK2.out; have := HJ11.out; omega⟩, ⟨by (with_reducible repeat (first | apply Kd.R_alloc | apply Kd.R_drewN | apply Kd.R_drew)); exact HO_3.out⟩, ⟨HBa⟩⟩
        rw [if_pos c16] at H
        have c16b0 : decide (0 < (x3_2.length : Int)) = true := decide_eq_true c16
        have c16b1 : decide (0 < x3_2.length) = true := decide_eq_true (by omega)
        clear c16
        obtain ⟨ji17, hji17⟩ : ∃ j_ : Int, (wrap64 ((x3_2.length : Int) - 1)) = j_ := ⟨_, rfl⟩
        replace H : (if 0 ≤ (ji17) then (if (ji17) < (x3_2.length : Int) then (if (rd x3_2 (ji17)) = 32 then (Gk.l0 kj11 a0 x3_2 (a0.size : Int) (wrap64 (x17_2 + 1))) else (if x3_2.length < 140737488355328 then (Gk.l0 kj11 a0 (x3_2 ++ [((bt a0 x17_2) + 32) % 256]) (a0.size : Int) (wrap64 (x17_2 + 1))) else (none))) else (none)) else (none)) = some r := by first | (rw [hji17] at H; exact H) | (simp only [hji17] at H ⊢; exact H)
        have hji17w : (IntKind.i64.wrap ((x3_2.length : Int) - 1)) = ji17 := (i64_w _).trans hji17
        by_cases c18 : 0 ≤ (ji17)
        rotate_left
        ·rw [if_neg c18] at H
         exact absurd H (by simp)
        rw [if_pos c18] at H
        have c18b0 := decide_eq_true c18
        clear c18
        by_cases c19 : (ji17) < (x3_2.length : Int)
        rotate_left
        ·rw [if_neg c19] at H
         exact absurd H (by simp)
        rw [if_pos c19] at H
        have c19b0 := decide_eq_true c19
        clear c19
        by_cases c20 : (rd x3_2 (ji17)) = 32
        ·rw [if_pos c20] at H
         obtain ⟨c20b0, c20b1⟩ := QTz c20
         clear c20
         have H' := Aside0.mk H
         clear H
         obtain ⟨Ao21, co21, eo21⟩ := Kd.R_slice HO_3.out
         subst eo21
         have p196 : 0 ≤ ((ji17) : Int) := ODz
         have q196 : (ji17) < (x3_2.length : Int) := ODz
         obtain ⟨ad196, e196, hx196_0⟩ := Kd.at_int (Kd.R_reads' HO_3.out).2.2 (ji17) p196 q196
         cases e196
         replace p196 := eq_true p196
         replace q196 := eq_true q196
         go_wp2
         go_roundg kj11
         case measure => have := HJ1.out; have := HK2.out; have := HJ11.out; omega
         case rel => exact ⟨(x3_2), (wrap64 (x17_2 + 1)), EZc, H', ⟨by have := HJ1.out; have := HK2.out; have := HJ11.out; omega⟩, ⟨by (with_reducible repeat (first | apply Kd.R_alloc | apply Kd.R_drewN | apply Kd.R_drew)); exact HO_3.out⟩, ⟨HBa⟩⟩
        rw [if_neg c20] at H
        obtain ⟨c20b0, c20b1⟩ := QFz c20
        by_cases c22 : x3_2.length < 140737488355328
        ·rw [if_pos c22] at H
         have LMc22 := Aside0.mk c22
         clear c22
         obtain ⟨y197, hy197⟩ : ∃ y_ : List Int, y_ = (x3_2 ++ [((bt a0 x17_2) + 32) % 256]) := ⟨_, rfl⟩
         replace H : (Gk.l0 kj11 a0 y197 (a0.size : Int) (wrap64 (x17_2 + 1))) = some r := by first | (rw [hy197]; with_reducible exact H) | (have H2_ := (Option.bind_some _ _).symm.trans H; rw [hy197]; with_reducible exact H2_) | (have H2_ := (Option.bind_some _ _).symm.trans H; with_reducible exact H2_) | with_reducible exact H | (rw [hy197]; exact H) | exact H
         have Ny197 := Aside0.mk hy197
         clear hy197
         have H' := Aside0.mk H
         clear H
         obtain ⟨Ao23, co23, eo23⟩ := Kd.R_slice HO_3.out
         subst eo23
         have p196 : 0 ≤ ((ji17) : Int) := ODz
         have q196 : (ji17) < (x3_2.length : Int) := ODz
         obtain ⟨ad196, e196, hx196_0⟩ := Kd.at_int (Kd.R_reads' HO_3.out).2.2 (ji17) p196 q196
         cases e196
         replace p196 := eq_true p196
         replace q196 := eq_true q196
         go_wp2_with (first | ((with_reducible refine gate_builtin (b := .append) (xs := #[.tmp 47, .tmp 49]) rfl ?_); (try (refine gate_guard (by rfl) ?_; dsimp only)); at_builtin; refine Kd.R_append (Kd.int .u8) (w0 := w) w.heap.size rfl (.tmp 47) (.tmp 49) 35 5 (.int .u8 0) 1 rfl Tryz.underlying35 info5 rfl (by decide) (by omega) (.slice (some ad196) x3_2.length co23) x3_2 (((bt a0 x17_2) + 32) % 256) [.int .u8 (((bt a0 x17_2) + 32) % 256)] (fun _ => True) (fun _ => False) rfl rfl ?aP (fun _ hk => hk.elim) ?aF ?aO ?aB ?aS ?aL ?_; (case aP => exact rfl); (case aB => exact HBa); (case aF => exact (fun _ _ => trivial)); (case aO => exact (KRz HO_3)); (case aS => exact (below_size HBa)); (case aL => have := LMc22.out; omega); intro v198 w24 ho hb hg hat; rw [← Ny197.out] at ho; have n0_ := Aside0.mk (hb); have n1_ := Aside0.mk (ho); clear HB; clear HO_3; have HB := n0_; have HO199 := n1_; clear n0_ n1_; clear ho hb hg hat))
         go_roundg kj11
         case measure => have := HJ1.out; have := HK2.out; have := HJ11.out; omega
         case rel => exact ⟨(y197), (wrap64 (x17_2 + 1)), EZc, H', ⟨by have := HJ1.out; have := HK2.out; have := HJ11.out; omega⟩, ⟨by (with_reducible repeat (first | apply Kd.R_alloc | apply Kd.R_drewN | apply Kd.R_drew)); exact HO199.out⟩, ⟨HBa⟩⟩
        rw [if_neg c22] at H
        exact absurd H (by simp)
       replace c14 := Bool.eq_false_iff.mpr c14
       subst c14
       have H1 : (if (bt a0 x17_2) = 32 then (if (x3_2.length : Int) > 0 then (if 0 ≤ (wrap64 ((x3_2.length : Int) - 1)) then (if (wrap64 ((x3_2.length : Int) - 1)) < (x3_2.length : Int) then (if (rd x3_2 (wrap64 ((x3_2.length : Int) - 1))) = 32 then (Gk.l0 kj11 a0 x3_2 (a0.size : Int) (wrap64 (x17_2 + 1))) else (if x3_2.length < 140737488355328 then (Gk.l0 kj11 a0 (x3_2 ++ [(bt a0 x17_2)]) (a0.size : Int) (wrap64 (x17_2 + 1))) else (none))) else (none)) else (none)) else (Gk.l0 kj11 a0 x3_2 (a0.size : Int) (wrap64 (x17_2 + 1)))) else (if x3_2.length < 140737488355328 then (Gk.l0 kj11 a0 (x3_2 ++ [(bt a0 x17_2)]) (a0.size : Int) (wrap64 (x17_2 + 1))) else (none))) = some r := by rw [if_neg (show ¬ (false = true) by decide)] at H; exact H
       clear H
       have H := H1
       clear H1
       by_cases c28 : (bt a0 x17_2) = 32
       rotate_left
       ·rw [if_neg c28] at H
        obtain ⟨c28b0, c28b1⟩ := QFz c28
        by_cases c39 : x3_2.length < 140737488355328
        ·rw [if_pos c39] at H
         have LMc39 := Aside0.mk c39
         clear c39
         obtain ⟨y207, hy207⟩ : ∃ y_ : List Int, y_ = (x3_2 ++ [(bt a0 x17_2)]) := ⟨_, rfl⟩
         replace H : (Gk.l0 kj11 a0 y207 (a0.size : Int) (wrap64 (x17_2 + 1))) = some r := by first | (rw [hy207]; with_reducible exact H) | (have H2_ := (Option.bind_some _ _).symm.trans H; rw [hy207]; with_reducible exact H2_) | (have H2_ := (Option.bind_some _ _).symm.trans H; with_reducible exact H2_) | with_reducible exact H | (rw [hy207]; exact H) | exact H
         have Ny207 := Aside0.mk hy207
         clear hy207
         have H' := Aside0.mk H
         clear H
         go_wp2_with (first | ((with_reducible refine gate_builtin (b := .append) (xs := #[.tmp 47, .tmp 49]) rfl ?_); (try (refine gate_guard (by rfl) ?_; dsimp only)); at_builtin; refine Kd.R_append (Kd.int .u8) (w0 := w) w.heap.size rfl (.tmp 47) (.tmp 49) 35 5 (.int .u8 0) 1 rfl Tryz.underlying35 info5 rfl (by decide) (by omega) u3 x3_2 (bt a0 x17_2) [.int .u8 (bt a0 x17_2)] (fun _ => True) (fun _ => False) rfl rfl ?aP (fun _ hk => hk.elim) ?aF ?aO ?aB ?aS ?aL ?_; (case aP => exact rfl); (case aB => exact HBa); (case aF => exact (fun _ _ => trivial)); (case aO => exact (KRz HO_3)); (case aS => exact (below_size HBa)); (case aL => have := LMc39.out; omega); intro v208 w40 ho hb hg hat; rw [← Ny207.out] at ho; have n0_ := Aside0.mk (hb); have n1_ := Aside0.mk (ho); clear HB; clear HO_3; have HB := n0_; have HO209 := n1_; clear n0_ n1_; clear ho hb hg hat))
         go_roundg kj11
         case measure => have := HJ1.out; have := HK2.out; have := HJ11.out; omega
         case rel => exact ⟨(y207), (wrap64 (x17_2 + 1)), EZc, H', ⟨by have := HJ1.out; have := HK2.out; have := HJ11.out; omega⟩, ⟨by (with_reducible repeat (first | apply Kd.R_alloc | apply Kd.R_drewN | apply Kd.R_drew)); exact HO209.out⟩, ⟨HBa⟩⟩
        rw [if_neg c39] at H
        exact absurd H (by simp)
       rw [if_pos c28] at H
       obtain ⟨c28b0, c28b1⟩ := QTz c28
       clear c28
       by_cases c29 : (x3_2.length : Int) > 0
       rotate_left
       ·rw [if_neg c29] at H
        have c29b0 : decide (0 < (x3_2.length : Int)) = false := decide_eq_false c29
        have c29b1 : decide (0 < x3_2.length) = false := decide_eq_false (by omega)
        clear c29
        have H' := Aside0.mk H
        clear H
        obtain ⟨Ao38, co38, eo38⟩ := Kd.R_slice HO_3.out
        subst eo38
        go_wp2
        go_roundg kj11
        case measure => have := HJ1.out; have := HK2.out; have := HJ11.out; omega
        case rel => exact ⟨(x3_2), (wrap64 (x17_2 + 1)), EZc, H', ⟨by have := HJ1.out; have := HK2.out; have := HJ11.out; omega⟩, ⟨by (with_reducible repeat (first | apply Kd.R_alloc | apply Kd.R_drewN | apply Kd.R_drew)); exact HO_3.out⟩, ⟨HBa⟩⟩
       rw [if_pos c29] at H
       have c29b0 : decide (0 < (x3_2.length : Int)) = true := decide_eq_true c29
       have c29b1 : decide (0 < x3_2.length) = true := decide_eq_true (by omega)
       clear c29
       obtain ⟨ji30, hji30⟩ : ∃ j_ : Int, (wrap64 ((x3_2.length : Int) - 1)) = j_ := ⟨_, rfl⟩
       replace H : (if 0 ≤ (ji30) then (if (ji30) < (x3_2.length : Int) then (if (rd x3_2 (ji30)) = 32 then (Gk.l0 kj11 a0 x3_2 (a0.size : Int) (wrap64 (x17_2 + 1))) else (if x3_2.length < 140737488355328 then (Gk.l0 kj11 a0 (x3_2 ++ [(bt a0 x17_2)]) (a0.size : Int) (wrap64 (x17_2 + 1))) else (none))) else (none)) else (none)) = some r := by first | (rw [hji30] at H; exact H) | (simp only [hji30] at H ⊢; exact H)
       have hji30w : (IntKind.i64.wrap ((x3_2.length : Int) - 1)) = ji30 := (i64_w _).trans hji30
       by_cases c31 : 0 ≤ (ji30)
       rotate_left
       ·rw [if_neg c31] at H
        exact absurd H (by simp)
       rw [if_pos c31] at H
       have c31b0 := decide_eq_true c31
       clear c31
       by_cases c32 : (ji30) < (x3_2.length : Int)
       rotate_left
       ·rw [if_neg c32] at H
        exact absurd H (by simp)
       rw [if_pos c32] at H
       have c32b0 := decide_eq_true c32
       clear c32
       by_cases c33 : (rd x3_2 (ji30)) = 32
       ·rw [if_pos c33] at H
        obtain ⟨c33b0, c33b1⟩ := QTz c33
        clear c33
        have H' := Aside0.mk H
        clear H
        obtain ⟨Ao34, co34, eo34⟩ := Kd.R_slice HO_3.out
        subst eo34
        have p203 : 0 ≤ ((ji30) : Int) := ODz
        have q203 : (ji30) < (x3_2.length : Int) := ODz
        obtain ⟨ad203, e203, hx203_0⟩ := Kd.at_int (Kd.R_reads' HO_3.out).2.2 (ji30) p203 q203
        cases e203
        replace p203 := eq_true p203
        replace q203 := eq_true q203
        go_wp2
        go_roundg kj11
        case measure => have := HJ1.out; have := HK2.out; have := HJ11.out; omega
        case rel => exact ⟨(x3_2), (wrap64 (x17_2 + 1)), EZc, H', ⟨by have := HJ1.out; have := HK2.out; have := HJ11.out; omega⟩, ⟨by (with_reducible repeat (first | apply Kd.R_alloc | apply Kd.R_drewN | apply Kd.R_drew)); exact HO_3.out⟩, ⟨HBa⟩⟩
       rw [if_neg c33] at H
       obtain ⟨c33b0, c33b1⟩ := QFz c33
       by_cases c35 : x3_2.length < 140737488355328
       ·rw [if_pos c35] at H
        have LMc35 := Aside0.mk c35
        clear c35
        obtain ⟨y204, hy204⟩ : ∃ y_ : List Int, y_ = (x3_2 ++ [(bt a0 x17_2)]) := ⟨_, rfl⟩
        replace H : (Gk.l0 kj11 a0 y204 (a0.size : Int) (wrap64 (x17_2 + 1))) = some r := by first | (rw [hy204]; with_reducible exact H) | (have H2_ := (Option.bind_some _ _).symm.trans H; rw [hy204]; with_reducible exact H2_) | (have H2_ := (Option.bind_some _ _).symm.trans H; with_reducible exact H2_) | with_reducible exact H | (rw [hy204]; exact H) | exact H
        have Ny204 := Aside0.mk hy204
        clear hy204
        have H' := Aside0.mk H
        clear H
        obtain ⟨Ao36, co36, eo36⟩ := Kd.R_slice HO_3.out
        subst eo36
        have p203 : 0 ≤ ((ji30) : Int) := ODz
        have q203 : (ji30) < (x3_2.length : Int) := ODz
        obtain ⟨ad203, e203, hx203_0⟩ := Kd.at_int (Kd.R_reads' HO_3.out).2.2 (ji30) p203 q203
        cases e203
        replace p203 := eq_true p203
        replace q203 := eq_true q203
        go_wp2_with (first | ((with_reducible refine gate_builtin (b := .append) (xs := #[.tmp 47, .tmp 49]) rfl ?_); (try (refine gate_guard (by rfl) ?_; dsimp only)); at_builtin; refine Kd.R_append (Kd.int .u8) (w0 := w) w.heap.size rfl (.tmp 47) (.tmp 49) 35 5 (.int .u8 0) 1 rfl Tryz.underlying35 info5 rfl (by decide) (by omega) (.slice (some ad203) x3_2.length co36) x3_2 (bt a0 x17_2) [.int .u8 (bt a0 x17_2)] (fun _ => True) (fun _ => False) rfl rfl ?aP (fun _ hk => hk.elim) ?aF ?aO ?aB ?aS ?aL ?_; (case aP => exact rfl); (case aB => exact HBa); (case aF => exact (fun _ _ => trivial)); (case aO => exact (KRz HO_3)); (case aS => exact (below_size HBa)); (case aL => have := LMc35.out; omega); intro v205 w37 ho hb hg hat; rw [← Ny204.out] at ho; have n0_ := Aside0.mk (hb); have n1_ := Aside0.mk (ho); clear HB; clear HO_3; have HB := n0_; have HO206 := n1_; clear n0_ n1_; clear ho hb hg hat))
        go_roundg kj11
        case measure => have := HJ1.out; have := HK2.out; have := HJ11.out; omega
        case rel => exact ⟨(y204), (wrap64 (x17_2 + 1)), EZc, H', ⟨by have := HJ1.out; have := HK2.out; have := HJ11.out; omega⟩, ⟨by (with_reducible repeat (first | apply Kd.R_alloc | apply Kd.R_drewN | apply Kd.R_drew)); exact HO206.out⟩, ⟨HBa⟩⟩
       rw [if_neg c35] at H
       exact absurd H (by simp)
def Gy.f (k : Nat) (a0 : ByteArray) : Option (Bool) := if (a0.size : Int) ≥ 1 then (if (a0.size : Int) ≤ 40 then ((Gk.f k a0).bind fun t210 => (some (t210.toList != ([] : List UInt8)))) else (some false)) else (some false)
theorem Gy.mono : ∀ a0 k, LeO (Gy.f k a0) (Gy.f (k + 1) a0) := by
 intro a0 k
 unfold Gy.f
 with_reducible repeat' first | exact Gk.mono _ _ | exact LeO.refl _ | exact LeO.none _ | refine LeO.ite ?_ ?_ | refine LeO.bind ?_ (fun _ => ?_)
theorem Gy.calls (k : Nat) (a0 : ByteArray) (r : Bool) (w : World) (h : Gy.f k a0 = some r) :
  Calls Tryz.prog 88 #[.string a0] w fun e w' => e = .returned (.bool r) ∧ Below w.heap.size w w' := by
 have HB := Aside0.mk (Below.refl w.heap.size w)
 have H : (if (a0.size : Int) ≥ 1 then (if (a0.size : Int) ≤ 40 then ((Gk.f k a0).bind fun t210 => (some (t210.toList != ([] : List UInt8)))) else (some false)) else (some false)) = some r := h
 clear h
 by_cases c2 : (a0.size : Int) ≥ 1
 rotate_left
 ·rw [if_neg c2] at H
  have c2b0 : decide (1 ≤ (a0.size : Int)) = false := decide_eq_false c2
  have c2b1 : decide (1 ≤ a0.size) = false := decide_eq_false (by omega)
  clear c2
  obtain rfl := Option.some.inj H
  clear H
  go_enter Tryz.func88, Tryz.ntmps88
  go_wp2
  go_ret
  exact ⟨EZa, HBa⟩
 rw [if_pos c2] at H
 have c2b0 : decide (1 ≤ (a0.size : Int)) = true := decide_eq_true c2
 have c2b1 : decide (1 ≤ a0.size) = true := decide_eq_true (by omega)
 clear c2
 by_cases c3 : (a0.size : Int) ≤ 40
 rotate_left
 ·rw [if_neg c3] at H
  have c3b0 := decide_eq_false c3
  have c3b1 : decide (a0.size ≤ 40) = false := decide_eq_false (by omega)
  clear c3
  obtain rfl := Option.some.inj H
  clear H
  go_enter Tryz.func88, Tryz.ntmps88
  go_wp2
  go_ret
  exact ⟨EZa, HBa⟩
 rw [if_pos c3] at H
 have c3b0 := decide_eq_true c3
 have c3b1 : decide (a0.size ≤ 40) = true := decide_eq_true (by omega)
 clear c3
 replace H := Option.bind_eq_some_iff.mp H
 obtain ⟨t210, A40, H⟩ := H
 replace H : (some (t210.toList != ([] : List UInt8))) = some r := H
 have A4 := Aside0.mk A40
 clear A40
 obtain rfl := Option.some.inj H
 clear H
 go_enter Tryz.func88, Tryz.ntmps88
 go_wp2_with (first | (go_at_call 122; (with_reducible refine (Gk.calls k a0 t210 _ A4.out).mono ?_); rintro e w5 ⟨rfl, hb⟩; have n0_ := Aside0.mk (below_step HBa hb); clear HB; have HB := n0_; clear n0_; (try clear hb); (try clear hb2); (try clear hk); (try clear hi)))
 go_ret
 exact ⟨EZa, HBa⟩
def Gz.f (k : Nat) (a0_0 : ByteArray) (a0_1 : ByteArray) : Option (Bool) := (Gj.f a0_0).bind fun t212 => (if t212 = true then ((Gy.f k a0_1).bind fun t213 => (some t213)) else (some false))
theorem Gz.mono : ∀ a0 a1 k, LeO (Gz.f k a0 a1) (Gz.f (k + 1) a0 a1) := by
 intro a0 a1 k
 unfold Gz.f
 with_reducible repeat' first | exact Gy.mono _ _ | exact LeO.refl _ | exact LeO.none _ | refine LeO.ite ?_ ?_ | refine LeO.bind ?_ (fun _ => ?_)
theorem Gz.calls (k : Nat) (a0_0 : ByteArray) (a0_1 : ByteArray) (r : Bool) (w : World) (h : Gz.f k a0_0 a0_1 = some r) :
  Calls Tryz.prog 97 #[.agg #[.string a0_0, .string a0_1]] w fun e w' => e = .returned (.bool r) ∧ Below w.heap.size w w' := by
 have hu96 := Tryz.underlying96
 have HB := Aside0.mk (Below.refl w.heap.size w)
 have H : ((Gj.f a0_0).bind fun t212 => (if t212 = true then ((Gy.f k a0_1).bind fun t213 => (some t213)) else (some false))) = some r := h
 clear h
 replace H := Option.bind_eq_some_iff.mp H
 obtain ⟨t212, A20, H⟩ := H
 replace H : (if t212 = true then ((Gy.f k a0_1).bind fun t213 => (some t213)) else (some false)) = some r := H
 have A2 := Aside0.mk A20
 clear A20
 by_cases c3 : t212 = true
 rotate_left
 ·replace c3 := Bool.eq_false_iff.mpr c3
  subst c3
  have H1 : (some false) = some r := by rw [if_neg (show ¬ (false = true) by decide)] at H; exact H
  clear H
  have H := H1
  clear H1
  obtain rfl := Option.some.inj H
  clear H
  go_enter Tryz.func97, Tryz.ntmps97
  go_wp2_with (first | ((with_reducible refine gate_dst (N := 1) rfl ?_); refine box_event ?hg (N := 1) ?hd (cs := #[.string a0_0, .string a0_1]) (t := 96) ?hr ?_; (case hd => rfl); (case hg => rfl); (case hr => first | (go_simp; done) | (go_simp; rfl)); intro gb211 hg w10 hbox hb; have n0_ := Aside0.mk (below_step HBa hb); have n1_ := Aside0.mk (hbox); have n2_ := BSz w hg HBa; have n3_ := BSz w hg HBa; clear HB; have HB := n0_; have BK211 := n1_; have GW211 := n2_; have GE211 := n3_; clear n0_ n1_ n2_ n3_; clear hb hbox hg; have hcz11_0 := C1z BK211; have hcz11_1 := C2z BK211; have hfz11_0 := blk_frozen BK211.out 0; have hfz11_1 := blk_frozen BK211.out 1) | ((with_reducible refine gate_callee (f := 59) rfl ?_); refine goesL_ (some 5) rfl rfl Tryz.func59 (by kernel_rfl) rfl #[.string a0_0] rfl MPz ?_; (with_reducible refine (Gj.calls a0_0 false _ A2.out).mono ?_); rintro e w12 ⟨rfl, hb⟩; refine ⟨_, rfl, ?_⟩; have n0_ := BBz BK211 hb; have n1_ := Aside0.mk (below_step (HBb GE211) hb); clear BK211; clear HB; have BK211 := n0_; have HB := n1_; clear n0_ n1_; (try clear hb); (try clear hb2); (try clear hk); (try clear hi)))
  go_ret
  exact ⟨EZa, HBb GE211⟩
 subst c3
 have H1 : ((Gy.f k a0_1).bind fun t213 => (some t213)) = some r := by rw [if_pos rfl] at H; exact H
 clear H
 have H := H1
 clear H1
 replace H := Option.bind_eq_some_iff.mp H
 obtain ⟨t213, A40, H⟩ := H
 replace H : (some t213) = some r := H
 have A4 := Aside0.mk A40
 clear A40
 obtain rfl := Option.some.inj H
 clear H
 go_enter Tryz.func97, Tryz.ntmps97
 go_wp2_with (first | ((with_reducible refine gate_dst (N := 1) rfl ?_); refine box_event ?hg (N := 1) ?hd (cs := #[.string a0_0, .string a0_1]) (t := 96) ?hr ?_; (case hd => rfl); (case hg => rfl); (case hr => first | (go_simp; done) | (go_simp; rfl)); intro gb211 hg w5 hbox hb; have n0_ := Aside0.mk (below_step HBa hb); have n1_ := Aside0.mk (hbox); have n2_ := BSz w hg HBa; have n3_ := BSz w hg HBa; clear HB; have HB := n0_; have BK211 := n1_; have GW211 := n2_; have GE211 := n3_; clear n0_ n1_ n2_ n3_; clear hb hbox hg; have hcz6_0 := C1z BK211; have hcz6_1 := C2z BK211; have hfz6_0 := blk_frozen BK211.out 0; have hfz6_1 := blk_frozen BK211.out 1) | ((with_reducible refine gate_callee (f := 59) rfl ?_); refine goesL_ (some 5) rfl rfl Tryz.func59 (by kernel_rfl) rfl #[.string a0_0] rfl MPz ?_; (with_reducible refine (Gj.calls a0_0 true _ A2.out).mono ?_); rintro e w7 ⟨rfl, hb⟩; refine ⟨_, rfl, ?_⟩; have n0_ := BBz BK211 hb; have n1_ := Aside0.mk (below_step (HBb GE211) hb); clear BK211; clear HB; have BK211 := n0_; have HB := n1_; clear n0_ n1_; (try clear hb); (try clear hb2); (try clear hk); (try clear hi); have hcz8_0 := C1z BK211; have hcz8_1 := C2z BK211; have hfz8_0 := blk_frozen BK211.out 0; have hfz8_1 := blk_frozen BK211.out 1) | (go_at_call 88; (with_reducible refine (Gy.calls k a0_1 t213 _ A4.out).mono ?_); rintro e w9 ⟨rfl, hb⟩; have n0_ := BBz BK211 hb; have n1_ := Aside0.mk (below_step (HBb GE211) hb); clear BK211; clear HB; have BK211 := n0_; have HB := n1_; clear n0_ n1_; (try clear hb); (try clear hb2); (try clear hk); (try clear hi)))
 go_ret
 exact ⟨EZa, HBb GE211⟩
def Ge.f (k : Nat) (a0_0 : ByteArray) (a0_1 : ByteArray) : Option (Bool) := (Gz.f k a0_0 a0_1).bind fun t215 => (some (!t215))
theorem Ge.mono : ∀ a0 a1 k, LeO (Ge.f k a0 a1) (Ge.f (k + 1) a0 a1) := by
 intro a0 a1 k
 unfold Ge.f
 with_reducible repeat' first | exact Gz.mono _ _ _ | exact LeO.refl _ | exact LeO.none _ | refine LeO.ite ?_ ?_ | refine LeO.bind ?_ (fun _ => ?_)
theorem Ge.calls (k : Nat) (a0_0 : ByteArray) (a0_1 : ByteArray) (r : Bool) (w : World) (h : Ge.f k a0_0 a0_1 = some r) :
  Calls Tryz.prog 96 #[.agg #[.string a0_0, .string a0_1]] w fun e w' => e = .returned (.bool r) ∧ Below w.heap.size w w' := by
 have hu96 := Tryz.underlying96
 have HB := Aside0.mk (Below.refl w.heap.size w)
 have H : ((Gz.f k a0_0 a0_1).bind fun t215 => (some (!t215))) = some r := h
 clear h
 replace H := Option.bind_eq_some_iff.mp H
 obtain ⟨t215, A20, H⟩ := H
 replace H : (some (!t215)) = some r := H
 have A2 := Aside0.mk A20
 clear A20
 obtain rfl := Option.some.inj H
 clear H
 go_enter Tryz.func96, Tryz.ntmps96
 go_wp2_with (first | ((with_reducible refine gate_dst (N := 1) rfl ?_); refine box_event ?hg (N := 1) ?hd (cs := #[.string a0_0, .string a0_1]) (t := 96) ?hr ?_; (case hd => rfl); (case hg => rfl); (case hr => first | (go_simp; done) | (go_simp; rfl)); intro gb214 hg w3 hbox hb; have n0_ := Aside0.mk (below_step HBa hb); have n1_ := Aside0.mk (hbox); have n2_ := BSz w hg HBa; have n3_ := BSz w hg HBa; clear HB; have HB := n0_; have BK214 := n1_; have GW214 := n2_; have GE214 := n3_; clear n0_ n1_ n2_ n3_; clear hb hbox hg; have hcz4_0 := C1z BK214; have hcz4_1 := C2z BK214; have hfz4_0 := blk_frozen BK214.out 0; have hfz4_1 := blk_frozen BK214.out 1) | ((with_reducible refine gate_callee (f := 97) rfl ?_); refine goesL_ (some 4) rfl rfl Tryz.func97 (by kernel_rfl) rfl #[.agg #[.string a0_0, .string a0_1]] rfl MPz ?_; (with_reducible refine (Gz.calls k a0_0 a0_1 t215 _ A2.out).mono ?_); rintro e w5 ⟨rfl, hb⟩; refine ⟨_, rfl, ?_⟩; have n0_ := BBz BK214 hb; have n1_ := Aside0.mk (below_step (HBb GE214) hb); clear BK214; clear HB; have BK214 := n0_; have HB := n1_; clear n0_ n1_; (try clear hb); (try clear hb2); (try clear hk); (try clear hi)))
 go_ret
 exact ⟨EZa, HBb GE214⟩
def Gd.ix (k : Nat) : List S96 → Int → Option Int
 | [], _ => some (-1)
 | x :: xs, i => (Ge.f k x.f0 x.f1).bind fun b => if b = true then some i else Gd.ix k xs (i + 1)
def Gd.f (k : Nat) (l0 : List (S96)) : Option (Bool) := if (l0.length : Int) ≤ 6 then ((Gd.ix k l0 0).bind fun t => some (!(decide (t ≥ 0)))) else some false
theorem Gd.mono_ix (k : Nat) : ∀ (l : List S96) (i : Int), LeO (Gd.ix k l i) (Gd.ix (k + 1) l i)
 | [], _ => LeO.refl _
 | x :: xs, i => by
  simp only [Gd.ix]
  refine LeO.bind (Ge.mono _ _ _) (fun b => ?_)
  cases b
  ·exact Gd.mono_ix k xs (i + 1)
  ·exact LeO.refl _
theorem Gd.mono : ∀ a0 k, LeO (Gd.f k a0) (Gd.f (k + 1) a0) := by
 intro a0 k
 unfold Gd.f
 exact LeO.ite (LeO.bind (Gd.mono_ix k _ _) (fun _ => LeO.refl _)) (LeO.refl _)
theorem Gd.ix_ge (k : Nat) : ∀ (l : List S96) (i : Int) (r : Int), 0 ≤ i → Gd.ix k l i = some r → -1 ≤ r
 | [], i, r, h0, h => by simp only [Gd.ix, Option.some.injEq] at h; omega
 | x :: xs, i, r, h0, h => by
  simp only [Gd.ix] at h
  obtain ⟨b, _, h⟩ := Option.bind_eq_some_iff.1 h
  cases b
  ·exact Gd.ix_ge k xs (i + 1) r (by omega) h
  ·simp at h; omega
theorem Gd.index (k : Nat) (A0 : Option Addr) (c0 : Nat) (l0 : List (S96)) (r : Int) (w : World) (hr0 : Kd.C k96 w A0 l0.length l0) (h : Gd.ix k l0 0 = some r) :
  Calls Tryz.prog 139 #[.slice A0 l0.length c0, .func (.func 96) #[] #[]] w fun e w' => e = .returned (.int .i64 r) ∧ Below w.heap.size w w' := by
 have hu := Tryz.underlying96
 have HR0 := Aside0.mk hr0
 clear hr0
 have HB := Aside0.mk (Below.refl w.heap.size w)
 have H' := Aside0.mk h
 clear h
 go_enter Tryz.func139, Tryz.ntmps139
 go_wp2
 go_loopg [5, 8] l0.length (fun kq _ v8 w' => ∃ j : Nat, v8 = .int .i64 (j : Int) ∧ Aside0 (Gd.ix k (l0.drop j) (j : Int) = some r) ∧ Aside0 (l0.length - j ≤ kq) ∧ Aside0 (Below w.heap.size w w'))
 case atStart => exact ⟨0, rfl, H', ⟨by omega⟩, HB⟩
 case round =>
  clear H'
  obtain ⟨j, rfl, HA, HK, HB⟩ := hrel
  by_cases c1 : (j : Int) < (l0.length : Int)
  rotate_left
  ·have c1b0 := decide_eq_false c1
   have c1b1 : decide (j < l0.length) = false := decide_eq_false (by omega)
   have H := HA.out
   rw [List.drop_of_length_le (by omega)] at H
   simp only [Gd.ix] at H
   obtain rfl := Option.some.inj H
   clear c1
   go_wp2
   go_ret
   exact ⟨rfl, HB.out⟩
  have c1b0 := decide_eq_true c1
  have c1b1 : decide (j < l0.length) = true := decide_eq_true (by omega)
  have H := HA.out
  clear HA
  have hj : j < l0.length := by omega
  have p1 : 0 ≤ (j : Int) := by omega
  obtain ⟨ad1, e1, hx1_0, hx1_1⟩ := at_T96 HR0.out (j : Int) p1 c1
  cases e1
  replace hx1_0 := HXz HB hx1_0
  replace hx1_1 := HXz HB hx1_1
  simp only [Int.toNat_natCast] at hx1_0 hx1_1
  have hel : l0.drop j = rd_T96 l0 (j : Int) :: l0.drop (j + 1) := by
   rw [List.drop_eq_getElem_cons hj]
   congr 1
   unfold rd_T96
   rw [List.getD_eq_getElem?_getD, show (j : Int).toNat = j from rfl, List.getElem?_eq_getElem hj]; rfl
  rw [hel] at H
  simp only [Gd.ix] at H
  obtain ⟨b, Ab0, H⟩ := Option.bind_eq_some_iff.1 H
  have Ab := Aside0.mk Ab0
  clear Ab0 hel
  have c1i := eq_true c1
  cases b with
  | false =>
   simp only [Bool.false_eq_true, if_false] at H
   have HN := Aside0.mk H
   clear H
   have HJ := Aside0.mk hj
   clear hj c1
   go_wp2_with (go_at_call 96; refine (Ge.calls k _ _ false _ Ab.out).mono ?_; rintro e w5 ⟨rfl, hb⟩; have n0_ := Aside0.mk (below_step HB.out hb); clear HB; have HB := n0_; clear n0_ hb)
   go_roundg (l0.length - (j + 1))
   case measure => have := HK.out; have := HJ.out; omega
   case rel => exact ⟨j + 1, by have hb := HR0.out.2.1; have := HJ.out; first | rfl | go_num | (congr 1; unfold wrap64; omega), by have h2 := HN.out; rw [show (j : Int) + 1 = ((j + 1 : Nat) : Int) by omega] at h2; exact ⟨h2⟩, ⟨Nat.le_refl _⟩, HB⟩
  | true =>
   simp only [if_true] at H
   obtain rfl := Option.some.inj H
   clear hj c1
   go_wp2_with (go_at_call 96; refine (Ge.calls k _ _ true _ Ab.out).mono ?_; rintro e w5 ⟨rfl, hb⟩; have n0_ := Aside0.mk (below_step HB.out hb); clear HB; have HB := n0_; clear n0_ hb)
   go_ret
   exact ⟨rfl, HB.out⟩
theorem Gd.contains (k : Nat) (A0 : Option Addr) (c0 : Nat) (l0 : List (S96)) (r : Int) (w : World) (hr0 : Kd.C k96 w A0 l0.length l0) (h : Gd.ix k l0 0 = some r) :
  Calls Tryz.prog 95 #[.slice A0 l0.length c0, .func (.func 96) #[] #[]] w fun e w' => e = .returned (.bool (decide (0 ≤ r))) ∧ Below w.heap.size w w' := by
 have hc := Gd.index k A0 c0 l0 r w hr0 h
 clear hr0 h
 go_enter Tryz.func95, Tryz.ntmps95
 go_wp2_with (go_at_call 139; refine hc.mono ?_; rintro e w' ⟨rfl, hb⟩)
 go_ret
 exact ⟨rfl, hb⟩
theorem Gd.calls (k : Nat) (A0 : Option Addr) (c0 : Nat) (l0 : List (S96)) (r : Bool) (w : World) (hr0 : Kd.C k96 w A0 l0.length l0) (hc0 : l0.length ≤ c0) (h : Gd.f k l0 = some r) :
  Calls Tryz.prog 60 #[.slice A0 l0.length c0] w fun e w' => e = .returned (.bool r) ∧ Below w.heap.size w w' := by
 unfold Gd.f at h
 by_cases c : (l0.length : Int) ≤ 6
 ·rw [if_pos c] at h
  obtain ⟨t, At, h⟩ := Option.bind_eq_some_iff.1 h
  obtain rfl := Option.some.inj h
  have cb0 : decide ((l0.length : Int) ≤ 6) = true := decide_eq_true c
  have cb1 : decide (l0.length ≤ 6) = true := decide_eq_true (by omega)
  have hc := Gd.contains k A0 c0 l0 t w hr0 At
  clear c hr0 hc0 At h
  go_enter Tryz.func60, Tryz.ntmps60
  go_wp2_with (go_at_call 95; refine hc.mono ?_; rintro e w' ⟨rfl, hb⟩)
  go_ret
  exact ⟨rfl, hb⟩
 rw [if_neg c] at h
 obtain rfl := Option.some.inj h
 have cb0 : decide ((l0.length : Int) ≤ 6) = false := decide_eq_false c
 have cb1 : decide (l0.length ≤ 6) = false := decide_eq_false (by omega)
 clear c hr0 hc0 h
 go_enter Tryz.func60, Tryz.ntmps60
 go_wp2
 go_ret
 exact ⟨rfl, Below.refl _ _⟩
def Gp.f (a0 : Int) (a1 : Int) (a2 : Int) : Option (Bool) := if a0 ≥ a1 then (some (decide (a0 ≤ a2))) else (some false)
theorem Gp.calls (a0 : Int) (a1 : Int) (a2 : Int) (r : Bool) (w : World) (h : Gp.f a0 a1 a2 = some r) :
  Calls Tryz.prog 98 #[.int .i64 a0, .int .i64 a1, .int .i64 a2] w fun e w' => e = .returned (.bool r) ∧ Drawn0 w w' := by
 have H : (if a0 ≥ a1 then (some (decide (a0 ≤ a2))) else (some false)) = some r := h
 clear h
 by_cases c4 : a0 ≥ a1
 ·rw [if_pos c4] at H
  have c4b0 : decide (a1 ≤ a0) = true := decide_eq_true c4
  clear c4
  obtain rfl := Option.some.inj H
  clear H
  go_enter Tryz.func98, Tryz.ntmps98
  go_wp2
  go_ret
  exact ⟨EZb, DRz⟩
 rw [if_neg c4] at H
 have c4b0 : decide (a1 ≤ a0) = false := decide_eq_false c4
 clear c4
 obtain rfl := Option.some.inj H
 clear H
 go_enter Tryz.func98, Tryz.ntmps98
 go_wp2
 go_ret
 exact ⟨EZb, DRz⟩
def Qa.f (a0 : Int) : Option (Bool) := (Gp.f a0 1 4).bind fun t216 => (some t216)
theorem Qa.calls (a0 : Int) (r : Bool) (w : World) (h : Qa.f a0 = some r) :
  Calls Tryz.prog 61 #[.int .i64 a0] w fun e w' => e = .returned (.bool r) ∧ Drawn0 w w' := by
 have H : ((Gp.f a0 1 4).bind fun t216 => (some t216)) = some r := h
 clear h
 replace H := Option.bind_eq_some_iff.mp H
 obtain ⟨t216, A20, H⟩ := H
 replace H : (some t216) = some r := H
 have A2 := Aside0.mk A20
 clear A20
 obtain rfl := Option.some.inj H
 clear H
 go_enter Tryz.func61, Tryz.ntmps61
 go_wp2_with (first | ((with_reducible refine gate_callee (f := 98) rfl ?_); refine goesL_ (some 4) rfl rfl Tryz.func98 (by kernel_rfl) rfl #[.int .i64 a0, .int .i64 1, .int .i64 4] rfl MPz ?_; (with_reducible refine (Gp.calls a0 1 4 t216 _ A2.out).mono ?_); rintro e w' ⟨rfl, ⟨nd, rfl⟩⟩; refine ⟨_, rfl, ?_⟩))
 go_ret
 exact ⟨EZb, DRz⟩
def Gn.l0 : Nat → List ByteArray → List ByteArray → Int → Int → Option (Bool)
 | 0, _, _, _, _ => none
 | k + 1, x0, x5, x6, x7 => if x7 < x6 then (if 0 ≤ x7 then (if x7 < (x5.length : Int) then ((Gj.f (rdOf ByteArray.empty x5 x7)).bind fun t218 => (if t218 = true then (if x7 > 0 then (if 0 ≤ (wrap64 (x7 - 1)) then (if (wrap64 (x7 - 1)) < (x0.length : Int) then (if ((Op.bytesLess ((rdOf ByteArray.empty x0 (wrap64 (x7 - 1))).toList) ((rdOf ByteArray.empty x5 x7).toList)) = true) then (Gn.l0 k x0 x5 x6 (wrap64 (x7 + 1))) else (some false)) else (none)) else (none)) else (Gn.l0 k x0 x5 x6 (wrap64 (x7 + 1)))) else (some false))) else (none)) else (none)) else (some true)
def Gn.f (k : Nat) (l0 : List ByteArray) : Option (Bool) := Gn.l0 k l0 l0 (l0.length : Int) 0
theorem Gn.mono_l : ∀ k, (∀ y0 y1 y2 y3, LeO (Gn.l0 k y0 y1 y2 y3) (Gn.l0 (k + 1) y0 y1 y2 y3))
 | 0 => fun _ _ _ _ r h => by simp [Gn.l0] at h
 | k + 1 => by
  have ih0 := Gn.mono_l k
  ·intro y0 y1 y2 y3
   unfold Gn.l0
   with_reducible repeat' first | exact ih0 _ _ _ _ | exact LeO.refl _ | exact LeO.none _ | refine LeO.ite ?_ ?_ | refine LeO.bind ?_ (fun _ => ?_)
theorem Gn.mono : ∀ a0 k, LeO (Gn.f k a0) (Gn.f (k + 1) a0) := by
 intro a0 k
 have ih0 := Gn.mono_l k
 unfold Gn.f
 with_reducible repeat' first | exact ih0 _ _ _ _ | exact LeO.refl _ | exact LeO.none _ | refine LeO.ite ?_ ?_ | refine LeO.bind ?_ (fun _ => ?_)
theorem Gn.calls (k : Nat) (A0 : Option Addr) (c0 : Nat) (l0 : List ByteArray) (r : Bool) (w : World) (hr0 : Kd.C Kd.string w A0 l0.length l0) (hc0 : l0.length ≤ c0) (h : Gn.f k l0 = some r) :
  Calls Tryz.prog 105 #[.slice A0 l0.length c0] w fun e w' => e = .returned (.bool r) ∧ Below w.heap.size w w' := by
 have HR0 := Aside0.mk hr0
 have HC0 := Aside0.mk hc0
 clear hr0 hc0
 have HB := Aside0.mk (Below.refl w.heap.size w)
 have H : (Gn.l0 k l0 l0 (l0.length : Int) 0) = some r := h
 clear h
 have H' := Aside0.mk H
 clear H
 go_enter Tryz.func105, Tryz.ntmps105
 go_wp2
 go_loopg [7] k (fun kq v7 w' => ∃ (x7_1 : Int), v7 = .int .i64 x7_1 ∧ Aside0 (Gn.l0 kq l0 l0 (l0.length : Int) x7_1 = some r) ∧ Aside0 (kq ≤ k) ∧ Aside0 (Below w.heap.size w w'))
 case atStart => exact ⟨(0), EZc, H', ⟨Nat.le_refl _⟩, ⟨HBa⟩⟩
 case round =>
  clear H'
  obtain ⟨x7_1, rfl, HA, HK1, HB⟩ := hrel
  cases gk with
  | zero => exact absurd HA.out (by simp [Gn.l0])
  | succ k1 =>
   have H := HA.out
   clear HA
   simp only [Gn.l0] at H
   by_cases c2 : x7_1 < (l0.length : Int)
   rotate_left
   ·rw [if_neg c2] at H
    have c2b0 := decide_eq_false c2
    clear c2
    obtain rfl := Option.some.inj H
    clear H
    go_wp2
    go_ret
    exact ⟨EZa, HBa⟩
   rw [if_pos c2] at H
   have c2b0 := decide_eq_true c2
   clear c2
   by_cases c3 : 0 ≤ x7_1
   rotate_left
   ·rw [if_neg c3] at H
    exact absurd H (by simp)
   rw [if_pos c3] at H
   have c3b0 := decide_eq_true c3
   clear c3
   by_cases c4 : x7_1 < (l0.length : Int)
   rotate_left
   ·rw [if_neg c4] at H
    exact absurd H (by simp)
   rw [if_pos c4] at H
   have c4b0 := decide_eq_true c4
   clear c4
   replace H := Option.bind_eq_some_iff.mp H
   obtain ⟨t218, A50, H⟩ := H
   replace H : (if t218 = true then (if x7_1 > 0 then (if 0 ≤ (wrap64 (x7_1 - 1)) then (if (wrap64 (x7_1 - 1)) < (l0.length : Int) then (if ((Op.bytesLess ((rdOf ByteArray.empty l0 (wrap64 (x7_1 - 1))).toList) ((rdOf ByteArray.empty l0 x7_1).toList)) = true) then (Gn.l0 k1 l0 l0 (l0.length : Int) (wrap64 (x7_1 + 1))) else (some false)) else (none)) else (none)) else (Gn.l0 k1 l0 l0 (l0.length : Int) (wrap64 (x7_1 + 1)))) else (some false)) = some r := H
   have A5 := Aside0.mk A50
   clear A50
   by_cases c6 : t218 = true
   rotate_left
   ·replace c6 := Bool.eq_false_iff.mpr c6
    subst c6
    have H1 : (some false) = some r := by rw [if_neg (show ¬ (false = true) by decide)] at H; exact H
    clear H
    have H := H1
    clear H1
    obtain rfl := Option.some.inj H
    clear H
    have p217 : 0 ≤ (x7_1 : Int) := ODz
    have q217 : x7_1 < (l0.length : Int) := ODz
    obtain ⟨ad217, e217, hx217_0⟩ := Kd.at_string HR0.out x7_1 p217 q217
    cases e217
    replace hx217_0 := HXz HB hx217_0
    replace p217 := eq_true p217
    replace q217 := eq_true q217
    go_wp2_with (first | ((with_reducible refine gate_callee (f := 59) rfl ?_); refine goesL_ (some 13) rfl rfl Tryz.func59 (by kernel_rfl) rfl #[.string (rdOf ByteArray.empty l0 x7_1)] rfl MPz ?_; (with_reducible refine (Gj.calls (rdOf ByteArray.empty l0 x7_1) false _ A5.out).mono ?_); rintro e w15 ⟨rfl, hb⟩; refine ⟨_, rfl, ?_⟩; have n0_ := Aside0.mk (below_step HBa hb); clear HB; have HB := n0_; clear n0_; (try clear hb); (try clear hb2); (try clear hk); (try clear hi)))
    go_ret
    exact ⟨EZa, HBa⟩
   subst c6
   have H1 : (if x7_1 > 0 then (if 0 ≤ (wrap64 (x7_1 - 1)) then (if (wrap64 (x7_1 - 1)) < (l0.length : Int) then (if ((Op.bytesLess ((rdOf ByteArray.empty l0 (wrap64 (x7_1 - 1))).toList) ((rdOf ByteArray.empty l0 x7_1).toList)) = true) then (Gn.l0 k1 l0 l0 (l0.length : Int) (wrap64 (x7_1 + 1))) else (some false)) else (none)) else (none)) else (Gn.l0 k1 l0 l0 (l0.length : Int) (wrap64 (x7_1 + 1)))) = some r := by rw [if_pos rfl] at H; exact H
   clear H
   have H := H1
   clear H1
   by_cases c7 : x7_1 > 0
   rotate_left
   ·rw [if_neg c7] at H
    have c7b0 : decide (0 < x7_1) = false := decide_eq_false c7
    clear c7
    have H' := Aside0.mk H
    clear H
    have p217 : 0 ≤ (x7_1 : Int) := ODz
    have q217 : x7_1 < (l0.length : Int) := ODz
    obtain ⟨ad217, e217, hx217_0⟩ := Kd.at_string HR0.out x7_1 p217 q217
    cases e217
    replace hx217_0 := HXz HB hx217_0
    replace p217 := eq_true p217
    replace q217 := eq_true q217
    go_wp2_with (first | ((with_reducible refine gate_callee (f := 59) rfl ?_); refine goesL_ (some 13) rfl rfl Tryz.func59 (by kernel_rfl) rfl #[.string (rdOf ByteArray.empty l0 x7_1)] rfl MPz ?_; (with_reducible refine (Gj.calls (rdOf ByteArray.empty l0 x7_1) true _ A5.out).mono ?_); rintro e w14 ⟨rfl, hb⟩; refine ⟨_, rfl, ?_⟩; have n0_ := Aside0.mk (below_step HBa hb); clear HB; have HB := n0_; clear n0_; (try clear hb); (try clear hb2); (try clear hk); (try clear hi)))
    go_roundg k1
    case measure => have := HK1.out; omega
    case rel => exact ⟨(wrap64 (x7_1 + 1)), EZc, H', ⟨by have := HK1.out; omega⟩, ⟨HBa⟩⟩
   rw [if_pos c7] at H
   have c7b0 : decide (0 < x7_1) = true := decide_eq_true c7
   clear c7
   obtain ⟨ji8, hji8⟩ : ∃ j_ : Int, (wrap64 (x7_1 - 1)) = j_ := ⟨_, rfl⟩
   replace H : (if 0 ≤ (ji8) then (if (ji8) < (l0.length : Int) then (if ((Op.bytesLess ((rdOf ByteArray.empty l0 (ji8)).toList) ((rdOf ByteArray.empty l0 x7_1).toList)) = true) then (Gn.l0 k1 l0 l0 (l0.length : Int) (wrap64 (x7_1 + 1))) else (some false)) else (none)) else (none)) = some r := by first | (rw [hji8] at H; exact H) | (simp only [hji8] at H ⊢; exact H)
   (try rw [hji8] at A5)
   have hji8w : (IntKind.i64.wrap (x7_1 - 1)) = ji8 := (i64_w _).trans hji8
   by_cases c9 : 0 ≤ (ji8)
   rotate_left
   ·rw [if_neg c9] at H
    exact absurd H (by simp)
   rw [if_pos c9] at H
   have c9b0 := decide_eq_true c9
   clear c9
   by_cases c10 : (ji8) < (l0.length : Int)
   rotate_left
   ·rw [if_neg c10] at H
    exact absurd H (by simp)
   rw [if_pos c10] at H
   have c10b0 := decide_eq_true c10
   clear c10
   by_cases c11 : ((Op.bytesLess ((rdOf ByteArray.empty l0 (ji8)).toList) ((rdOf ByteArray.empty l0 x7_1).toList)) = true)
   ·rw [if_pos c11] at H
    have c11b0 : (Op.bytesLess ((rdOf ByteArray.empty l0 (ji8)).toList) ((rdOf ByteArray.empty l0 x7_1).toList)) = true := c11
    clear c11
    have H' := Aside0.mk H
    clear H
    have p217 : 0 ≤ (x7_1 : Int) := ODz
    have q217 : x7_1 < (l0.length : Int) := ODz
    obtain ⟨ad217, e217, hx217_0⟩ := Kd.at_string HR0.out x7_1 p217 q217
    cases e217
    replace hx217_0 := HXz HB hx217_0
    replace p217 := eq_true p217
    replace q217 := eq_true q217
    go_wp2_with (first | ((with_reducible refine gate_callee (f := 59) rfl ?_); refine goesL_ (some 13) rfl rfl Tryz.func59 (by kernel_rfl) rfl #[.string (rdOf ByteArray.empty l0 x7_1)] rfl MPz ?_; (with_reducible refine (Gj.calls (rdOf ByteArray.empty l0 x7_1) true _ A5.out).mono ?_); rintro e w12 ⟨rfl, hb⟩; refine ⟨_, rfl, ?_⟩; have n0_ := Aside0.mk (below_step HBa hb); clear HB; have HB := n0_; clear n0_; (try clear hb); (try clear hb2); (try clear hk); (try clear hi); have p219 : 0 ≤ ((ji8) : Int) := ODz; have q219 : (ji8) < (l0.length : Int) := ODz; obtain ⟨ad219, e219, hx219_0⟩ := Kd.at_string HR0.out (ji8) p219 q219; obtain rfl : ad217 = ad219 := (by injection e219); replace hx219_0 := HXz HB hx219_0; replace p219 := eq_true p219; replace q219 := eq_true q219))
    go_roundg k1
    case measure => have := HK1.out; omega
    case rel => exact ⟨(wrap64 (x7_1 + 1)), EZc, H', ⟨by have := HK1.out; omega⟩, ⟨HBa⟩⟩
   rw [if_neg c11] at H
   have c11b0 : (Op.bytesLess ((rdOf ByteArray.empty l0 (ji8)).toList) ((rdOf ByteArray.empty l0 x7_1).toList)) = false := by simpa using c11
   clear c11
   obtain rfl := Option.some.inj H
   clear H
   have p217 : 0 ≤ (x7_1 : Int) := ODz
   have q217 : x7_1 < (l0.length : Int) := ODz
   obtain ⟨ad217, e217, hx217_0⟩ := Kd.at_string HR0.out x7_1 p217 q217
   cases e217
   replace hx217_0 := HXz HB hx217_0
   replace p217 := eq_true p217
   replace q217 := eq_true q217
   go_wp2_with (first | ((with_reducible refine gate_callee (f := 59) rfl ?_); refine goesL_ (some 13) rfl rfl Tryz.func59 (by kernel_rfl) rfl #[.string (rdOf ByteArray.empty l0 x7_1)] rfl MPz ?_; (with_reducible refine (Gj.calls (rdOf ByteArray.empty l0 x7_1) true _ A5.out).mono ?_); rintro e w13 ⟨rfl, hb⟩; refine ⟨_, rfl, ?_⟩; have n0_ := Aside0.mk (below_step HBa hb); clear HB; have HB := n0_; clear n0_; (try clear hb); (try clear hb2); (try clear hk); (try clear hi); have p219 : 0 ≤ ((ji8) : Int) := ODz; have q219 : (ji8) < (l0.length : Int) := ODz; obtain ⟨ad219, e219, hx219_0⟩ := Kd.at_string HR0.out (ji8) p219 q219; obtain rfl : ad217 = ad219 := (by injection e219); replace hx219_0 := HXz HB hx219_0; replace p219 := eq_true p219; replace q219 := eq_true q219))
   go_ret
   exact ⟨by first | rfl | (simp only [bne_nil_, beq_nil_]; rfl) | (simp [errW_none, errW_some] <;> rfl) | (simp only [← hji8]; first | rfl | (simp [errW_none, errW_some] <;> rfl)) | (simp [*, errW_none, errW_some] <;> rfl), HBa⟩
def Qb.f (k : Nat) (a0_0 : ByteArray) (l0_1 : List (S96)) (l0_2 : List ByteArray) (a0_3 : Int) (a0_4 : Bool) : Option (Bool) := if a0_0.toList = ([42] : List UInt8) then ((Gd.f k l0_1).bind fun t221 => (if t221 = true then (if (l0_2.length : Int) ≤ 8 then ((Gn.f k l0_2).bind fun t222 => (if t222 = true then ((Qa.f a0_3).bind fun t223 => (some t223)) else (some false))) else (some false)) else (some false))) else ((Gj.f a0_0).bind fun t224 => (if t224 = true then ((Gd.f k l0_1).bind fun t225 => (if t225 = true then (if (l0_2.length : Int) ≤ 8 then ((Gn.f k l0_2).bind fun t226 => (if t226 = true then ((Qa.f a0_3).bind fun t227 => (some t227)) else (some false))) else (some false)) else (some false))) else (some false)))
theorem Qb.mono : ∀ a0 a1 a2 a3 a4 k, LeO (Qb.f k a0 a1 a2 a3 a4) (Qb.f (k + 1) a0 a1 a2 a3 a4) := by
 intro a0 a1 a2 a3 a4 k
 unfold Qb.f
 with_reducible repeat' first | exact Gd.mono _ _ | exact Gn.mono _ _ | exact LeO.refl _ | exact LeO.none _ | refine LeO.ite ?_ ?_ | refine LeO.bind ?_ (fun _ => ?_)
theorem Qb.calls (k : Nat) (a0_0 : ByteArray) (A0_1 : Option Addr) (c0_1 : Nat) (l0_1 : List (S96)) (A0_2 : Option Addr) (c0_2 : Nat) (l0_2 : List ByteArray) (a0_3 : Int) (a0_4 : Bool) (r : Bool) (w : World) (hr0_1 : Kd.C k96 w A0_1 l0_1.length l0_1) (hc0_1 : l0_1.length ≤ c0_1) (hr0_2 : Kd.C Kd.string w A0_2 l0_2.length l0_2) (hc0_2 : l0_2.length ≤ c0_2) (h : Qb.f k a0_0 l0_1 l0_2 a0_3 a0_4 = some r) :
  Calls Tryz.prog 67 #[.agg #[.string a0_0, .slice A0_1 l0_1.length c0_1, .slice A0_2 l0_2.length c0_2, .int .i64 a0_3, .bool a0_4]] w fun e w' => e = .returned (.bool r) ∧ Below w.heap.size w w' := by
 have hu57 := Tryz.underlying57
 have HR0_1 := Aside0.mk hr0_1
 have HC0_1 := Aside0.mk hc0_1
 clear hr0_1 hc0_1
 have HR0_2 := Aside0.mk hr0_2
 have HC0_2 := Aside0.mk hc0_2
 clear hr0_2 hc0_2
 have HB := Aside0.mk (Below.refl w.heap.size w)
 have H : (if a0_0.toList = ([42] : List UInt8) then ((Gd.f k l0_1).bind fun t221 => (if t221 = true then (if (l0_2.length : Int) ≤ 8 then ((Gn.f k l0_2).bind fun t222 => (if t222 = true then ((Qa.f a0_3).bind fun t223 => (some t223)) else (some false))) else (some false)) else (some false))) else ((Gj.f a0_0).bind fun t224 => (if t224 = true then ((Gd.f k l0_1).bind fun t225 => (if t225 = true then (if (l0_2.length : Int) ≤ 8 then ((Gn.f k l0_2).bind fun t226 => (if t226 = true then ((Qa.f a0_3).bind fun t227 => (some t227)) else (some false))) else (some false)) else (some false))) else (some false)))) = some r := h
 clear h
 by_cases c2 : a0_0.toList = ([42] : List UInt8)
 ·rw [if_pos c2] at H
  obtain ⟨c2b0, c2b1⟩ := QTz c2
  clear c2
  replace H := Option.bind_eq_some_iff.mp H
  obtain ⟨t221, A30, H⟩ := H
  replace H : (if t221 = true then (if (l0_2.length : Int) ≤ 8 then ((Gn.f k l0_2).bind fun t222 => (if t222 = true then ((Qa.f a0_3).bind fun t223 => (some t223)) else (some false))) else (some false)) else (some false)) = some r := H
  have A3 := Aside0.mk A30
  clear A30
  by_cases c4 : t221 = true
  rotate_left
  ·replace c4 := Bool.eq_false_iff.mpr c4
   subst c4
   have H1 : (some false) = some r := by rw [if_neg (show ¬ (false = true) by decide)] at H; exact H
   clear H
   have H := H1
   clear H1
   obtain rfl := Option.some.inj H
   clear H
   go_enter Tryz.func67, Tryz.ntmps67
   go_wp2_with (first | ((with_reducible refine gate_dst (N := 1) rfl ?_); (try (refine gate_guard (by rfl) ?_; dsimp only)); refine box_event ?hg (N := 1) ?hd (cs := #[.string a0_0, .slice A0_1 l0_1.length c0_1, .slice A0_2 l0_2.length c0_2, .int .i64 a0_3, .bool a0_4]) (t := 57) ?hr ?_; (case hd => rfl); (case hg => rfl); (case hr => first | (go_simp; done) | (go_simp; rfl)); intro gb220 hg w24 hbox hb; have n0_ := Aside0.mk (below_step HBa hb); have n1_ := Aside0.mk (hbox); have n2_ := BSz w hg HBa; have n3_ := BSz w hg HBa; clear HB; have HB := n0_; have BK220 := n1_; have GW220 := n2_; have GE220 := n3_; clear n0_ n1_ n2_ n3_; clear hb hbox hg; have hcz25_0 := C1z BK220; have hcz25_1 := C2z BK220; have hcz25_2 := C3z BK220; have hcz25_3 := C4z BK220; have hcz25_4 := C5z BK220; have hfz25_0 := blk_frozen BK220.out 0; have hfz25_1 := blk_frozen BK220.out 1; have hfz25_2 := blk_frozen BK220.out 2; have hfz25_3 := blk_frozen BK220.out 3; have hfz25_4 := blk_frozen BK220.out 4) | (go_at_call 60; (with_reducible refine (Gd.calls k _ _ l0_1 false _ ?side1 ?side2 A3.out).mono ?_); (case side1 => exact KCz (Kd.C_below HR0_1.out HB.out)); (case side2 => exact HC0_1.out); rintro e w26 ⟨rfl, hb⟩; have n0_ := BBz BK220 hb; have n1_ := Aside0.mk (below_step (HBb GE220) hb); clear BK220; clear HB; have BK220 := n0_; have HB := n1_; clear n0_ n1_; (try clear hb); (try clear hb2); (try clear hk); (try clear hi)))
   go_ret
   exact ⟨EZa, HBb GE220⟩
  subst c4
  have H1 : (if (l0_2.length : Int) ≤ 8 then ((Gn.f k l0_2).bind fun t222 => (if t222 = true then ((Qa.f a0_3).bind fun t223 => (some t223)) else (some false))) else (some false)) = some r := by rw [if_pos rfl] at H; exact H
  clear H
  have H := H1
  clear H1
  by_cases c5 : (l0_2.length : Int) ≤ 8
  rotate_left
  ·rw [if_neg c5] at H
   have c5b0 := decide_eq_false c5
   have c5b1 : decide (l0_2.length ≤ 8) = false := decide_eq_false (by omega)
   clear c5
   obtain rfl := Option.some.inj H
   clear H
   go_enter Tryz.func67, Tryz.ntmps67
   go_wp2_with (first | ((with_reducible refine gate_dst (N := 1) rfl ?_); (try (refine gate_guard (by rfl) ?_; dsimp only)); refine box_event ?hg (N := 1) ?hd (cs := #[.string a0_0, .slice A0_1 l0_1.length c0_1, .slice A0_2 l0_2.length c0_2, .int .i64 a0_3, .bool a0_4]) (t := 57) ?hr ?_; (case hd => rfl); (case hg => rfl); (case hr => first | (go_simp; done) | (go_simp; rfl)); intro gb220 hg w20 hbox hb; have n0_ := Aside0.mk (below_step HBa hb); have n1_ := Aside0.mk (hbox); have n2_ := BSz w hg HBa; have n3_ := BSz w hg HBa; clear HB; have HB := n0_; have BK220 := n1_; have GW220 := n2_; have GE220 := n3_; clear n0_ n1_ n2_ n3_; clear hb hbox hg; have hcz21_0 := C1z BK220; have hcz21_1 := C2z BK220; have hcz21_2 := C3z BK220; have hcz21_3 := C4z BK220; have hcz21_4 := C5z BK220; have hfz21_0 := blk_frozen BK220.out 0; have hfz21_1 := blk_frozen BK220.out 1; have hfz21_2 := blk_frozen BK220.out 2; have hfz21_3 := blk_frozen BK220.out 3; have hfz21_4 := blk_frozen BK220.out 4) | (go_at_call 60; (with_reducible refine (Gd.calls k _ _ l0_1 true _ ?side1 ?side2 A3.out).mono ?_); (case side1 => exact KCz (Kd.C_below HR0_1.out HB.out)); (case side2 => exact HC0_1.out); rintro e w22 ⟨rfl, hb⟩; have n0_ := BBz BK220 hb; have n1_ := Aside0.mk (below_step (HBb GE220) hb); clear BK220; clear HB; have BK220 := n0_; have HB := n1_; clear n0_ n1_; (try clear hb); (try clear hb2); (try clear hk); (try clear hi); have hcz23_0 := C1z BK220; have hcz23_1 := C2z BK220; have hcz23_2 := C3z BK220; have hcz23_3 := C4z BK220; have hcz23_4 := C5z BK220; have hfz23_0 := blk_frozen BK220.out 0; have hfz23_1 := blk_frozen BK220.out 1; have hfz23_2 := blk_frozen BK220.out 2; have hfz23_3 := blk_frozen BK220.out 3; have hfz23_4 := blk_frozen BK220.out 4))
   go_ret
   exact ⟨EZa, HBb GE220⟩
  rw [if_pos c5] at H
  have c5b0 := decide_eq_true c5
  have c5b1 : decide (l0_2.length ≤ 8) = true := decide_eq_true (by omega)
  clear c5
  replace H := Option.bind_eq_some_iff.mp H
  obtain ⟨t222, A60, H⟩ := H
  replace H : (if t222 = true then ((Qa.f a0_3).bind fun t223 => (some t223)) else (some false)) = some r := H
  have A6 := Aside0.mk A60
  clear A60
  by_cases c7 : t222 = true
  ·subst c7
   have H1 : ((Qa.f a0_3).bind fun t223 => (some t223)) = some r := by rw [if_pos rfl] at H; exact H
   clear H
   have H := H1
   clear H1
   replace H := Option.bind_eq_some_iff.mp H
   obtain ⟨t223, A80, H⟩ := H
   replace H : (some t223) = some r := H
   have A8 := Aside0.mk A80
   clear A80
   obtain rfl := Option.some.inj H
   clear H
   go_enter Tryz.func67, Tryz.ntmps67
   go_wp2_with (first | ((with_reducible refine gate_dst (N := 1) rfl ?_); (try (refine gate_guard (by rfl) ?_; dsimp only)); refine box_event ?hg (N := 1) ?hd (cs := #[.string a0_0, .slice A0_1 l0_1.length c0_1, .slice A0_2 l0_2.length c0_2, .int .i64 a0_3, .bool a0_4]) (t := 57) ?hr ?_; (case hd => rfl); (case hg => rfl); (case hr => first | (go_simp; done) | (go_simp; rfl)); intro gb220 hg w9 hbox hb; have n0_ := Aside0.mk (below_step HBa hb); have n1_ := Aside0.mk (hbox); have n2_ := BSz w hg HBa; have n3_ := BSz w hg HBa; clear HB; have HB := n0_; have BK220 := n1_; have GW220 := n2_; have GE220 := n3_; clear n0_ n1_ n2_ n3_; clear hb hbox hg; have hcz10_0 := C1z BK220; have hcz10_1 := C2z BK220; have hcz10_2 := C3z BK220; have hcz10_3 := C4z BK220; have hcz10_4 := C5z BK220; have hfz10_0 := blk_frozen BK220.out 0; have hfz10_1 := blk_frozen BK220.out 1; have hfz10_2 := blk_frozen BK220.out 2; have hfz10_3 := blk_frozen BK220.out 3; have hfz10_4 := blk_frozen BK220.out 4) | (go_at_call 60; (with_reducible refine (Gd.calls k _ _ l0_1 true _ ?side1 ?side2 A3.out).mono ?_); (case side1 => exact KCz (Kd.C_below HR0_1.out HB.out)); (case side2 => exact HC0_1.out); rintro e w11 ⟨rfl, hb⟩; have n0_ := BBz BK220 hb; have n1_ := Aside0.mk (below_step (HBb GE220) hb); clear BK220; clear HB; have BK220 := n0_; have HB := n1_; clear n0_ n1_; (try clear hb); (try clear hb2); (try clear hk); (try clear hi); have hcz12_0 := C1z BK220; have hcz12_1 := C2z BK220; have hcz12_2 := C3z BK220; have hcz12_3 := C4z BK220; have hcz12_4 := C5z BK220; have hfz12_0 := blk_frozen BK220.out 0; have hfz12_1 := blk_frozen BK220.out 1; have hfz12_2 := blk_frozen BK220.out 2; have hfz12_3 := blk_frozen BK220.out 3; have hfz12_4 := blk_frozen BK220.out 4) | (go_at_call 105; (with_reducible refine (Gn.calls k _ _ l0_2 true _ ?side1 ?side2 A6.out).mono ?_); (case side1 => exact KCz (Kd.C_below HR0_2.out HB.out)); (case side2 => exact HC0_2.out); rintro e w13 ⟨rfl, hb⟩; have n0_ := BBz BK220 hb; have n1_ := Aside0.mk (below_step (HBb GE220) hb); clear BK220; clear HB; have BK220 := n0_; have HB := n1_; clear n0_ n1_; (try clear hb); (try clear hb2); (try clear hk); (try clear hi); have hcz14_0 := C1z BK220; have hcz14_1 := C2z BK220; have hcz14_2 := C3z BK220; have hcz14_3 := C4z BK220; have hcz14_4 := C5z BK220; have hfz14_0 := blk_frozen BK220.out 0; have hfz14_1 := blk_frozen BK220.out 1; have hfz14_2 := blk_frozen BK220.out 2; have hfz14_3 := blk_frozen BK220.out 3; have hfz14_4 := blk_frozen BK220.out 4) | (go_at_call 61; (with_reducible refine (Qa.calls a0_3 t223 _ A8.out).mono ?_); rintro e w' ⟨rfl, ⟨nd, rfl⟩⟩))
   go_ret
   exact ⟨EZa, HBb GE220⟩
  replace c7 := Bool.eq_false_iff.mpr c7
  subst c7
  have H1 : (some false) = some r := by rw [if_neg (show ¬ (false = true) by decide)] at H; exact H
  clear H
  have H := H1
  clear H1
  obtain rfl := Option.some.inj H
  clear H
  go_enter Tryz.func67, Tryz.ntmps67
  go_wp2_with (first | ((with_reducible refine gate_dst (N := 1) rfl ?_); (try (refine gate_guard (by rfl) ?_; dsimp only)); refine box_event ?hg (N := 1) ?hd (cs := #[.string a0_0, .slice A0_1 l0_1.length c0_1, .slice A0_2 l0_2.length c0_2, .int .i64 a0_3, .bool a0_4]) (t := 57) ?hr ?_; (case hd => rfl); (case hg => rfl); (case hr => first | (go_simp; done) | (go_simp; rfl)); intro gb220 hg w15 hbox hb; have n0_ := Aside0.mk (below_step HBa hb); have n1_ := Aside0.mk (hbox); have n2_ := BSz w hg HBa; have n3_ := BSz w hg HBa; clear HB; have HB := n0_; have BK220 := n1_; have GW220 := n2_; have GE220 := n3_; clear n0_ n1_ n2_ n3_; clear hb hbox hg; have hcz16_0 := C1z BK220; have hcz16_1 := C2z BK220; have hcz16_2 := C3z BK220; have hcz16_3 := C4z BK220; have hcz16_4 := C5z BK220; have hfz16_0 := blk_frozen BK220.out 0; have hfz16_1 := blk_frozen BK220.out 1; have hfz16_2 := blk_frozen BK220.out 2; have hfz16_3 := blk_frozen BK220.out 3; have hfz16_4 := blk_frozen BK220.out 4) | (go_at_call 60; (with_reducible refine (Gd.calls k _ _ l0_1 true _ ?side1 ?side2 A3.out).mono ?_); (case side1 => exact KCz (Kd.C_below HR0_1.out HB.out)); (case side2 => exact HC0_1.out); rintro e w17 ⟨rfl, hb⟩; have n0_ := BBz BK220 hb; have n1_ := Aside0.mk (below_step (HBb GE220) hb); clear BK220; clear HB; have BK220 := n0_; have HB := n1_; clear n0_ n1_; (try clear hb); (try clear hb2); (try clear hk); (try clear hi); have hcz18_0 := C1z BK220; have hcz18_1 := C2z BK220; have hcz18_2 := C3z BK220; have hcz18_3 := C4z BK220; have hcz18_4 := C5z BK220; have hfz18_0 := blk_frozen BK220.out 0; have hfz18_1 := blk_frozen BK220.out 1; have hfz18_2 := blk_frozen BK220.out 2; have hfz18_3 := blk_frozen BK220.out 3; have hfz18_4 := blk_frozen BK220.out 4) | (go_at_call 105; (with_reducible refine (Gn.calls k _ _ l0_2 false _ ?side1 ?side2 A6.out).mono ?_); (case side1 => exact KCz (Kd.C_below HR0_2.out HB.out)); (case side2 => exact HC0_2.out); rintro e w19 ⟨rfl, hb⟩; have n0_ := BBz BK220 hb; have n1_ := Aside0.mk (below_step (HBb GE220) hb); clear BK220; clear HB; have BK220 := n0_; have HB := n1_; clear n0_ n1_; (try clear hb); (try clear hb2); (try clear hk); (try clear hi)))
  go_ret
  exact ⟨EZa, HBb GE220⟩
 rw [if_neg c2] at H
 obtain ⟨c2b0, c2b1⟩ := QFz c2
 replace H := Option.bind_eq_some_iff.mp H
 obtain ⟨t224, A270, H⟩ := H
 replace H : (if t224 = true then ((Gd.f k l0_1).bind fun t225 => (if t225 = true then (if (l0_2.length : Int) ≤ 8 then ((Gn.f k l0_2).bind fun t226 => (if t226 = true then ((Qa.f a0_3).bind fun t227 => (some t227)) else (some false))) else (some false)) else (some false))) else (some false)) = some r := H
 have A27 := Aside0.mk A270
 clear A270
 by_cases c28 : t224 = true
 rotate_left
 ·replace c28 := Bool.eq_false_iff.mpr c28
  subst c28
  have H1 : (some false) = some r := by rw [if_neg (show ¬ (false = true) by decide)] at H; exact H
  clear H
  have H := H1
  clear H1
  obtain rfl := Option.some.inj H
  clear H
  go_enter Tryz.func67, Tryz.ntmps67
  go_wp2_with (first | ((with_reducible refine gate_dst (N := 1) rfl ?_); (try (refine gate_guard (by rfl) ?_; dsimp only)); refine box_event ?hg (N := 1) ?hd (cs := #[.string a0_0, .slice A0_1 l0_1.length c0_1, .slice A0_2 l0_2.length c0_2, .int .i64 a0_3, .bool a0_4]) (t := 57) ?hr ?_; (case hd => rfl); (case hg => rfl); (case hr => first | (go_simp; done) | (go_simp; rfl)); intro gb220 hg w61 hbox hb; have n0_ := Aside0.mk (below_step HBa hb); have n1_ := Aside0.mk (hbox); have n2_ := BSz w hg HBa; have n3_ := BSz w hg HBa; clear HB; have HB := n0_; have BK220 := n1_; have GW220 := n2_; have GE220 := n3_; clear n0_ n1_ n2_ n3_; clear hb hbox hg; have hcz62_0 := C1z BK220; have hcz62_1 := C2z BK220; have hcz62_2 := C3z BK220; have hcz62_3 := C4z BK220; have hcz62_4 := C5z BK220; have hfz62_0 := blk_frozen BK220.out 0; have hfz62_1 := blk_frozen BK220.out 1; have hfz62_2 := blk_frozen BK220.out 2; have hfz62_3 := blk_frozen BK220.out 3; have hfz62_4 := blk_frozen BK220.out 4) | (go_at_call 59; (with_reducible refine (Gj.calls a0_0 false _ A27.out).mono ?_); rintro e w63 ⟨rfl, hb⟩; have n0_ := BBz BK220 hb; have n1_ := Aside0.mk (below_step (HBb GE220) hb); clear BK220; clear HB; have BK220 := n0_; have HB := n1_; clear n0_ n1_; (try clear hb); (try clear hb2); (try clear hk); (try clear hi)))
  go_ret
  exact ⟨EZa, HBb GE220⟩
 subst c28
 have H1 : ((Gd.f k l0_1).bind fun t225 => (if t225 = true then (if (l0_2.length : Int) ≤ 8 then ((Gn.f k l0_2).bind fun t226 => (if t226 = true then ((Qa.f a0_3).bind fun t227 => (some t227)) else (some false))) else (some false)) else (some false))) = some r := by rw [if_pos rfl] at H; exact H
 clear H
 have H := H1
 clear H1
 replace H := Option.bind_eq_some_iff.mp H
 obtain ⟨t225, A290, H⟩ := H
 replace H : (if t225 = true then (if (l0_2.length : Int) ≤ 8 then ((Gn.f k l0_2).bind fun t226 => (if t226 = true then ((Qa.f a0_3).bind fun t227 => (some t227)) else (some false))) else (some false)) else (some false)) = some r := H
 have A29 := Aside0.mk A290
 clear A290
 by_cases c30 : t225 = true
 rotate_left
 ·replace c30 := Bool.eq_false_iff.mpr c30
  subst c30
  have H1 : (some false) = some r := by rw [if_neg (show ¬ (false = true) by decide)] at H; exact H
  clear H
  have H := H1
  clear H1
  obtain rfl := Option.some.inj H
  clear H
  go_enter Tryz.func67, Tryz.ntmps67
  go_wp2_with (first | ((with_reducible refine gate_dst (N := 1) rfl ?_); (try (refine gate_guard (by rfl) ?_; dsimp only)); refine box_event ?hg (N := 1) ?hd (cs := #[.string a0_0, .slice A0_1 l0_1.length c0_1, .slice A0_2 l0_2.length c0_2, .int .i64 a0_3, .bool a0_4]) (t := 57) ?hr ?_; (case hd => rfl); (case hg => rfl); (case hr => first | (go_simp; done) | (go_simp; rfl)); intro gb220 hg w56 hbox hb; have n0_ := Aside0.mk (below_step HBa hb); have n1_ := Aside0.mk (hbox); have n2_ := BSz w hg HBa; have n3_ := BSz w hg HBa; clear HB; have HB := n0_; have BK220 := n1_; have GW220 := n2_; have GE220 := n3_; clear n0_ n1_ n2_ n3_; clear hb hbox hg; have hcz57_0 := C1z BK220; have hcz57_1 := C2z BK220; have hcz57_2 := C3z BK220; have hcz57_3 := C4z BK220; have hcz57_4 := C5z BK220; have hfz57_0 := blk_frozen BK220.out 0; have hfz57_1 := blk_frozen BK220.out 1; have hfz57_2 := blk_frozen BK220.out 2; have hfz57_3 := blk_frozen BK220.out 3; have hfz57_4 := blk_frozen BK220.out 4) | (go_at_call 59; (with_reducible refine (Gj.calls a0_0 true _ A27.out).mono ?_); rintro e w58 ⟨rfl, hb⟩; have n0_ := BBz BK220 hb; have n1_ := Aside0.mk (below_step (HBb GE220) hb); clear BK220; clear HB; have BK220 := n0_; have HB := n1_; clear n0_ n1_; (try clear hb); (try clear hb2); (try clear hk); (try clear hi); have hcz59_0 := C1z BK220; have hcz59_1 := C2z BK220; have hcz59_2 := C3z BK220; have hcz59_3 := C4z BK220; have hcz59_4 := C5z BK220; have hfz59_0 := blk_frozen BK220.out 0; have hfz59_1 := blk_frozen BK220.out 1; have hfz59_2 := blk_frozen BK220.out 2; have hfz59_3 := blk_frozen BK220.out 3; have hfz59_4 := blk_frozen BK220.out 4) | (go_at_call 60; (with_reducible refine (Gd.calls k _ _ l0_1 false _ ?side1 ?side2 A29.out).mono ?_); (case side1 => exact KCz (Kd.C_below HR0_1.out HB.out)); (case side2 => exact HC0_1.out); rintro e w60 ⟨rfl, hb⟩; have n0_ := BBz BK220 hb; have n1_ := Aside0.mk (below_step (HBb GE220) hb); clear BK220; clear HB; have BK220 := n0_; have HB := n1_; clear n0_ n1_; (try clear hb); (try clear hb2); (try clear hk); (try clear hi)))
  go_ret
  exact ⟨EZa, HBb GE220⟩
 subst c30
 have H1 : (if (l0_2.length : Int) ≤ 8 then ((Gn.f k l0_2).bind fun t226 => (if t226 = true then ((Qa.f a0_3).bind fun t227 => (some t227)) else (some false))) else (some false)) = some r := by rw [if_pos rfl] at H; exact H
 clear H
 have H := H1
 clear H1
 by_cases c31 : (l0_2.length : Int) ≤ 8
 rotate_left
 ·rw [if_neg c31] at H
  have c31b0 := decide_eq_false c31
  have c31b1 : decide (l0_2.length ≤ 8) = false := decide_eq_false (by omega)
  clear c31
  obtain rfl := Option.some.inj H
  clear H
  go_enter Tryz.func67, Tryz.ntmps67
  go_wp2_with (first | ((with_reducible refine gate_dst (N := 1) rfl ?_); (try (refine gate_guard (by rfl) ?_; dsimp only)); refine box_event ?hg (N := 1) ?hd (cs := #[.string a0_0, .slice A0_1 l0_1.length c0_1, .slice A0_2 l0_2.length c0_2, .int .i64 a0_3, .bool a0_4]) (t := 57) ?hr ?_; (case hd => rfl); (case hg => rfl); (case hr => first | (go_simp; done) | (go_simp; rfl)); intro gb220 hg w50 hbox hb; have n0_ := Aside0.mk (below_step HBa hb); have n1_ := Aside0.mk (hbox); have n2_ := BSz w hg HBa; have n3_ := BSz w hg HBa; clear HB; have HB := n0_; have BK220 := n1_; have GW220 := n2_; have GE220 := n3_; clear n0_ n1_ n2_ n3_; clear hb hbox hg; have hcz51_0 := C1z BK220; have hcz51_1 := C2z BK220; have hcz51_2 := C3z BK220; have hcz51_3 := C4z BK220; have hcz51_4 := C5z BK220; have hfz51_0 := blk_frozen BK220.out 0; have hfz51_1 := blk_frozen BK220.out 1; have hfz51_2 := blk_frozen BK220.out 2; have hfz51_3 := blk_frozen BK220.out 3; have hfz51_4 := blk_frozen BK220.out 4) | (go_at_call 59; (with_reducible refine (Gj.calls a0_0 true _ A27.out).mono ?_); rintro e w52 ⟨rfl, hb⟩; have n0_ := BBz BK220 hb; have n1_ := Aside0.mk (below_step (HBb GE220) hb); clear BK220; clear HB; have BK220 := n0_; have HB := n1_; clear n0_ n1_; (try clear hb); (try clear hb2); (try clear hk); (try clear hi); have hcz53_0 := C1z BK220; have hcz53_1 := C2z BK220; have hcz53_2 := C3z BK220; have hcz53_3 := C4z BK220; have hcz53_4 := C5z BK220; have hfz53_0 := blk_frozen BK220.out 0; have hfz53_1 := blk_frozen BK220.out 1; have hfz53_2 := blk_frozen BK220.out 2; have hfz53_3 := blk_frozen BK220.out 3; have hfz53_4 := blk_frozen BK220.out 4) | (go_at_call 60; (with_reducible refine (Gd.calls k _ _ l0_1 true _ ?side1 ?side2 A29.out).mono ?_); (case side1 => exact KCz (Kd.C_below HR0_1.out HB.out)); (case side2 => exact HC0_1.out); rintro e w54 ⟨rfl, hb⟩; have n0_ := BBz BK220 hb; have n1_ := Aside0.mk (below_step (HBb GE220) hb); clear BK220; clear HB; have BK220 := n0_; have HB := n1_; clear n0_ n1_; (try clear hb); (try clear hb2); (try clear hk); (try clear hi); have hcz55_0 := C1z BK220; have hcz55_1 := C2z BK220; have hcz55_2 := C3z BK220; have hcz55_3 := C4z BK220; have hcz55_4 := C5z BK220; have hfz55_0 := blk_frozen BK220.out 0; have hfz55_1 := blk_frozen BK220.out 1; have hfz55_2 := blk_frozen BK220.out 2; have hfz55_3 := blk_frozen BK220.out 3; have hfz55_4 := blk_frozen BK220.out 4))
  go_ret
  exact ⟨EZa, HBb GE220⟩
 rw [if_pos c31] at H
 have c31b0 := decide_eq_true c31
 have c31b1 : decide (l0_2.length ≤ 8) = true := decide_eq_true (by omega)
 clear c31
 replace H := Option.bind_eq_some_iff.mp H
 obtain ⟨t226, A320, H⟩ := H
 replace H : (if t226 = true then ((Qa.f a0_3).bind fun t227 => (some t227)) else (some false)) = some r := H
 have A32 := Aside0.mk A320
 clear A320
 by_cases c33 : t226 = true
 ·subst c33
  have H1 : ((Qa.f a0_3).bind fun t227 => (some t227)) = some r := by rw [if_pos rfl] at H; exact H
  clear H
  have H := H1
  clear H1
  replace H := Option.bind_eq_some_iff.mp H
  obtain ⟨t227, A340, H⟩ := H
  replace H : (some t227) = some r := H
  have A34 := Aside0.mk A340
  clear A340
  obtain rfl := Option.some.inj H
  clear H
  go_enter Tryz.func67, Tryz.ntmps67
  go_wp2_with (first | ((with_reducible refine gate_dst (N := 1) rfl ?_); (try (refine gate_guard (by rfl) ?_; dsimp only)); refine box_event ?hg (N := 1) ?hd (cs := #[.string a0_0, .slice A0_1 l0_1.length c0_1, .slice A0_2 l0_2.length c0_2, .int .i64 a0_3, .bool a0_4]) (t := 57) ?hr ?_; (case hd => rfl); (case hg => rfl); (case hr => first | (go_simp; done) | (go_simp; rfl)); intro gb220 hg w35 hbox hb; have n0_ := Aside0.mk (below_step HBa hb); have n1_ := Aside0.mk (hbox); have n2_ := BSz w hg HBa; have n3_ := BSz w hg HBa; clear HB; have HB := n0_; have BK220 := n1_; have GW220 := n2_; have GE220 := n3_; clear n0_ n1_ n2_ n3_; clear hb hbox hg; have hcz36_0 := C1z BK220; have hcz36_1 := C2z BK220; have hcz36_2 := C3z BK220; have hcz36_3 := C4z BK220; have hcz36_4 := C5z BK220; have hfz36_0 := blk_frozen BK220.out 0; have hfz36_1 := blk_frozen BK220.out 1; have hfz36_2 := blk_frozen BK220.out 2; have hfz36_3 := blk_frozen BK220.out 3; have hfz36_4 := blk_frozen BK220.out 4) | (go_at_call 59; (with_reducible refine (Gj.calls a0_0 true _ A27.out).mono ?_); rintro e w37 ⟨rfl, hb⟩; have n0_ := BBz BK220 hb; have n1_ := Aside0.mk (below_step (HBb GE220) hb); clear BK220; clear HB; have BK220 := n0_; have HB := n1_; clear n0_ n1_; (try clear hb); (try clear hb2); (try clear hk); (try clear hi); have hcz38_0 := C1z BK220; have hcz38_1 := C2z BK220; have hcz38_2 := C3z BK220; have hcz38_3 := C4z BK220; have hcz38_4 := C5z BK220; have hfz38_0 := blk_frozen BK220.out 0; have hfz38_1 := blk_frozen BK220.out 1; have hfz38_2 := blk_frozen BK220.out 2; have hfz38_3 := blk_frozen BK220.out 3; have hfz38_4 := blk_frozen BK220.out 4) | (go_at_call 60; (with_reducible refine (Gd.calls k _ _ l0_1 true _ ?side1 ?side2 A29.out).mono ?_); (case side1 => exact KCz (Kd.C_below HR0_1.out HB.out)); (case side2 => exact HC0_1.out); rintro e w39 ⟨rfl, hb⟩; have n0_ := BBz BK220 hb; have n1_ := Aside0.mk (below_step (HBb GE220) hb); clear BK220; clear HB; have BK220 := n0_; have HB := n1_; clear n0_ n1_; (try clear hb); (try clear hb2); (try clear hk); (try clear hi); have hcz40_0 := C1z BK220; have hcz40_1 := C2z BK220; have hcz40_2 := C3z BK220; have hcz40_3 := C4z BK220; have hcz40_4 := C5z BK220; have hfz40_0 := blk_frozen BK220.out 0; have hfz40_1 := blk_frozen BK220.out 1; have hfz40_2 := blk_frozen BK220.out 2; have hfz40_3 := blk_frozen BK220.out 3; have hfz40_4 := blk_frozen BK220.out 4) | (go_at_call 105; (with_reducible refine (Gn.calls k _ _ l0_2 true _ ?side1 ?side2 A32.out).mono ?_); (case side1 => exact KCz (Kd.C_below HR0_2.out HB.out)); (case side2 => exact HC0_2.out); rintro e w41 ⟨rfl, hb⟩; have n0_ := BBz BK220 hb; have n1_ := Aside0.mk (below_step (HBb GE220) hb); clear BK220; clear HB; have BK220 := n0_; have HB := n1_; clear n0_ n1_; (try clear hb); (try clear hb2); (try clear hk); (try clear hi); have hcz42_0 := C1z BK220; have hcz42_1 := C2z BK220; have hcz42_2 := C3z BK220; have hcz42_3 := C4z BK220; have hcz42_4 := C5z BK220; have hfz42_0 := blk_frozen BK220.out 0; have hfz42_1 := blk_frozen BK220.out 1; have hfz42_2 := blk_frozen BK220.out 2; have hfz42_3 := blk_frozen BK220.out 3; have hfz42_4 := blk_frozen BK220.out 4) | (go_at_call 61; (with_reducible refine (Qa.calls a0_3 t227 _ A34.out).mono ?_); rintro e w' ⟨rfl, ⟨nd, rfl⟩⟩))
  go_ret
  exact ⟨EZa, HBb GE220⟩
 replace c33 := Bool.eq_false_iff.mpr c33
 subst c33
 have H1 : (some false) = some r := by rw [if_neg (show ¬ (false = true) by decide)] at H; exact H
 clear H
 have H := H1
 clear H1
 obtain rfl := Option.some.inj H
 clear H
 go_enter Tryz.func67, Tryz.ntmps67
 go_wp2_with (first | ((with_reducible refine gate_dst (N := 1) rfl ?_); (try (refine gate_guard (by rfl) ?_; dsimp only)); refine box_event ?hg (N := 1) ?hd (cs := #[.string a0_0, .slice A0_1 l0_1.length c0_1, .slice A0_2 l0_2.length c0_2, .int .i64 a0_3, .bool a0_4]) (t := 57) ?hr ?_; (case hd => rfl); (case hg => rfl); (case hr => first | (go_simp; done) | (go_simp; rfl)); intro gb220 hg w43 hbox hb; have n0_ := Aside0.mk (below_step HBa hb); have n1_ := Aside0.mk (hbox); have n2_ := BSz w hg HBa; have n3_ := BSz w hg HBa; clear HB; have HB := n0_; have BK220 := n1_; have GW220 := n2_; have GE220 := n3_; clear n0_ n1_ n2_ n3_; clear hb hbox hg; have hcz44_0 := C1z BK220; have hcz44_1 := C2z BK220; have hcz44_2 := C3z BK220; have hcz44_3 := C4z BK220; have hcz44_4 := C5z BK220; have hfz44_0 := blk_frozen BK220.out 0; have hfz44_1 := blk_frozen BK220.out 1; have hfz44_2 := blk_frozen BK220.out 2; have hfz44_3 := blk_frozen BK220.out 3; have hfz44_4 := blk_frozen BK220.out 4) | (go_at_call 59; (with_reducible refine (Gj.calls a0_0 true _ A27.out).mono ?_); rintro e w45 ⟨rfl, hb⟩; have n0_ := BBz BK220 hb; have n1_ := Aside0.mk (below_step (HBb GE220) hb); clear BK220; clear HB; have BK220 := n0_; have HB := n1_; clear n0_ n1_; (try clear hb); (try clear hb2); (try clear hk); (try clear hi); have hcz46_0 := C1z BK220; have hcz46_1 := C2z BK220; have hcz46_2 := C3z BK220; have hcz46_3 := C4z BK220; have hcz46_4 := C5z BK220; have hfz46_0 := blk_frozen BK220.out 0; have hfz46_1 := blk_frozen BK220.out 1; have hfz46_2 := blk_frozen BK220.out 2; have hfz46_3 := blk_frozen BK220.out 3; have hfz46_4 := blk_frozen BK220.out 4) | (go_at_call 60; (with_reducible refine (Gd.calls k _ _ l0_1 true _ ?side1 ?side2 A29.out).mono ?_); (case side1 => exact KCz (Kd.C_below HR0_1.out HB.out)); (case side2 => exact HC0_1.out); rintro e w47 ⟨rfl, hb⟩; have n0_ := BBz BK220 hb; have n1_ := Aside0.mk (below_step (HBb GE220) hb); clear BK220; clear HB; have BK220 := n0_; have HB := n1_; clear n0_ n1_; (try clear hb); (try clear hb2); (try clear hk); (try clear hi); have hcz48_0 := C1z BK220; have hcz48_1 := C2z BK220; have hcz48_2 := C3z BK220; have hcz48_3 := C4z BK220; have hcz48_4 := C5z BK220; have hfz48_0 := blk_frozen BK220.out 0; have hfz48_1 := blk_frozen BK220.out 1; have hfz48_2 := blk_frozen BK220.out 2; have hfz48_3 := blk_frozen BK220.out 3; have hfz48_4 := blk_frozen BK220.out 4) | (go_at_call 105; (with_reducible refine (Gn.calls k _ _ l0_2 false _ ?side1 ?side2 A32.out).mono ?_); (case side1 => exact KCz (Kd.C_below HR0_2.out HB.out)); (case side2 => exact HC0_2.out); rintro e w49 ⟨rfl, hb⟩; have n0_ := BBz BK220 hb; have n1_ := Aside0.mk (below_step (HBb GE220) hb); clear BK220; clear HB; have BK220 := n0_; have HB := n1_; clear n0_ n1_; (try clear hb); (try clear hb2); (try clear hk); (try clear hi)))
 go_ret
 exact ⟨EZa, HBb GE220⟩
def Gb.f (k : Nat) (a0_0 : ByteArray) (l0_1 : List (S96)) (l0_2 : List ByteArray) (a0_3 : Int) (a0_4 : Bool) : Option (Bool) := (Qb.f k a0_0 l0_1 l0_2 a0_3 a0_4).bind fun t229 => (some (!t229))
theorem Gb.mono : ∀ a0 a1 a2 a3 a4 k, LeO (Gb.f k a0 a1 a2 a3 a4) (Gb.f (k + 1) a0 a1 a2 a3 a4) := by
 intro a0 a1 a2 a3 a4 k
 unfold Gb.f
 with_reducible repeat' first | exact Qb.mono _ _ _ _ _ _ | exact LeO.refl _ | exact LeO.none _ | refine LeO.ite ?_ ?_ | refine LeO.bind ?_ (fun _ => ?_)
theorem Gb.calls (k : Nat) (a0_0 : ByteArray) (A0_1 : Option Addr) (c0_1 : Nat) (l0_1 : List (S96)) (A0_2 : Option Addr) (c0_2 : Nat) (l0_2 : List ByteArray) (a0_3 : Int) (a0_4 : Bool) (r : Bool) (w : World) (hr0_1 : Kd.C k96 w A0_1 l0_1.length l0_1) (hc0_1 : l0_1.length ≤ c0_1) (hr0_2 : Kd.C Kd.string w A0_2 l0_2.length l0_2) (hc0_2 : l0_2.length ≤ c0_2) (h : Gb.f k a0_0 l0_1 l0_2 a0_3 a0_4 = some r) :
  Calls Tryz.prog 66 #[.agg #[.string a0_0, .slice A0_1 l0_1.length c0_1, .slice A0_2 l0_2.length c0_2, .int .i64 a0_3, .bool a0_4]] w fun e w' => e = .returned (.bool r) ∧ Below w.heap.size w w' := by
 have hu57 := Tryz.underlying57
 have HR0_1 := Aside0.mk hr0_1
 have HC0_1 := Aside0.mk hc0_1
 clear hr0_1 hc0_1
 have HR0_2 := Aside0.mk hr0_2
 have HC0_2 := Aside0.mk hc0_2
 clear hr0_2 hc0_2
 have HB := Aside0.mk (Below.refl w.heap.size w)
 have H : ((Qb.f k a0_0 l0_1 l0_2 a0_3 a0_4).bind fun t229 => (some (!t229))) = some r := h
 clear h
 replace H := Option.bind_eq_some_iff.mp H
 obtain ⟨t229, A20, H⟩ := H
 replace H : (some (!t229)) = some r := H
 have A2 := Aside0.mk A20
 clear A20
 obtain rfl := Option.some.inj H
 clear H
 go_enter Tryz.func66, Tryz.ntmps66
 go_wp2_with (first | ((with_reducible refine gate_dst (N := 1) rfl ?_); refine box_event ?hg (N := 1) ?hd (cs := #[.string a0_0, .slice A0_1 l0_1.length c0_1, .slice A0_2 l0_2.length c0_2, .int .i64 a0_3, .bool a0_4]) (t := 57) ?hr ?_; (case hd => rfl); (case hg => rfl); (case hr => first | (go_simp; done) | (go_simp; rfl)); intro gb228 hg w3 hbox hb; have n0_ := Aside0.mk (below_step HBa hb); have n1_ := Aside0.mk (hbox); have n2_ := BSz w hg HBa; have n3_ := BSz w hg HBa; clear HB; have HB := n0_; have BK228 := n1_; have GW228 := n2_; have GE228 := n3_; clear n0_ n1_ n2_ n3_; clear hb hbox hg; have hcz4_0 := C1z BK228; have hcz4_1 := C2z BK228; have hcz4_2 := C3z BK228; have hcz4_3 := C4z BK228; have hcz4_4 := C5z BK228; have hfz4_0 := blk_frozen BK228.out 0; have hfz4_1 := blk_frozen BK228.out 1; have hfz4_2 := blk_frozen BK228.out 2; have hfz4_3 := blk_frozen BK228.out 3; have hfz4_4 := blk_frozen BK228.out 4) | ((with_reducible refine gate_callee (f := 67) rfl ?_); refine goesL_ (some 4) rfl rfl Tryz.func67 (by kernel_rfl) rfl #[.agg #[.string a0_0, .slice A0_1 l0_1.length c0_1, .slice A0_2 l0_2.length c0_2, .int .i64 a0_3, .bool a0_4]] rfl MPz ?_; (with_reducible refine (Qb.calls k a0_0 _ _ l0_1 _ _ l0_2 a0_3 a0_4 t229 _ ?side1 ?side2 ?side3 ?side4 A2.out).mono ?_); (case side1 => exact KCz (Kd.C_below HR0_1.out HB.out)); (case side2 => exact HC0_1.out); (case side3 => exact KCz (Kd.C_below HR0_2.out HB.out)); (case side4 => exact HC0_2.out); rintro e w5 ⟨rfl, hb⟩; refine ⟨_, rfl, ?_⟩; have n0_ := BBz BK228 hb; have n1_ := Aside0.mk (below_step (HBb GE228) hb); clear BK228; clear HB; have BK228 := n0_; have HB := n1_; clear n0_ n1_; (try clear hb); (try clear hb2); (try clear hk); (try clear hi)))
 go_ret
 exact ⟨EZa, HBb GE228⟩
def Ga.ix (k : Nat) : List S57 → Int → Option Int
 | [], _ => some (-1)
 | x :: xs, i => (Gb.f k x.f0 x.f1 x.f2 x.f3 x.f4).bind fun b => if b = true then some i else Ga.ix k xs (i + 1)
def Ga.f (k : Nat) (l0 : List (S57)) : Option (Bool) := if (l0.length : Int) ≤ 10 then ((Ga.ix k l0 0).bind fun t => some (!(decide (t ≥ 0)))) else some false
theorem Ga.mono_ix (k : Nat) : ∀ (l : List S57) (i : Int), LeO (Ga.ix k l i) (Ga.ix (k + 1) l i)
 | [], _ => LeO.refl _
 | x :: xs, i => by
  simp only [Ga.ix]
  refine LeO.bind (Gb.mono _ _ _ _ _ _) (fun b => ?_)
  cases b
  ·exact Ga.mono_ix k xs (i + 1)
  ·exact LeO.refl _
theorem Ga.mono : ∀ a0 k, LeO (Ga.f k a0) (Ga.f (k + 1) a0) := by
 intro a0 k
 unfold Ga.f
 exact LeO.ite (LeO.bind (Ga.mono_ix k _ _) (fun _ => LeO.refl _)) (LeO.refl _)
theorem Ga.ix_ge (k : Nat) : ∀ (l : List S57) (i : Int) (r : Int), 0 ≤ i → Ga.ix k l i = some r → -1 ≤ r
 | [], i, r, h0, h => by simp only [Ga.ix, Option.some.injEq] at h; omega
 | x :: xs, i, r, h0, h => by
  simp only [Ga.ix] at h
  obtain ⟨b, _, h⟩ := Option.bind_eq_some_iff.1 h
  cases b
  ·exact Ga.ix_ge k xs (i + 1) r (by omega) h
  ·simp at h; omega
theorem Ga.index (k : Nat) (A0 : Option Addr) (c0 : Nat) (l0 : List (S57)) (r : Int) (w : World) (hr0 : Kd.C k57 w A0 l0.length l0) (h : Ga.ix k l0 0 = some r) :
  Calls Tryz.prog 99 #[.slice A0 l0.length c0, .func (.func 66) #[] #[]] w fun e w' => e = .returned (.int .i64 r) ∧ Below w.heap.size w w' := by
 have hu := Tryz.underlying57
 have HR0 := Aside0.mk hr0
 clear hr0
 have HB := Aside0.mk (Below.refl w.heap.size w)
 have H' := Aside0.mk h
 clear h
 go_enter Tryz.func99, Tryz.ntmps99
 go_wp2
 go_loopg [5, 8] l0.length (fun kq _ v8 w' => ∃ j : Nat, v8 = .int .i64 (j : Int) ∧ Aside0 (Ga.ix k (l0.drop j) (j : Int) = some r) ∧ Aside0 (l0.length - j ≤ kq) ∧ Aside0 (Below w.heap.size w w'))
 case atStart => exact ⟨0, rfl, H', ⟨by omega⟩, HB⟩
 case round =>
  clear H'
  obtain ⟨j, rfl, HA, HK, HB⟩ := hrel
  by_cases c1 : (j : Int) < (l0.length : Int)
  rotate_left
  ·have c1b0 := decide_eq_false c1
   have c1b1 : decide (j < l0.length) = false := decide_eq_false (by omega)
   have H := HA.out
   rw [List.drop_of_length_le (by omega)] at H
   simp only [Ga.ix] at H
   obtain rfl := Option.some.inj H
   clear c1
   go_wp2
   go_ret
   exact ⟨rfl, HB.out⟩
  have c1b0 := decide_eq_true c1
  have c1b1 : decide (j < l0.length) = true := decide_eq_true (by omega)
  have H := HA.out
  clear HA
  have hj : j < l0.length := by omega
  have p1 : 0 ≤ (j : Int) := by omega
  obtain ⟨ad1, B1, b1, B2, b2, e1, hx1_0, hx1_1, hx1_2, hx1_3, hx1_4, l1, g1, l2, g2⟩ := at_T57 HR0.out (j : Int) p1 c1
  cases e1
  replace hx1_0 := HXz HB hx1_0
  replace hx1_1 := HXz HB hx1_1
  replace hx1_2 := HXz HB hx1_2
  replace hx1_3 := HXz HB hx1_3
  replace hx1_4 := HXz HB hx1_4
  simp only [Int.toNat_natCast] at hx1_0 hx1_1 hx1_2 hx1_3 hx1_4
  have G1 := Aside0.mk g1
  have G2 := Aside0.mk g2
  have L1 := Aside0.mk l1
  have L2 := Aside0.mk l2
  clear g1 g2 l1 l2
  have hel : l0.drop j = rd_T57 l0 (j : Int) :: l0.drop (j + 1) := by
   rw [List.drop_eq_getElem_cons hj]
   congr 1
   unfold rd_T57
   rw [List.getD_eq_getElem?_getD, show (j : Int).toNat = j from rfl, List.getElem?_eq_getElem hj]; rfl
  rw [hel] at H
  simp only [Ga.ix] at H
  obtain ⟨b, Ab0, H⟩ := Option.bind_eq_some_iff.1 H
  have Ab := Aside0.mk Ab0
  clear Ab0 hel
  have c1i := eq_true c1
  cases b with
  | false =>
   simp only [Bool.false_eq_true, if_false] at H
   have HN := Aside0.mk H
   clear H
   have HJ := Aside0.mk hj
   clear hj c1
   go_wp2_with (go_at_call 66; refine (Gb.calls k _ _ _ _ _ _ _ _ _ false _ ?s1 L1.out ?s2 L2.out Ab.out).mono ?_; (case s1 => exact KCz (Kd.C_below G1.out HB.out)); (case s2 => exact KCz (Kd.C_below G2.out HB.out)); rintro e w5 ⟨rfl, hb⟩; have n0_ := Aside0.mk (below_step HB.out hb); clear HB; have HB := n0_; clear n0_ hb)
   go_roundg (l0.length - (j + 1))
   case measure => have := HK.out; have := HJ.out; omega
   case rel => exact ⟨j + 1, by have hb := HR0.out.2.1; have := HJ.out; first | rfl | go_num | (congr 1; unfold wrap64; omega), by have h2 := HN.out; rw [show (j : Int) + 1 = ((j + 1 : Nat) : Int) by omega] at h2; exact ⟨h2⟩, ⟨Nat.le_refl _⟩, HB⟩
  | true =>
   simp only [if_true] at H
   obtain rfl := Option.some.inj H
   clear hj c1
   go_wp2_with (go_at_call 66; refine (Gb.calls k _ _ _ _ _ _ _ _ _ true _ ?s1 L1.out ?s2 L2.out Ab.out).mono ?_; (case s1 => exact KCz (Kd.C_below G1.out HB.out)); (case s2 => exact KCz (Kd.C_below G2.out HB.out)); rintro e w5 ⟨rfl, hb⟩; have n0_ := Aside0.mk (below_step HB.out hb); clear HB; have HB := n0_; clear n0_ hb)
   go_ret
   exact ⟨rfl, HB.out⟩
theorem Ga.contains (k : Nat) (A0 : Option Addr) (c0 : Nat) (l0 : List (S57)) (r : Int) (w : World) (hr0 : Kd.C k57 w A0 l0.length l0) (h : Ga.ix k l0 0 = some r) :
  Calls Tryz.prog 65 #[.slice A0 l0.length c0, .func (.func 66) #[] #[]] w fun e w' => e = .returned (.bool (decide (0 ≤ r))) ∧ Below w.heap.size w w' := by
 have hc := Ga.index k A0 c0 l0 r w hr0 h
 clear hr0 h
 go_enter Tryz.func65, Tryz.ntmps65
 go_wp2_with (go_at_call 99; refine hc.mono ?_; rintro e w' ⟨rfl, hb⟩)
 go_ret
 exact ⟨rfl, hb⟩
theorem Ga.calls (k : Nat) (A0 : Option Addr) (c0 : Nat) (l0 : List (S57)) (r : Bool) (w : World) (hr0 : Kd.C k57 w A0 l0.length l0) (hc0 : l0.length ≤ c0) (h : Ga.f k l0 = some r) :
  Calls Tryz.prog 29 #[.slice A0 l0.length c0] w fun e w' => e = .returned (.bool r) ∧ Below w.heap.size w w' := by
 unfold Ga.f at h
 by_cases c : (l0.length : Int) ≤ 10
 ·rw [if_pos c] at h
  obtain ⟨t, At, h⟩ := Option.bind_eq_some_iff.1 h
  obtain rfl := Option.some.inj h
  have cb0 : decide ((l0.length : Int) ≤ 10) = true := decide_eq_true c
  have cb1 : decide (l0.length ≤ 10) = true := decide_eq_true (by omega)
  have hc := Ga.contains k A0 c0 l0 t w hr0 At
  clear c hr0 hc0 At h
  go_enter Tryz.func29, Tryz.ntmps29
  go_wp2_with (go_at_call 65; refine hc.mono ?_; rintro e w' ⟨rfl, hb⟩)
  go_ret
  exact ⟨rfl, hb⟩
 rw [if_neg c] at h
 obtain rfl := Option.some.inj h
 have cb0 : decide ((l0.length : Int) ≤ 10) = false := decide_eq_false c
 have cb1 : decide (l0.length ≤ 10) = false := decide_eq_false (by omega)
 clear c hr0 hc0 h
 go_enter Tryz.func29, Tryz.ntmps29
 go_wp2
 go_ret
 exact ⟨rfl, Below.refl _ _⟩
def Gv.l0 : Nat → List ByteArray → Int → Int → Option (Bool)
 | 0, _, _, _ => none
 | k + 1, x5, x6, x7 => if x7 < x6 then (if 0 ≤ x7 then (if x7 < (x5.length : Int) then (if ((rdOf ByteArray.empty x5 x7).size : Int) > 8000 then (some true) else (Gv.l0 k x5 x6 (wrap64 (x7 + 1)))) else (none)) else (none)) else (some false)
def Gv.f (k : Nat) (l0 : List ByteArray) : Option (Bool) := Gv.l0 k l0 (l0.length : Int) 0
theorem Gv.mono_l : ∀ k, (∀ y0 y1 y2, LeO (Gv.l0 k y0 y1 y2) (Gv.l0 (k + 1) y0 y1 y2))
 | 0 => fun _ _ _ r h => by simp [Gv.l0] at h
 | k + 1 => by
  have ih0 := Gv.mono_l k
  ·intro y0 y1 y2
   unfold Gv.l0
   with_reducible repeat' first | exact ih0 _ _ _ | exact LeO.refl _ | exact LeO.none _ | refine LeO.ite ?_ ?_ | refine LeO.bind ?_ (fun _ => ?_)
theorem Gv.mono : ∀ a0 k, LeO (Gv.f k a0) (Gv.f (k + 1) a0) := by
 intro a0 k
 have ih0 := Gv.mono_l k
 unfold Gv.f
 with_reducible repeat' first | exact ih0 _ _ _ | exact LeO.refl _ | exact LeO.none _ | refine LeO.ite ?_ ?_ | refine LeO.bind ?_ (fun _ => ?_)
theorem Gv.calls (k : Nat) (A0 : Option Addr) (c0 : Nat) (l0 : List ByteArray) (r : Bool) (w : World) (hr0 : Kd.C Kd.string w A0 l0.length l0) (hc0 : l0.length ≤ c0) (h : Gv.f k l0 = some r) :
  Calls Tryz.prog 43 #[.slice A0 l0.length c0] w fun e w' => e = .returned (.bool r) ∧ Drawn0 w w' := by
 have HR0 := Aside0.mk hr0
 have HC0 := Aside0.mk hc0
 clear hr0 hc0
 have H : (Gv.l0 k l0 (l0.length : Int) 0) = some r := h
 clear h
 have H' := Aside0.mk H
 clear H
 go_enter Tryz.func43, Tryz.ntmps43
 go_wp2
 go_loopg [7] k (fun kq v7 w' => ∃ (x7_1 : Int), v7 = .int .i64 x7_1 ∧ Aside0 (Gv.l0 kq l0 (l0.length : Int) x7_1 = some r) ∧ Aside0 (kq ≤ k) ∧ Drawn0 w w')
 case atStart => exact ⟨(0), EZc, H', ⟨Nat.le_refl _⟩, DRz⟩
 case round =>
  clear H'
  obtain ⟨x7_1, rfl, HA, HK1, ⟨m1, rfl⟩⟩ := hrel
  cases gk with
  | zero => exact absurd HA.out (by simp [Gv.l0])
  | succ k1 =>
   have H := HA.out
   clear HA
   simp only [Gv.l0] at H
   by_cases c2 : x7_1 < (l0.length : Int)
   rotate_left
   ·rw [if_neg c2] at H
    have c2b0 := decide_eq_false c2
    clear c2
    obtain rfl := Option.some.inj H
    clear H
    go_wp2
    go_ret
    exact ⟨EZb, DRz⟩
   rw [if_pos c2] at H
   have c2b0 := decide_eq_true c2
   clear c2
   by_cases c3 : 0 ≤ x7_1
   rotate_left
   ·rw [if_neg c3] at H
    exact absurd H (by simp)
   rw [if_pos c3] at H
   have c3b0 := decide_eq_true c3
   clear c3
   by_cases c4 : x7_1 < (l0.length : Int)
   rotate_left
   ·rw [if_neg c4] at H
    exact absurd H (by simp)
   rw [if_pos c4] at H
   have c4b0 := decide_eq_true c4
   clear c4
   by_cases c5 : ((rdOf ByteArray.empty l0 x7_1).size : Int) > 8000
   ·rw [if_pos c5] at H
    have c5b0 : decide (8000 < ((rdOf ByteArray.empty l0 x7_1).size : Int)) = true := decide_eq_true c5
    have c5b1 : decide (8000 < (rdOf ByteArray.empty l0 x7_1).size) = true := decide_eq_true (by omega)
    clear c5
    obtain rfl := Option.some.inj H
    clear H
    have p230 : 0 ≤ (x7_1 : Int) := ODz
    have q230 : x7_1 < (l0.length : Int) := ODz
    obtain ⟨ad230, e230, hx230_0⟩ := Kd.at_string HR0.out x7_1 p230 q230
    cases e230
    replace p230 := eq_true p230
    replace q230 := eq_true q230
    go_wp2
    go_ret
    exact ⟨EZb, DRz⟩
   rw [if_neg c5] at H
   have c5b0 : decide (8000 < ((rdOf ByteArray.empty l0 x7_1).size : Int)) = false := decide_eq_false c5
   have c5b1 : decide (8000 < (rdOf ByteArray.empty l0 x7_1).size) = false := decide_eq_false (by omega)
   clear c5
   have H' := Aside0.mk H
   clear H
   have p230 : 0 ≤ (x7_1 : Int) := ODz
   have q230 : x7_1 < (l0.length : Int) := ODz
   obtain ⟨ad230, e230, hx230_0⟩ := Kd.at_string HR0.out x7_1 p230 q230
   cases e230
   replace p230 := eq_true p230
   replace q230 := eq_true q230
   go_wp2
   go_roundg k1
   case measure => have := HK1.out; omega
   case rel => exact ⟨(wrap64 (x7_1 + 1)), EZc, H', ⟨by have := HK1.out; omega⟩, DRz⟩
section
open Go.Shelf
attribute [local go_sem] Oper.semAt_some
theorem Gr.round_any {P : Program} {ops : Array Oper} {Q : Exit → Act → World → Prop} {md : Region.Mode} {l n : Nat} (hnd : ∀ (i : Nat) (o : Oper), ops[i]? = some o → ∀ c, o.op ≠ .defer c) (hL : ¬ LetsOut Q) :
  ∀ (fuel : Nat) (listed : Array Bool) (a : Act) (w : World), wpAny P md ops Q fuel listed a w → wpAnyIn (Fence.wide.inRound l) n P md ops Q fuel listed a w
 | 0, _, _, _, h => h
 | fuel + 1, listed, a, w, h => by
  refine ⟨h.1, fun i hi => ?_⟩
  have h2 := h.2 i hi
  have ih := fun l' a' w' => Gr.round_any (P := P) (md := md) (n := n) (l := l) hnd hL fuel l' a' w'
  unfold wpOp at h2
  unfold wpOpIn
  cases ho : ops[i]? with
  | none => rw [ho] at h2; exact ih _ _ _ h2
  | some o =>
   rw [ho] at h2
   simp only at h2 ⊢
   by_cases hw : Region.wanted o (yielded ops a.tmps) = true
   rotate_left
   ·rw [if_neg hw] at h2 ⊢
    exact ⟨fun _ _ => trivial, ih _ _ _ h2⟩
   rw [if_pos hw] at h2 ⊢
   rcases h2 with h2 | ⟨_, h2⟩
   ·refine ⟨fun _ _ => trivial, ?_⟩
    rw [show (Fence.wide.inRound l).round = some l from rfl, Oper.semAt_eq _ _ _ (hnd i o ho)]
    unfold Oper.wp at h2
    generalize (execOp a.eval o).run P w = r at h2 ⊢
    cases r with
    | ok x w' =>
     cases x <;> simp only [Oper.upon] at h2 <;> simp only [Oper.uponIn]
     case value => exact ih _ _ _ h2
     case skip => exact ih _ _ _ h2
     case defer => exact ih _ _ _ h2
     case enter =>
      refine ⟨fun h => (by cases h), ?_⟩
      refine CallsIn.inRound l ((callsIn_wide.2 h2).mono ?_)
      intro e w'' he
      cases e with
      | returned v => exact ih _ _ _ he
      | panicked c => exact he
      | outgrown => exact he
     case row =>
      refine ⟨fun h => (by cases h), ?_⟩
      intro c cs _
      obtain ⟨v, w'', hR, hs⟩ := h2 c cs
      exact ⟨v, w'', ih _ _ _ hR, stepsIn_wide.2 hs⟩
    | halt x w' =>
     cases x <;> simp only [Oper.upon] at h2 <;> simp only [Oper.uponIn]
     exact h2
   ·exact absurd h2 hL
theorem Gr.region_round {P : Program} {ops : Array Oper} {Q : Exit → Act → World → Prop} {id l n : Nat} {a : Act} {w : World} (hm : P.follows .mixedOrders = true) (hnd : (ops.all fun o => match o.op with | .defer _ => false | _ => true) = true) (hL : ¬ LetsOut Q)
  (h : wpAny P .any ops Q ops.size (Array.replicate ops.size false) a w.drew) : (Code.region id ops true).wpIn (Fence.wide.inRound l) n P Q a w :=
 wpIn_region_any hm (Gr.round_any (fun i o ho c e => by
  have h1 := (Array.all_eq_true_iff_forall_mem.1 hnd) o (Array.mem_of_getElem? ho)
  rw [e] at h1
  cases h1) hL _ _ _ _ h)
abbrev Gr.El (k : Nat) := { x : Int × S96 × ByteArray // Gk.f k x.2.1.f1 = some x.2.2 ∧ x.2.1.f0.size + x.2.2.size ≤ 4294967296 }
def Gr.keyStep (x a t : ByteArray) : ByteArray := x ++ ((((⟨#[1]⟩ : ByteArray) ++ a) ++ (⟨#[61]⟩ : ByteArray)) ++ t)
def Gr.go (k : Nat) : List S96 → ByteArray → Option ByteArray
 | [], x => some x
 | y :: ys, x => (Gk.f k y.f1).bind fun t => if y.f0.size + t.size ≤ 4294967296 then Gr.go k ys (Gr.keyStep x y.f0 t) else none
def Gr.f (k : Nat) (l0 : List S96) : Option ByteArray := if l0.length ≤ 1048576 then Gr.go k l0.reverse (⟨#[]⟩ : ByteArray) else none
theorem Gr.mono_go (k : Nat) : ∀ (l : List S96) (x : ByteArray), LeO (Gr.go k l x) (Gr.go (k + 1) l x)
 | [], _ => LeO.refl _
 | y :: ys, x => LeO.bind (Gk.mono _ _) (fun _ => LeO.ite (Gr.mono_go k ys _) (LeO.refl _))
theorem Gr.mono : ∀ a0 k, LeO (Gr.f k a0) (Gr.f (k + 1) a0) := fun a0 k => LeO.ite (Gr.mono_go k _ _) (LeO.refl _)
def Gr.keyAll {k : Nat} (es : List (Gr.El k)) : ByteArray := es.foldl (fun x e => Gr.keyStep x e.1.2.1.f0 e.1.2.2) (⟨#[]⟩ : ByteArray)
theorem Gr.keyAll_snoc {k : Nat} (es : List (Gr.El k)) (e : Gr.El k) : Gr.keyAll (es ++ [e]) = Gr.keyStep (Gr.keyAll es) e.1.2.1.f0 e.1.2.2 := by simp [Gr.keyAll]
theorem Gr.keyStep_size (x a t : ByteArray) : (Gr.keyStep x a t).size = x.size + (1 + a.size + 1 + t.size) := by
 unfold Gr.keyStep
 simp only [ByteArray.size_append]
 rfl
theorem Gr.keyAll_size {k : Nat} (es : List (Gr.El k)) : (Gr.keyAll es).size ≤ 4294967300 * es.length := by
 suffices h : ∀ (es : List (Gr.El k)) (x : ByteArray), (es.foldl (fun x e => Gr.keyStep x e.1.2.1.f0 e.1.2.2) x).size ≤ x.size + 4294967300 * es.length by
  have := h es (⟨#[]⟩ : ByteArray)
  unfold Gr.keyAll
  rw [show (⟨#[]⟩ : ByteArray).size = 0 from rfl] at this
  omega
 intro es
 induction es with
 | nil => intro x; simp
 | cons e es ih =>
  intro x
  have h1 := ih (Gr.keyStep x e.1.2.1.f0 e.1.2.2)
  rw [Gr.keyStep_size] at h1
  have h2 := e.2.2
  simp only [List.foldl_cons, List.length_cons]
  omega
theorem Gr.go_es (k : Nat) (r : ByteArray) : ∀ (l : List S96) (x : ByteArray) (n : Int), Gr.go k l x = some r →
  ∃ es : List (Gr.El k), es.length = l.length ∧ (∀ (j : Nat) (y : S96), l[j]? = some y → ∃ e : Gr.El k, es[j]? = some e ∧ e.1.1 = n - (j : Int) ∧ e.1.2.1 = y) ∧ r = es.foldl (fun x e => Gr.keyStep x e.1.2.1.f0 e.1.2.2) x
 | [], x, n, h => ⟨[], rfl, fun j y hj => by simp at hj, (Option.some.inj h).symm⟩
 | y :: ys, x, n, h => by
  obtain ⟨t, ht, h1⟩ := Option.bind_eq_some_iff.1 (show (Gk.f k y.f1).bind _ = some r from h)
  by_cases hc : y.f0.size + t.size ≤ 4294967296
  ·rw [if_pos hc] at h1
   obtain ⟨es, h2, h3, h4⟩ := Gr.go_es k r ys _ (n - 1) h1
   refine ⟨⟨(n, y, t), ht, hc⟩ :: es, by simp [h2], fun j z hj => ?_, h4⟩
   cases j with
   | zero =>
    obtain rfl : y = z := by simpa using hj
    exact ⟨_, rfl, by simp, rfl⟩
   | succ j =>
    obtain ⟨e, h5, h6, h7⟩ := h3 j z (by simpa using hj)
    exact ⟨e, by simpa using h5, by rw [h6]; omega, h7⟩
  ·rw [if_neg hc] at h1; cases h1
def Gr.encE {k : Nat} (x : Gr.El k) : Array Value := #[.int .i64 x.1.1, .agg #[.string x.1.2.1.f0, .string x.1.2.1.f1]]
def Gr.KpB (n₀ Bs : Nat) (sv : Value) (A B : World) : Prop := Below n₀ A B ∧ (Boxed A Bs 44 sv → Boxed B Bs 44 sv)
theorem Gr.kpB_t {n₀ Bs : Nat} {sv : Value} {A B C : World} (h : Gr.KpB n₀ Bs sv A B) (g : Gr.KpB n₀ Bs sv B C) : Gr.KpB n₀ Bs sv A C := ⟨h.1.trans g.1, fun x => g.2 (h.2 x)⟩
theorem Gr.kpB_b {n₀ Bs : Nat} {sv : Value} {w : World} (hn : n₀ ≤ w.heap.size) (W : World) (l : Nat) (o o' : Obj) (hl : w.heap.size ≤ l) (h : W.heap[l]? = some o) (hc : o.isCells = false) (hw : o.isWalk = false) : Gr.KpB n₀ Bs sv W (W.putObj l o') :=
 ⟨belowK_b hn W l o o' hl h hc hw, fun hb => hb.kept (grownBy_putObj' W l o') (fun e => by cases e; rw [show W.heap[Bs]? = _ from hb] at h; cases h; cases hc)⟩
theorem Gr.backward1_in (k n : Nat) (hn : 1 ≤ n) (l Bs : Nat) (A0 : Option Addr) (c0 : Nat) (l0 : List S96) (w0 : World) (hr0 : Kd.C k96 w0 A0 l0.length l0) (hlen : l0.length ≤ 1048576) (es : List (Gr.El k)) (hes : es.length = l0.length)
  (hee : ∀ (j : Nat) (y : S96), l0.reverse[j]? = some y → ∃ e : Gr.El k, es[j]? = some e ∧ e.1.1 = ((l0.length : Int) - 1) - (j : Int) ∧ e.1.2.1 = y) (J Jx : List (Gr.El k) → World → Prop)
  (hY : ∀ pre x W, J pre W → pre.length < l0.length → YieldAt Fence.wide (n - 1) Tryz.prog l (Gr.encE x) W fun e W' =>
   (e = .returned (.bool true) ∧ J (pre ++ [x]) W' ∧ Gr.KpB w0.heap.size Bs (.slice A0 l0.length c0) W W') ∨ (e = .returned (.bool false) ∧ Jx (pre ++ [x]) W'))
  (W : World) (hW0 : Below w0.heap.size w0 W) (hBs : Boxed W Bs 44 (.slice A0 l0.length c0)) (h0 : J [] W) :
  CallsIn Fence.wide n Tryz.prog 212 #[.func (.yield l) #[] #[], .pointer (some ⟨Bs, 0, none⟩)] W fun e W' => (∃ v, e = .returned v) ∧
   ((∃ ys, ys = es ∧ J ys W') ∨ (∃ pre, pre <+: es ∧ Jx pre W')) := by
 have hcs := hBs.cell
 refine callsIn_of_wp Tryz.func212 rfl trivial ?_ rfl
 simp only [Tryz.ntmps212, List.size_toArray, List.length_cons, List.length_nil, Nat.reduceAdd, Nat.reduceSub, Array.replicate_succ, Array.replicate_zero, List.push_toArray, List.append_toArray, List.nil_append, List.cons_append]
 gi_wp2
 gi_loopw [3] (fun i wr => ∃ q : Nat, q ≤ l0.length ∧ i = .int .i64 ((l0.length : Int) - 1 - (q : Int)) ∧ J (es.take q) wr ∧ Below w0.heap.size w0 wr ∧ Boxed wr Bs 44 (.slice A0 l0.length c0))
  (fun i _ => (intOf i + 1).toNat)
 case atStart => exact ⟨0, Nat.zero_le _, by first | rfl | (congr 1; simp; done) | (congr 1; unfold wrap64; omega), h0, hW0, hBs⟩
 case round =>
  obtain ⟨q, hq, rfl, hJs, hnx, hbx⟩ := hrel
  have hcb := hbx.cell
  by_cases hlt : q < l0.length
  rotate_left
  ·obtain rfl : q = l0.length := by omega
   gi_wp2
   go_end0
   exact ⟨⟨_, rfl⟩, .inl ⟨_, rfl, by rw [← hes, List.take_length] at hJs; exact hJs⟩⟩
  have hrev : l0.reverse[q]? = some (rd_T96 l0 ((l0.length : Int) - 1 - (q : Int))) := by
   rw [List.getElem?_reverse hlt]
   unfold rd_T96
   rw [show ((l0.length : Int) - 1 - (q : Int)).toNat = l0.length - 1 - q by omega, List.getD_eq_getElem?_getD, List.getElem?_eq_getElem (by omega)]
   rfl
  obtain ⟨e, he, hi, hy⟩ := hee q _ hrev
  obtain ⟨fn, tmps, assign, body, hyy, hR⟩ := hY (es.take q) e wr hJs (by rw [List.length_take]; omega)
  simp only [Gr.encE, hi, hy] at hyy
  have hp : 0 ≤ (l0.length : Int) - 1 - (q : Int) := by omega
  have hp2 : (l0.length : Int) - 1 - (q : Int) < (l0.length : Int) := by omega
  obtain ⟨ad, e1, hx0, hx1⟩ := at_T96 hr0 ((l0.length : Int) - 1 - (q : Int)) hp hp2
  cases e1
  replace hx0 := (hnx.cell (World.block_lt_of_cell? w0 _ hx0)).trans hx0
  replace hx1 := (hnx.cell (World.block_lt_of_cell? w0 _ hx1)).trans hx1
  rw [show ((l0.length : Int) - 1 - (q : Int)).toNat = l0.length - 1 - q by omega] at hx0 hx1
  have hpd := decide_eq_true hp
  have hp2d := decide_eq_true hp2
  gi_wp2
  refine hR.mono ?_
  rintro e' W3 (⟨rfl, hJ3, hk3⟩ | ⟨rfl, hJx3⟩)
  ·gi_wp2
   go_roundw
   case rel => exact ⟨q + 1, by omega, by first | rfl | (congr 1; omega) | (congr 1; unfold wrap64; omega), by rw [List.take_add_one, he]; exact hJ3, hnx.trans hk3.1, hk3.2 hbx⟩
   case measure => first | (simp [intOf]; omega) | (simp [intOf]; unfold wrap64; omega)
  ·gi_wp2
   refine bodyPost_ret (results_none rfl _ _ _) rfl ?_
   exact ⟨⟨_, rfl⟩, .inr ⟨_, ⟨es.drop (q + 1), by have h9 := List.take_append_drop (q + 1) es; rw [List.take_add_one, he] at h9; exact h9⟩, hJx3⟩⟩
theorem Gr.backward_in (n : Nat) (a : Option Addr) (len cap : Nat) (w : World) :
  CallsIn Fence.wide n Tryz.prog 196 #[.slice a len cap] w fun e w' => e = .returned (.func (.func 212) #[] #[.pointer (some ⟨w.heap.size, 0, none⟩)]) ∧ w' = w.alloc (.cells #[.slice a len cap] 44) := by
 refine callsIn_of_wp Tryz.func196 rfl trivial ?_ rfl
 simp only [Tryz.ntmps196, List.size_toArray, List.length_cons, List.length_nil, Nat.reduceAdd, Nat.reduceSub, Array.replicate_succ, Array.replicate_zero, List.push_toArray, List.append_toArray, List.nil_append, List.cons_append]
 gi_wp2
 go_ret
 exact ⟨rfl, rfl⟩
theorem Gr.backward_stops (k n : Nat) (hn : 1 ≤ n) (Bs : Nat) (A0 : Option Addr) (c0 : Nat) (l0 : List S96) (w0 : World) (hr0 : Kd.C k96 w0 A0 l0.length l0) (hlen : l0.length ≤ 1048576) (es : List (Gr.El k)) (hes : es.length = l0.length)
  (hee : ∀ (j : Nat) (y : S96), l0.reverse[j]? = some y → ∃ e : Gr.El k, es[j]? = some e ∧ e.1.1 = ((l0.length : Int) - 1) - (j : Int) ∧ e.1.2.1 = y) (w : World) (hB : Below w0.heap.size w0 w) (hc : Boxed w Bs 44 (.slice A0 l0.length c0)) :
  SeqStopsK Fence.wide n Tryz.prog 212 #[.pointer (some ⟨Bs, 0, none⟩)] (Gr.encE (k := k)) (Gr.KpB w0.heap.size Bs (.slice A0 l0.length c0)) (fun ys => ys = es) (fun pre => pre <+: es) l0.length w := fun l J Jx W hW _ _ hY h0 =>
 Gr.backward1_in k n hn l Bs A0 c0 l0 w0 hr0 hlen es hes hee J Jx hY W (hB.trans (hW.mono hB.size)) ((hW.block Bs hc.lt).trans hc) h0
theorem Gr.keepsFrom {W W' : World} (h : Below W.heap.size W W') (B : Nat) : KeepsFrom B W W' := ⟨h.size, fun k o _ h0 _ => (h.block k (Array.getElem?_eq_some_iff.1 h0).1).trans h0⟩
theorem Gr.calls (k : Nat) (A0 : Option Addr) (c0 : Nat) (l0 : List S96) (r : ByteArray) (w : World) (hr0 : Kd.C k96 w A0 l0.length l0) (hc0 : l0.length ≤ c0) (h : Gr.f k l0 = some r) :
  Calls Tryz.prog 168 #[.slice A0 l0.length c0] w fun e w' => e = .returned (.string r) ∧ Below w.heap.size w w' := by
 unfold Gr.f at h
 by_cases hlen : l0.length ≤ 1048576
 case neg => rw [if_neg hlen] at h; cases h
 rw [if_pos hlen] at h
 obtain ⟨es, hes, hee, hr⟩ := Gr.go_es k r _ _ ((l0.length : Int) - 1) h
 rw [List.length_reverse] at hes
 obtain rfl : r = Gr.keyAll es := hr
 clear h
 refine (callsIn_wide (n := 6)).1 ?_
 refine callsIn_of_wp_marks Tryz.func168 rfl trivial ?_ rfl
 simp only [Tryz.ntmps168, List.size_toArray, List.length_cons, List.length_nil, Nat.reduceAdd, Nat.reduceSub, Array.replicate_succ, Array.replicate_zero, List.push_toArray, List.append_toArray, List.nil_append, List.cons_append]
 gi_wp2_with (refine ⟨trivial, ?_⟩; gi_at_call 196; refine (Gr.backward_in 5 _ _ _ _).mono ?_; rintro e w' ⟨rfl, rfl⟩)
 have bO := (Boxed.new w 9 (.string (⟨#[]⟩ : ByteArray))).alloc (.cells #[.slice A0 l0.length c0] 44)
 have bS := Boxed.new (w.alloc (.cells #[.string (⟨#[]⟩ : ByteArray)] 9)) 44 (.slice A0 l0.length c0)
 simp only [World.size_alloc] at bS
 have hB0 : Below w.heap.size w ((w.alloc (.cells #[.string (⟨#[]⟩ : ByteArray)] 9)).alloc (.cells #[.slice A0 l0.length c0] 44)) := ((Below.refl _ w).alloc (Nat.le_refl _) _).alloc (by simp) _
 have hsz : ((w.alloc (.cells #[.string (⟨#[]⟩ : ByteArray)] 9)).alloc (.cells #[.slice A0 l0.length c0] 44)).heap.size = w.heap.size + 2 := by simp
 obtain ⟨W0, hW0⟩ : ∃ W0, (w.alloc (.cells #[.string (⟨#[]⟩ : ByteArray)] 9)).alloc (.cells #[.slice A0 l0.length c0] 44) = W0 := ⟨_, rfl⟩
 rw [hW0] at bO bS hB0 hsz ⊢
 clear hW0
 refine wpIn_rangeFunc_ownH rfl (by omega) (gf := 212) (lb := #[.pointer (some ⟨w.heap.size + 1, 0, none⟩)]) rfl trivial (enters_of Tryz.func212 (by kernel_rfl) rfl)
  (Gr.backward_stops k 5 (by omega) (w.heap.size + 1) A0 c0 l0 w hr0 hlen es hes hee W0 hB0 bS) Gr.kpB_t (Gr.kpB_b (by omega)) (Below.refl _ _) (fun _ => rfl)
  (fun pre W => (Boxed W w.heap.size 9 (.string (Gr.keyAll pre)) ∧ Boxed W (w.heap.size + 1) 44 (.slice A0 l0.length c0)) ∧ Below w.heap.size w W)
  (fun _ _ _ => False)
  (OwnFrom.and (OwnFrom.and (Own.from (boxed_own _ _ _) _) (Own.from (boxed_own _ _ _) _)) (ownFrom_below (Nat.le_refl _) (by omega)))
  (fun _ _ _ _ _ hs _ _ => hs)
  ⟨⟨bO, bS⟩, hB0⟩
  (fun x a' W => ∃ Bx, w.heap.size + 1 < Bx ∧ W.heap[Bx]? = some (.cells #[.string x.1.2.1.f0, .string x.1.2.1.f1] 96 (0, 0)) ∧ a' = { tmps := #[.slice A0 l0.length c0, undef, .string (⟨#[]⟩ : ByteArray), .pointer (some ⟨w.heap.size, 0, none⟩), undef, .pointer (some ⟨Bx, 0, none⟩), .slice A0 l0.length c0, .func (.func 212) #[] #[.pointer (some ⟨w.heap.size + 1, 0, none⟩)], .int .i64 x.1.1, .agg #[.string x.1.2.1.f0, .string x.1.2.1.f1], undef, undef, undef, undef, undef, undef, undef, undef, undef, undef, undef], defers := [] })
  (fun x a' _ X Y row hs hg hr => by
   obtain ⟨Bx, h1, h2, h3⟩ := hs
   exact ⟨Bx, h1, (hg.block Bx (Array.getElem?_eq_some_iff.1 h2).1 (fun e => by obtain ⟨_, o, ho, hc⟩ := hr Bx e.symm; rw [h2] at ho; cases ho; cases hc)).trans h2, h3⟩)
  ?assign ?body ?done ?stop
 case assign =>
  rintro l pre x W K ⟨⟨bO1, bS1⟩, hB1⟩ hK
  simp only [Gr.encE]
  gi_wp2
  have hBW := (Below.refl W.heap.size W).alloc (Nat.le_refl _) (.cells #[.string x.1.2.1.f0, .string x.1.2.1.f1] 96)
  exact hK _ _ (Gr.keepsFrom hBW _) ⟨hBW.mono hB1.size, fun hb => (hBW.block _ hb.lt).trans hb⟩ ⟨⟨(hBW.block _ bO1.lt).trans bO1, (hBW.block _ bS1.lt).trans bS1⟩, hB1.trans (hBW.mono hB1.size)⟩
   ⟨W.heap.size, bS1.lt, World.alloc_heap_new W _, rfl⟩
 case body =>
  rintro l pre x a' W hl ⟨r, hr⟩ ⟨⟨bO1, bS1⟩, hB1⟩ ⟨Bx, hBx, bX, rfl⟩ hlt
  have hsO := Gr.keyAll_size pre
  have hx2 := x.2.2
  have hBR := Aside0.mk (Below.refl W.heap.size W)
  have hN := x.2.1
  have cO : W.drew.cell? ⟨w.heap.size, 0, none⟩ = some (.string (Gr.keyAll pre)) := bO1.cell
  have cX0 : W.drew.cell? ⟨Bx, 0, none⟩ = some (.string x.1.2.1.f0) := blk_cell (w := W.drew) bX 0
  have cX1 : W.drew.cell? ⟨Bx, 1, none⟩ = some (.string x.1.2.1.f1) := blk_cell (w := W.drew) bX 1
  have c1 : (9223372036854775807 < 1 + x.1.2.1.f0.size) = False := eq_false (by omega)
  have c2 : (9223372036854775807 < 1 + x.1.2.1.f0.size + 1) = False := eq_false (by omega)
  have c3 : (9223372036854775807 < 1 + x.1.2.1.f0.size + 1 + x.1.2.2.size) = False := eq_false (by omega)
  have c4 : (9223372036854775807 < (Gr.keyAll pre).size + (1 + x.1.2.1.f0.size + 1 + x.1.2.2.size)) = False := eq_false (by omega)
  refine wpIn_block ?_
  refine Gr.region_round (by kernel_rfl) (by kernel_rfl) (by rintro ⟨_, _, h⟩; exact h) ?_
  have hS : W.drew.cell? ⟨w.heap.size, 0, none⟩ = some (.string (Gr.keyAll pre)) ∧ W.drew.cell? ⟨Bx, 0, none⟩ = some (.string x.1.2.1.f0) ∧ W.drew.cell? ⟨Bx, 1, none⟩ = some (.string x.1.2.1.f1) := ⟨cO, cX0, cX1⟩
  refine wpAny_of_last (S := fun w' => w'.cell? ⟨w.heap.size, 0, none⟩ = some (.string (Gr.keyAll pre)) ∧ w'.cell? ⟨Bx, 0, none⟩ = some (.string x.1.2.1.f0) ∧ w'.cell? ⟨Bx, 1, none⟩ = some (.string x.1.2.1.f1)) (ds := [10]) _ _ _ _ ?_
  show wpAnyLast _ _ _ _ _ _ 11 (bz 11 0) _ _
  refine take_ (i := 0) (N := some 10) (v := ?_) (a' := ?_) (bz 11 1) rfl rfl (by kernel_rfl) (fun _ _ _ h => h) (Or.inl ⟨by rfl, ?_⟩) hS ?_ ?_
  rotate_left
  ·rintro w' ⟨s0, s1, s2⟩
   go_simp
   with_reducible rfl
  rotate_left
  ·simp only [PUz]
   rfl
  refine PYz 1 11 (bz 11 3) rfl rfl (by kernel_rfl) ?_
  refine take_ (i := 2) (N := some 12) (v := ?_) (a' := ?_) (bz 11 7) rfl rfl (by kernel_rfl) (fun _ _ _ h => h) (Or.inl ⟨by rfl, ?_⟩) hS ?_ ?_
  rotate_left
  ·rintro w' ⟨s0, s1, s2⟩
   go_simp
   with_reducible rfl
  rotate_left
  ·simp only [PUz]
   rfl
  refine PYz 3 13 (bz 11 15) rfl rfl (by kernel_rfl) ?_
  refine PYz 4 14 (bz 11 31) rfl rfl (by kernel_rfl) ?_
  refine PYz 5 15 (bz 11 63) rfl rfl (by kernel_rfl) ?_
  refine take_ (i := 6) (N := some 16) (v := ?_) (a' := ?_) (bz 11 127) rfl rfl (by kernel_rfl) (fun _ _ _ h => h) (Or.inl ⟨by rfl, ?_⟩) hS ?_ ?_
  rotate_left
  ·rintro w' ⟨s0, s1, s2⟩
   go_simp
   with_reducible rfl
  rotate_left
  ·simp only [PUz]
   rfl
  refine one_ (i := 7) (N := some 17) (bz 11 255) rfl rfl (by kernel_rfl) (by decide) (fun K hK => ?_)
  refine goes_ Tryz.func122 (by kernel_rfl) rfl #[.string x.1.2.1.f1] (by rfl) rfl rfl (by (try simp only [List.map_toArray, List.map_cons, List.map_nil]); first | done | rfl) ?_
  refine (Gk.calls k x.1.2.1.f1 x.1.2.2 _ hN).mono ?_
  rintro e w5 ⟨rfl, hb⟩
  refine ⟨_, rfl, ?_⟩
  have hb' : Below W.heap.size W w5 := (Below.refl W.heap.size W).drew.trans hb
  refine hK.out _ _ ⟨(hb.cell (p := ⟨w.heap.size, 0, none⟩) bO1.lt).trans cO, (hb.cell (p := ⟨Bx, 0, none⟩) (blk_lt bX)).trans cX0, (hb.cell (p := ⟨Bx, 1, none⟩) (blk_lt bX)).trans cX1⟩ (fun hS => ?_)
  clear hK K
  refine norm_ (a' := ?_) ?_ ?_
  rotate_left
  ·show Act.put _ (some 17) _ = _
   simp only [PUz]
   rfl
  refine PYz 8 18 (bz 11 511) rfl rfl (by kernel_rfl) ?_
  refine PYz 9 19 (bz 11 1023) rfl rfl (by kernel_rfl) ?_
  have bO5 : Boxed w5 w.heap.size 9 (.string (Gr.keyAll pre)) := (hb.block _ bO1.lt).trans bO1
  have hs29 := bO5.cell
  have hfs29 := bO5.frozen
  refine last_ (i := 10) (N := none) (bz 11 2047) rfl rfl (by kernel_rfl) (by decide) (fun K hK => ?_)
  refine skip_ (w1 := ?_) (by rfl) rfl ?_ ?_
  rotate_left
  ·go_simp
   rfl
  refine hK.out _ _ ?_
  clear hK K
  refine done_ (by kernel_rfl) ?_
  have hK5 : KeepsFrom W0.heap.size W w5 := Gr.keepsFrom hb' _
  have hBw := hb'.mono hB1.size
  have bS5 : Boxed w5 (w.heap.size + 1) 44 (.slice A0 l0.length c0) := (hb'.block _ bS1.lt).trans bS1
  have hks : Gr.keyAll (pre ++ [x]) = Gr.keyAll pre ++ ((((⟨#[1]⟩ : ByteArray) ++ x.1.2.1.f0) ++ (⟨#[61]⟩ : ByteArray)) ++ x.1.2.2) := Gr.keyAll_snoc pre x
  rw [← hks]
  have hset := hBw.setCell (p := ⟨w.heap.size, 0, none⟩) (Nat.le_refl _) (.string (Gr.keyAll (pre ++ [x])))
  exact ⟨hK5.trans ((KeepsOthers.setCell _ _ _).from _), ⟨hset, fun hx => Boxed.other ((hb'.block _ hx.lt).trans hx) (by omega) _⟩, ⟨bO5.set _, bS5.other (by omega) _⟩, hB1.trans hset⟩
 case done =>
  rintro D zs W hD rfl ⟨⟨bO1, bS1⟩, hB1⟩ hK
  have cS := bO1.cell
  gi_wp2
  refine ⟨by simp, .inl ⟨_, _, rfl, run_takeDeferred hK, ?_⟩⟩
  exact ⟨_, results_tmp rfl _ _ _, rfl, hB1.trans (belowK_b (w := w) (Nat.le_refl _) W D _ _ (by omega) hK rfl rfl)⟩
 case stop =>
  rintro D c pre W _ _ h _
  exact h.elim
end
end Go.Proofs.YtmkeigielncpjaaGreatDoor.PFnAcl
