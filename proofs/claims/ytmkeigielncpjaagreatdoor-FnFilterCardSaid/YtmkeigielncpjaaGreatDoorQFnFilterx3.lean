-- Laid by this session's own program out of the translation; Lean checks it.
import Derived.Test.YtmkeigielncpjaaGreatDoorQFnFilterx0
namespace Go.Proofs.YtmkeigielncpjaaGreatDoor.PFnFilter
open Go.RowKit Go.Proofs.YtmkeigielncpjaaGreatDoorW.PrintWords Go.Proofs.YtmkeigielncpjaaGreatDoorW.PrintLast Go.Proofs.YtmkeigielncpjaaGreatDoorW.PrintMore
attribute [local go_sem] max2_int min2_int max_two min_two max_three min_three max_four min_four   -- for this text's walks alone
set_option linter.unusedVariables false
set_option linter.unusedSimpArgs false
mutual
def Qa.j0 : Nat → ByteArray → Bool → Option (Bool)
 | 0, _, _ => none
 | k + 1, x0, x12 => if x12 = true then (some false) else (Qa.l0 k x0 0)
def Qa.l0 : Nat → ByteArray → Int → Option (Bool)
 | 0, _, _ => none
 | k + 1, x0, x3 => if x3 < (x0.size : Int) then (if 0 ≤ x3 then (if (bt x0 x3) ≥ 97 then (if ((bt x0 x3) ≤ 122) then (Qa.l0 k x0 (wrap64 (x3 + 1))) else (if x3 = 0 then (some false) else (if (bt x0 x3) ≥ 48 then (if ((bt x0 x3) ≤ 57) then (Qa.l0 k x0 (wrap64 (x3 + 1))) else (if (bt x0 x3) = 95 then (Qa.l0 k x0 (wrap64 (x3 + 1))) else (some false))) else (if (bt x0 x3) = 95 then (Qa.l0 k x0 (wrap64 (x3 + 1))) else (some false))))) else (if x3 = 0 then (some false) else (if (bt x0 x3) ≥ 48 then (if ((bt x0 x3) ≤ 57) then (Qa.l0 k x0 (wrap64 (x3 + 1))) else (if (bt x0 x3) = 95 then (Qa.l0 k x0 (wrap64 (x3 + 1))) else (some false))) else (if (bt x0 x3) = 95 then (Qa.l0 k x0 (wrap64 (x3 + 1))) else (some false))))) else (none)) else (some true)
end
def Qa.f (k : Nat) (a0 : ByteArray) : Option (Bool) := if (a0.size : Int) < 1 then (Qa.j0 k a0 true) else (Qa.j0 k a0 (decide ((a0.size : Int) > 20)))
theorem Qa.mono_l : ∀ k, (∀ y0 y1, LeO (Qa.j0 k y0 y1) (Qa.j0 (k + 1) y0 y1)) ∧ (∀ y0 y1, LeO (Qa.l0 k y0 y1) (Qa.l0 (k + 1) y0 y1))
 | 0 => ⟨fun _ _ r h => by simp [Qa.j0] at h, fun _ _ r h => by simp [Qa.l0] at h⟩
 | k + 1 => by
  obtain ⟨ih0, ih1⟩ := Qa.mono_l k
  refine ⟨?_, ?_⟩
  ·intro y0 y1
   unfold Qa.j0
   with_reducible repeat' first | exact ih0 _ _ | exact ih1 _ _ | exact LeO.refl _ | exact LeO.none _ | refine LeO.ite ?_ ?_ | refine LeO.bind ?_ (fun _ => ?_)
  ·intro y0 y1
   unfold Qa.l0
   with_reducible repeat' first | exact ih0 _ _ | exact ih1 _ _ | exact LeO.refl _ | exact LeO.none _ | refine LeO.ite ?_ ?_ | refine LeO.bind ?_ (fun _ => ?_)
theorem Qa.mono : ∀ a0 k, LeO (Qa.f k a0) (Qa.f (k + 1) a0) := by
 intro a0 k
 obtain ⟨ih0, ih1⟩ := Qa.mono_l k
 unfold Qa.f
 with_reducible repeat' first | exact ih0 _ _ | exact ih1 _ _ | exact LeO.refl _ | exact LeO.none _ | refine LeO.ite ?_ ?_ | refine LeO.bind ?_ (fun _ => ?_)
set_option maxHeartbeats 8000000 in
set_option maxRecDepth 100000 in
theorem Qa.calls (k : Nat) (a0 : ByteArray) (r : Bool) (w : World) (h : Qa.f k a0 = some r) :
  Calls Tryz.prog 36 #[.string a0] w fun e w' => e = .returned (.bool r) ∧ Drawn0 w w' := by
 have H : (if (a0.size : Int) < 1 then (Qa.j0 k a0 true) else (Qa.j0 k a0 (decide ((a0.size : Int) > 20)))) = some r := h
 clear h
 have HC2 := Aside0.mk H
 clear H
 go_enter Tryz.func36, Tryz.ntmps36
 go_upto_region 1 with (fail)
 go_cut [12] (fun v12 wc => ∃ (kq : Nat) (x12_1 : Bool), v12 = .bool x12_1 ∧ Aside0 (Qa.j0 kq a0 x12_1 = some r) ∧ Aside0 (kq ≤ k) ∧ Drawn0 w wc)
 case first =>
  have H := HC2.out
  clear HC2
  by_cases c3 : (a0.size : Int) < 1
  ·rw [if_pos c3] at H
   have c3b0 := decide_eq_true c3
   have c3b1 : decide (a0.size < 1) = true := decide_eq_true (by omega)
   clear c3
   (first | rw [c3b0] | rw [c3v0] | (simp only [i64_w, i32_w]; rw [c3b0]) | (simp only [i64_w, i32_w]; rw [c3v0]) | skip)
   have H' := Aside0.mk H
   clear H
   go_wp2
   go_meet
   case rel => exact ⟨_, (true), EZc, H', ⟨by first | omega | exact Nat.le_refl _⟩, DRz⟩
  rw [if_neg c3] at H
  have c3b0 := decide_eq_false c3
  have c3b1 : decide (a0.size < 1) = false := decide_eq_false (by omega)
  clear c3
  (first | rw [c3b0] | rw [c3v0] | (simp only [i64_w, i32_w]; rw [c3b0]) | (simp only [i64_w, i32_w]; rw [c3v0]) | skip)
  have H' := Aside0.mk H
  clear H
  go_wp2
  go_meet
  case rel => exact ⟨_, (decide ((a0.size : Int) > 20)), EZc, H', ⟨by first | omega | exact Nat.le_refl _⟩, DRz⟩
 case rest =>
  clear HC2
  obtain ⟨kq, x12_1, rfl, HA, HJ1, ⟨mc1, rfl⟩⟩ := hcut
  cases kq with
  | zero => exact absurd HA.out (by simp [Qa.j0])
  | succ kj1 =>
   have H := HA.out
   clear HA
   simp only [Qa.j0] at H
   by_cases c4 : x12_1 = true
   ·subst c4
    have H1 : (some false) = some r := by rw [if_pos rfl] at H; exact H
    clear H
    have H := H1
    clear H1
    obtain rfl := Option.some.inj H
    clear H
    go_wp2
    go_ret
    exact ⟨EZb, DRz⟩
   replace c4 := Bool.eq_false_iff.mpr c4
   subst c4
   have H1 : (Qa.l0 kj1 a0 0) = some r := by rw [if_neg (show ¬ (false = true) by decide)] at H; exact H
   clear H
   have H := H1
   clear H1
   have H' := Aside0.mk H
   clear H
   go_wp2
   go_loopg [3] kj1 (fun kq v3 w' => ∃ (x3_2 : Int), v3 = .int .i64 x3_2 ∧ Aside0 (Qa.l0 kq a0 x3_2 = some r) ∧ Aside0 (kq ≤ kj1) ∧ Drawn0 w w')
   case atStart => exact ⟨(0), EZc, H', ⟨Nat.le_refl _⟩, DRz⟩
   case round =>
    clear H'
    try clear c4
    obtain ⟨x3_2, rfl, HA, HK2, ⟨m2, rfl⟩⟩ := hrel
    cases gk with
    | zero => exact absurd HA.out (by simp [Qa.l0])
    | succ k2 =>
     have H := HA.out
     clear HA
     simp only [Qa.l0] at H
     by_cases c5 : x3_2 < (a0.size : Int)
     rotate_left
     ·rw [if_neg c5] at H
      have c5b0 := decide_eq_false c5
      clear c5
      obtain rfl := Option.some.inj H
      clear H
      go_wp2
      go_ret
      exact ⟨EZb, DRz⟩
     rw [if_pos c5] at H
     have c5b0 := decide_eq_true c5
     clear c5
     by_cases c6 : 0 ≤ x3_2
     rotate_left
     ·rw [if_neg c6] at H
      exact absurd H (by simp)
     rw [if_pos c6] at H
     have c6b0 := decide_eq_true c6
     clear c6
     by_cases c8 : (bt a0 x3_2) ≥ 97
     rotate_left
     ·rw [if_neg c8] at H
      have c8b0 : decide (97 ≤ (bt a0 x3_2)) = false := decide_eq_false c8
      clear c8
      by_cases c15 : x3_2 = 0
      ·rw [if_pos c15] at H
       obtain ⟨c15b0, c15b1⟩ := QTz c15
       clear c15
       obtain rfl := Option.some.inj H
       clear H
       have p7 : 0 ≤ (x3_2 : Int) := ODz
       have q7 : x3_2 < (a0.size : Int) := ODz
       have hx7 := bt_at a0 x3_2
       replace p7 := eq_true p7
       replace q7 := eq_true q7
       go_wp2
       go_ret
       exact ⟨EZb, DRz⟩
      rw [if_neg c15] at H
      obtain ⟨c15b0, c15b1⟩ := QFz c15
      by_cases c16 : (bt a0 x3_2) ≥ 48
      rotate_left
      ·rw [if_neg c16] at H
       have c16b0 : decide (48 ≤ (bt a0 x3_2)) = false := decide_eq_false c16
       clear c16
       by_cases c19 : (bt a0 x3_2) = 95
       ·rw [if_pos c19] at H
        obtain ⟨c19b0, c19b1⟩ := QTz c19
        clear c19
        have H' := Aside0.mk H
        clear H
        have p7 : 0 ≤ (x3_2 : Int) := ODz
        have q7 : x3_2 < (a0.size : Int) := ODz
        have hx7 := bt_at a0 x3_2
        replace p7 := eq_true p7
        replace q7 := eq_true q7
        go_wp2
        go_roundg k2
        case measure => have := HJ1.out; have := HK2.out; omega
        case rel => exact ⟨(wrap64 (x3_2 + 1)), EZc, H', ⟨by have := HJ1.out; have := HK2.out; omega⟩, DRz⟩
       rw [if_neg c19] at H
       obtain ⟨c19b0, c19b1⟩ := QFz c19
       obtain rfl := Option.some.inj H
       clear H
       have p7 : 0 ≤ (x3_2 : Int) := ODz
       have q7 : x3_2 < (a0.size : Int) := ODz
       have hx7 := bt_at a0 x3_2
       replace p7 := eq_true p7
       replace q7 := eq_true q7
       go_wp2
       go_ret
       exact ⟨EZb, DRz⟩
      rw [if_pos c16] at H
      have c16b0 : decide (48 ≤ (bt a0 x3_2)) = true := decide_eq_true c16
      clear c16
      by_cases c17 : ((bt a0 x3_2) ≤ 57)
      ·rw [if_pos c17] at H
       have c17b0 : decide ((bt a0 x3_2) ≤ 57) = true := decide_eq_true c17
       clear c17
       have H' := Aside0.mk H
       clear H
       have p7 : 0 ≤ (x3_2 : Int) := ODz
       have q7 : x3_2 < (a0.size : Int) := ODz
       have hx7 := bt_at a0 x3_2
       replace p7 := eq_true p7
       replace q7 := eq_true q7
       go_wp2
       go_roundg k2
       case measure => have := HJ1.out; have := HK2.out; omega
       case rel => exact ⟨(wrap64 (x3_2 + 1)), EZc, H', ⟨by have := HJ1.out; have := HK2.out; omega⟩, DRz⟩
      rw [if_neg c17] at H
      have c17b0 : decide ((bt a0 x3_2) ≤ 57) = false := decide_eq_false c17
      clear c17
      by_cases c18 : (bt a0 x3_2) = 95
      ·rw [if_pos c18] at H
       obtain ⟨c18b0, c18b1⟩ := QTz c18
       clear c18
       have H' := Aside0.mk H
       clear H
       have p7 : 0 ≤ (x3_2 : Int) := ODz
       have q7 : x3_2 < (a0.size : Int) := ODz
       have hx7 := bt_at a0 x3_2
       replace p7 := eq_true p7
       replace q7 := eq_true q7
       go_wp2
       go_roundg k2
       case measure => have := HJ1.out; have := HK2.out; omega
       case rel => exact ⟨(wrap64 (x3_2 + 1)), EZc, H', ⟨by have := HJ1.out; have := HK2.out; omega⟩, DRz⟩
      rw [if_neg c18] at H
      obtain ⟨c18b0, c18b1⟩ := QFz c18
      obtain rfl := Option.some.inj H
      clear H
      have p7 : 0 ≤ (x3_2 : Int) := ODz
      have q7 : x3_2 < (a0.size : Int) := ODz
      have hx7 := bt_at a0 x3_2
      replace p7 := eq_true p7
      replace q7 := eq_true q7
      go_wp2
      go_ret
      exact ⟨EZb, DRz⟩
     rw [if_pos c8] at H
     have c8b0 : decide (97 ≤ (bt a0 x3_2)) = true := decide_eq_true c8
     clear c8
     by_cases c9 : ((bt a0 x3_2) ≤ 122)
     ·rw [if_pos c9] at H
      have c9b0 : decide ((bt a0 x3_2) ≤ 122) = true := decide_eq_true c9
      clear c9
      have H' := Aside0.mk H
      clear H
      have p7 : 0 ≤ (x3_2 : Int) := ODz
      have q7 : x3_2 < (a0.size : Int) := ODz
      have hx7 := bt_at a0 x3_2
      replace p7 := eq_true p7
      replace q7 := eq_true q7
      go_wp2
      go_roundg k2
      case measure => have := HJ1.out; have := HK2.out; omega
      case rel => exact ⟨(wrap64 (x3_2 + 1)), EZc, H', ⟨by have := HJ1.out; have := HK2.out; omega⟩, DRz⟩
     rw [if_neg c9] at H
     have c9b0 : decide ((bt a0 x3_2) ≤ 122) = false := decide_eq_false c9
     clear c9
     by_cases c10 : x3_2 = 0
     ·rw [if_pos c10] at H
      obtain ⟨c10b0, c10b1⟩ := QTz c10
      clear c10
      obtain rfl := Option.some.inj H
      clear H
      have p7 : 0 ≤ (x3_2 : Int) := ODz
      have q7 : x3_2 < (a0.size : Int) := ODz
      have hx7 := bt_at a0 x3_2
      replace p7 := eq_true p7
      replace q7 := eq_true q7
      go_wp2
      go_ret
      exact ⟨EZb, DRz⟩
     rw [if_neg c10] at H
     obtain ⟨c10b0, c10b1⟩ := QFz c10
     by_cases c11 : (bt a0 x3_2) ≥ 48
     rotate_left
     ·rw [if_neg c11] at H
      have c11b0 : decide (48 ≤ (bt a0 x3_2)) = false := decide_eq_false c11
      clear c11
      by_cases c14 : (bt a0 x3_2) = 95
      ·rw [if_pos c14] at H
       obtain ⟨c14b0, c14b1⟩ := QTz c14
       clear c14
       have H' := Aside0.mk H
       clear H
       have p7 : 0 ≤ (x3_2 : Int) := ODz
       have q7 : x3_2 < (a0.size : Int) := ODz
       have hx7 := bt_at a0 x3_2
       replace p7 := eq_true p7
       replace q7 := eq_true q7
       go_wp2
       go_roundg k2
       case measure => have := HJ1.out; have := HK2.out; omega
       case rel => exact ⟨(wrap64 (x3_2 + 1)), EZc, H', ⟨by have := HJ1.out; have := HK2.out; omega⟩, DRz⟩
      rw [if_neg c14] at H
      obtain ⟨c14b0, c14b1⟩ := QFz c14
      obtain rfl := Option.some.inj H
      clear H
      have p7 : 0 ≤ (x3_2 : Int) := ODz
      have q7 : x3_2 < (a0.size : Int) := ODz
      have hx7 := bt_at a0 x3_2
      replace p7 := eq_true p7
      replace q7 := eq_true q7
      go_wp2
      go_ret
      exact ⟨EZb, DRz⟩
     rw [if_pos c11] at H
     have c11b0 : decide (48 ≤ (bt a0 x3_2)) = true := decide_eq_true c11
     clear c11
     by_cases c12 : ((bt a0 x3_2) ≤ 57)
     ·rw [if_pos c12] at H
      have c12b0 : decide ((bt a0 x3_2) ≤ 57) = true := decide_eq_true c12
      clear c12
      have H' := Aside0.mk H
      clear H
      have p7 : 0 ≤ (x3_2 : Int) := ODz
      have q7 : x3_2 < (a0.size : Int) := ODz
      have hx7 := bt_at a0 x3_2
      replace p7 := eq_true p7
      replace q7 := eq_true q7
      go_wp2
      go_roundg k2
      case measure => have := HJ1.out; have := HK2.out; omega
      case rel => exact ⟨(wrap64 (x3_2 + 1)), EZc, H', ⟨by have := HJ1.out; have := HK2.out; omega⟩, DRz⟩
     rw [if_neg c12] at H
     have c12b0 : decide ((bt a0 x3_2) ≤ 57) = false := decide_eq_false c12
     clear c12
     by_cases c13 : (bt a0 x3_2) = 95
     ·rw [if_pos c13] at H
      obtain ⟨c13b0, c13b1⟩ := QTz c13
      clear c13
      have H' := Aside0.mk H
      clear H
      have p7 : 0 ≤ (x3_2 : Int) := ODz
      have q7 : x3_2 < (a0.size : Int) := ODz
      have hx7 := bt_at a0 x3_2
      replace p7 := eq_true p7
      replace q7 := eq_true q7
      go_wp2
      go_roundg k2
      case measure => have := HJ1.out; have := HK2.out; omega
      case rel => exact ⟨(wrap64 (x3_2 + 1)), EZc, H', ⟨by have := HJ1.out; have := HK2.out; omega⟩, DRz⟩
     rw [if_neg c13] at H
     obtain ⟨c13b0, c13b1⟩ := QFz c13
     obtain rfl := Option.some.inj H
     clear H
     have p7 : 0 ≤ (x3_2 : Int) := ODz
     have q7 : x3_2 < (a0.size : Int) := ODz
     have hx7 := bt_at a0 x3_2
     replace p7 := eq_true p7
     replace q7 := eq_true q7
     go_wp2
     go_ret
     exact ⟨EZb, DRz⟩
def Qg.f (a0 : Int) (a1 : Int) (a2 : Int) : Option (Bool) := if a0 ≥ a1 then (some (decide (a0 ≤ a2))) else (some false)
set_option maxHeartbeats 8000000 in
set_option maxRecDepth 100000 in
theorem Qg.calls (a0 : Int) (a1 : Int) (a2 : Int) (r : Bool) (w : World) (h : Qg.f a0 a1 a2 = some r) :
  Calls Tryz.prog 63 #[.int .i64 a0, .int .i64 a1, .int .i64 a2] w fun e w' => e = .returned (.bool r) ∧ Drawn0 w w' := by
 have H : (if a0 ≥ a1 then (some (decide (a0 ≤ a2))) else (some false)) = some r := h
 clear h
 by_cases c4 : a0 ≥ a1
 ·rw [if_pos c4] at H
  have c4b0 : decide (a1 ≤ a0) = true := decide_eq_true c4
  clear c4
  obtain rfl := Option.some.inj H
  clear H
  go_enter Tryz.func63, Tryz.ntmps63
  go_wp2
  go_ret
  exact ⟨EZb, DRz⟩
 rw [if_neg c4] at H
 have c4b0 : decide (a1 ≤ a0) = false := decide_eq_false c4
 clear c4
 obtain rfl := Option.some.inj H
 clear H
 go_enter Tryz.func63, Tryz.ntmps63
 go_wp2
 go_ret
 exact ⟨EZb, DRz⟩
def Qh.l0 : Nat → ByteArray → Int → Option (Bool)
 | 0, _, _ => none
 | k + 1, x0, x3 => if x3 < (x0.size : Int) then (if 0 ≤ x3 then (if (bt x0 x3) < 32 then (some false) else (if (bt x0 x3) > 126 then (some false) else (Qh.l0 k x0 (wrap64 (x3 + 1))))) else (none)) else (some true)
def Qh.f (k : Nat) (a0 : ByteArray) : Option (Bool) := Qh.l0 k a0 0
theorem Qh.mono_l : ∀ k, (∀ y0 y1, LeO (Qh.l0 k y0 y1) (Qh.l0 (k + 1) y0 y1))
 | 0 => fun _ _ r h => by simp [Qh.l0] at h
 | k + 1 => by
  have ih0 := Qh.mono_l k
  ·intro y0 y1
   unfold Qh.l0
   with_reducible repeat' first | exact ih0 _ _ | exact LeO.refl _ | exact LeO.none _ | refine LeO.ite ?_ ?_ | refine LeO.bind ?_ (fun _ => ?_)
theorem Qh.mono : ∀ a0 k, LeO (Qh.f k a0) (Qh.f (k + 1) a0) := by
 intro a0 k
 have ih0 := Qh.mono_l k
 unfold Qh.f
 with_reducible repeat' first | exact ih0 _ _ | exact LeO.refl _ | exact LeO.none _ | refine LeO.ite ?_ ?_ | refine LeO.bind ?_ (fun _ => ?_)
set_option maxHeartbeats 8000000 in
set_option maxRecDepth 100000 in
theorem Qh.calls (k : Nat) (a0 : ByteArray) (r : Bool) (w : World) (h : Qh.f k a0 = some r) :
  Calls Tryz.prog 146 #[.string a0] w fun e w' => e = .returned (.bool r) ∧ Drawn0 w w' := by
 have H : (Qh.l0 k a0 0) = some r := h
 clear h
 have H' := Aside0.mk H
 clear H
 go_enter Tryz.func146, Tryz.ntmps146
 go_wp2
 go_loopg [3] k (fun kq v3 w' => ∃ (x3_1 : Int), v3 = .int .i64 x3_1 ∧ Aside0 (Qh.l0 kq a0 x3_1 = some r) ∧ Aside0 (kq ≤ k) ∧ Drawn0 w w')
 case atStart => exact ⟨(0), EZc, H', ⟨Nat.le_refl _⟩, DRz⟩
 case round =>
  clear H'
  obtain ⟨x3_1, rfl, HA, HK1, ⟨m1, rfl⟩⟩ := hrel
  cases gk with
  | zero => exact absurd HA.out (by simp [Qh.l0])
  | succ k1 =>
   have H := HA.out
   clear HA
   simp only [Qh.l0] at H
   by_cases c2 : x3_1 < (a0.size : Int)
   rotate_left
   ·rw [if_neg c2] at H
    have c2b0 := decide_eq_false c2
    clear c2
    obtain rfl := Option.some.inj H
    clear H
    go_wp2
    go_ret
    exact ⟨EZb, DRz⟩
   rw [if_pos c2] at H
   have c2b0 := decide_eq_true c2
   clear c2
   by_cases c3 : 0 ≤ x3_1
   rotate_left
   ·rw [if_neg c3] at H
    exact absurd H (by simp)
   rw [if_pos c3] at H
   have c3b0 := decide_eq_true c3
   clear c3
   by_cases c5 : (bt a0 x3_1) < 32
   ·rw [if_pos c5] at H
    have c5b0 := decide_eq_true c5
    clear c5
    obtain rfl := Option.some.inj H
    clear H
    have p4 : 0 ≤ (x3_1 : Int) := ODz
    have q4 : x3_1 < (a0.size : Int) := ODz
    have hx4 := bt_at a0 x3_1
    replace p4 := eq_true p4
    replace q4 := eq_true q4
    go_wp2
    go_ret
    exact ⟨EZb, DRz⟩
   rw [if_neg c5] at H
   have c5b0 := decide_eq_false c5
   clear c5
   by_cases c7 : (bt a0 x3_1) > 126
   ·rw [if_pos c7] at H
    have c7b0 : decide (126 < (bt a0 x3_1)) = true := decide_eq_true c7
    clear c7
    obtain rfl := Option.some.inj H
    clear H
    have p4 : 0 ≤ (x3_1 : Int) := ODz
    have q4 : x3_1 < (a0.size : Int) := ODz
    have hx4 := bt_at a0 x3_1
    replace p4 := eq_true p4
    replace q4 := eq_true q4
    have p6 : 0 ≤ (x3_1 : Int) := ODz
    have q6 : x3_1 < (a0.size : Int) := ODz
    have hx6 := bt_at a0 x3_1
    replace p6 := eq_true p6
    replace q6 := eq_true q6
    go_wp2
    go_ret
    exact ⟨EZb, DRz⟩
   rw [if_neg c7] at H
   have c7b0 : decide (126 < (bt a0 x3_1)) = false := decide_eq_false c7
   clear c7
   have H' := Aside0.mk H
   clear H
   have p4 : 0 ≤ (x3_1 : Int) := ODz
   have q4 : x3_1 < (a0.size : Int) := ODz
   have hx4 := bt_at a0 x3_1
   replace p4 := eq_true p4
   replace q4 := eq_true q4
   have p6 : 0 ≤ (x3_1 : Int) := ODz
   have q6 : x3_1 < (a0.size : Int) := ODz
   have hx6 := bt_at a0 x3_1
   replace p6 := eq_true p6
   replace q6 := eq_true q6
   go_wp2
   go_roundg k1
   case measure => have := HK1.out; omega
   case rel => exact ⟨(wrap64 (x3_1 + 1)), EZc, H', ⟨by have := HK1.out; omega⟩, DRz⟩
end Go.Proofs.YtmkeigielncpjaaGreatDoor.PFnFilter
