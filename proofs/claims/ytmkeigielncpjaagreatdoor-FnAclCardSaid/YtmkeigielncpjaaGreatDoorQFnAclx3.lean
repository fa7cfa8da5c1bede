import Derived.Test.YtmkeigielncpjaaGreatDoorQFnAclx0
import Derived.Test.YtmkeigielncpjaaGreatDoorQFnAclx1
namespace Go.Proofs.YtmkeigielncpjaaGreatDoor.PFnAcl
open Go.RowKit Go.Proofs.YtmkeigielncpjaaGreatDoorW.PrintWords Go.Proofs.YtmkeigielncpjaaGreatDoorW.PrintLast Go.Proofs.YtmkeigielncpjaaGreatDoorW.PrintMore
set_option maxRecDepth 100000
set_option maxHeartbeats 16000000
attribute [local go_sem] max2_int min2_int max_two min_two max_three min_three max_four min_four
set_option linter.unusedVariables false
set_option linter.unusedSimpArgs false
mutual
def Qq.j0 : Nat → ByteArray → Bool → Option (Bool)
 | 0, _, _ => none
 | k + 1, x0, x12 => if x12 = true then (some false) else (Qq.l0 k x0 0)
def Qq.l0 : Nat → ByteArray → Int → Option (Bool)
 | 0, _, _ => none
 | k + 1, x0, x3 => if x3 < (x0.size : Int) then (if 0 ≤ x3 then (if (bt x0 x3) ≥ 97 then (if ((bt x0 x3) ≤ 122) then (Qq.l0 k x0 (wrap64 (x3 + 1))) else (if x3 = 0 then (some false) else (if (bt x0 x3) ≥ 48 then (if ((bt x0 x3) ≤ 57) then (Qq.l0 k x0 (wrap64 (x3 + 1))) else (if (bt x0 x3) = 95 then (Qq.l0 k x0 (wrap64 (x3 + 1))) else (some false))) else (if (bt x0 x3) = 95 then (Qq.l0 k x0 (wrap64 (x3 + 1))) else (some false))))) else (if x3 = 0 then (some false) else (if (bt x0 x3) ≥ 48 then (if ((bt x0 x3) ≤ 57) then (Qq.l0 k x0 (wrap64 (x3 + 1))) else (if (bt x0 x3) = 95 then (Qq.l0 k x0 (wrap64 (x3 + 1))) else (some false))) else (if (bt x0 x3) = 95 then (Qq.l0 k x0 (wrap64 (x3 + 1))) else (some false))))) else (none)) else (some true)
end
def Qq.f (k : Nat) (a0 : ByteArray) : Option (Bool) := if (a0.size : Int) < 1 then (Qq.j0 k a0 true) else (Qq.j0 k a0 (decide ((a0.size : Int) > 20)))
theorem Qq.mono_l : ∀ k, (∀ y0 y1, LeO (Qq.j0 k y0 y1) (Qq.j0 (k + 1) y0 y1)) ∧ (∀ y0 y1, LeO (Qq.l0 k y0 y1) (Qq.l0 (k + 1) y0 y1))
 | 0 => ⟨fun _ _ r h => by simp [Qq.j0] at h, fun _ _ r h => by simp [Qq.l0] at h⟩
 | k + 1 => by
  obtain ⟨ih0, ih1⟩ := Qq.mono_l k
  refine ⟨?_, ?_⟩
  ·intro y0 y1
   unfold Qq.j0
   with_reducible repeat' first | exact ih0 _ _ | exact ih1 _ _ | exact LeO.refl _ | exact LeO.none _ | refine LeO.ite ?_ ?_ | refine LeO.bind ?_ (fun _ => ?_)
  ·intro y0 y1
   unfold Qq.l0
   with_reducible repeat' first | exact ih0 _ _ | exact ih1 _ _ | exact LeO.refl _ | exact LeO.none _ | refine LeO.ite ?_ ?_ | refine LeO.bind ?_ (fun _ => ?_)
theorem Qq.mono : ∀ a0 k, LeO (Qq.f k a0) (Qq.f (k + 1) a0) := by
 intro a0 k
 obtain ⟨ih0, ih1⟩ := Qq.mono_l k
 unfold Qq.f
 with_reducible repeat' first | exact ih0 _ _ | exact ih1 _ _ | exact LeO.refl _ | exact LeO.none _ | refine LeO.ite ?_ ?_ | refine LeO.bind ?_ (fun _ => ?_)
theorem Qq.calls (k : Nat) (a0 : ByteArray) (r : Bool) (w : World) (h : Qq.f k a0 = some r) :
  Calls Tryz.prog 36 #[.string a0] w fun e w' => e = .returned (.bool r) ∧ Drawn0 w w' := by
 have H : (if (a0.size : Int) < 1 then (Qq.j0 k a0 true) else (Qq.j0 k a0 (decide ((a0.size : Int) > 20)))) = some r := h
 clear h
 have HC2 := Aside0.mk H
 clear H
 go_enter Tryz.func36, Tryz.ntmps36
 go_upto_region 1 with (fail)
 go_cut [12] (fun v12 wc => ∃ (kq : Nat) (x12_1 : Bool), v12 = .bool x12_1 ∧ Aside0 (Qq.j0 kq a0 x12_1 = some r) ∧ Aside0 (kq ≤ k) ∧ Drawn0 w wc)
 case first =>
  have H := HC2.out
  clear HC2
  by_cases c3 : (a0.size : Int) < 1
  ·rw [if_pos c3] at H
   have c3b0 := decide_eq_true c3
   have c3b1 : decide (a0.size < 1) = true := decide_eq_true (by omega)
   clear c3
   (first | rw [c3b0] | rw [c3v0] | (simp only [i64_w, i32_w]; rw [c3b0]) | (simp only [i64_w, i32_w]; rw [c3v0]) | skip)
   have H' := Aside0.mk H
   clear H
   go_wp2
   go_meet
   case rel => exact ⟨_, (true), EZc, H', ⟨by first | omega | exact Nat.le_refl _⟩, DRz⟩
  rw [if_neg c3] at H
  have c3b0 := decide_eq_false c3
  have c3b1 : decide (a0.size < 1) = false := decide_eq_false (by omega)
  clear c3
  (first | rw [c3b0] | rw [c3v0] | (simp only [i64_w, i32_w]; rw [c3b0]) | (simp only [i64_w, i32_w]; rw [c3v0]) | skip)
  have H' := Aside0.mk H
  clear H
  go_wp2
  go_meet
  case rel => exact ⟨_, (decide ((a0.size : Int) > 20)), EZc, H', ⟨by first | omega | exact Nat.le_refl _⟩, DRz⟩
 case rest =>
  clear HC2
  obtain ⟨kq, x12_1, rfl, HA, HJ1, ⟨mc1, rfl⟩⟩ := hcut
  cases kq with
  | zero => exact absurd HA.out (by simp [Qq.j0])
  | succ kj1 =>
   have H := HA.out
   clear HA
   simp only [Qq.j0] at H
   by_cases c4 : x12_1 = true
   ·subst c4
    have H1 : (some false) = some r := by rw [if_pos rfl] at H; exact H
    clear H
    have H := H1
    clear H1
    obtain rfl := Option.some.inj H
    clear H
    go_wp2
    go_ret
    exact ⟨EZb, DRz⟩
   replace c4 := Bool.eq_false_iff.mpr c4
   subst c4
   have H1 : (Qq.l0 kj1 a0 0) = some r := by rw [if_neg (show ¬ (false = true) by decide)] at H; exact H
   clear H
   have H := H1
   clear H1
   have H' := Aside0.mk H
   clear H
   go_wp2
   go_loopg [3] kj1 (fun kq v3 w' => ∃ (x3_2 : Int), v3 = .int .i64 x3_2 ∧ Aside0 (Qq.l0 kq a0 x3_2 = some r) ∧ Aside0 (kq ≤ kj1) ∧ Drawn0 w w')
   case atStart => exact ⟨(0), EZc, H', ⟨Nat.le_refl _⟩, DRz⟩
   case round =>
    clear H'
    try clear c4
    obtain ⟨x3_2, rfl, HA, HK2, ⟨m2, rfl⟩⟩ := hrel
    cases gk with
    | zero => exact absurd HA.out (by simp [Qq.l0])
    | succ k2 =>
     have H := HA.out
     clear HA
     simp only [Qq.l0] at H
     by_cases c5 : x3_2 < (a0.size : Int)
     rotate_left
     ·rw [if_neg c5] at H
      have c5b0 := decide_eq_false c5
      clear c5
      obtain rfl := Option.some.inj H
      clear H
      go_wp2
      go_ret
      exact ⟨EZb, DRz⟩
     rw [if_pos c5] at H
     have c5b0 := decide_eq_true c5
     clear c5
     by_cases c6 : 0 ≤ x3_2
     rotate_left
     ·rw [if_neg c6] at H
      exact absurd H (by simp)
     rw [if_pos c6] at H
     have c6b0 := decide_eq_true c6
     clear c6
     by_cases c8 : (bt a0 x3_2) ≥ 97
     rotate_left
     ·rw [if_neg c8] at H
      have c8b0 : decide (97 ≤ (bt a0 x3_2)) = false := decide_eq_false c8
      clear c8
      by_cases c15 : x3_2 = 0
      ·rw [if_pos c15] at H
       obtain ⟨c15b0, c15b1⟩ := QTz c15
       clear c15
       obtain rfl := Option.some.inj H
       clear H
       have p7 : 0 ≤ (x3_2 : Int) := ODz
       have q7 : x3_2 < (a0.size : Int) := ODz
       have hx7 := bt_at a0 x3_2
       replace p7 := eq_true p7
       replace q7 := eq_true q7
       go_wp2
       go_ret
       exact ⟨EZb, DRz⟩
      rw [if_neg c15] at H
      obtain ⟨c15b0, c15b1⟩ := QFz c15
      by_cases c16 : (bt a0 x3_2) ≥ 48
      rotate_left
      ·rw [if_neg c16] at H
       have c16b0 : decide (48 ≤ (bt a0 x3_2)) = false := decide_eq_false c16
       clear c16
       by_cases c19 : (bt a0 x3_2) = 95
       ·rw [if_pos c19] at H
        obtain ⟨c19b0, c19b1⟩ := QTz c19
        clear c19
        have H' := Aside0.mk H
        clear H
        have p7 : 0 ≤ (x3_2 : Int) := ODz
        have q7 : x3_2 < (a0.size : Int) := ODz
        have hx7 := bt_at a0 x3_2
        replace p7 := eq_true p7
        replace q7 := eq_true q7
        go_wp2
        go_roundg k2
        case measure => have := HJ1.out; have := HK2.out; omega
        case rel => exact ⟨(wrap64 (x3_2 + 1)), EZc, H', ⟨by have := HJ1.out; have := HK2.out; omega⟩, DRz⟩
       rw [if_neg c19] at H
       obtain ⟨c19b0, c19b1⟩ := QFz c19
       obtain rfl := Option.some.inj H
       clear H
       have p7 : 0 ≤ (x3_2 : Int) := ODz
       have q7 : x3_2 < (a0.size : Int) := ODz
       have hx7 := bt_at a0 x3_2
       replace p7 := eq_true p7
       replace q7 := eq_true q7
       go_wp2
       go_ret
       exact ⟨EZb, DRz⟩
      rw [if_pos c16] at H
      have c16b0 : decide (48 ≤ (bt a0 x3_2)) = true := decide_eq_true c16
      clear c16
      by_cases c17 : ((bt a0 x3_2) ≤ 57)
      ·rw [if_pos c17] at H
       have c17b0 : decide ((bt a0 x3_2) ≤ 57) = true := decide_eq_true c17
       clear c17
       have H' := Aside0.mk H
       clear H
       have p7 : 0 ≤ (x3_2 : Int) := ODz
       have q7 : x3_2 < (a0.size : Int) := ODz
       have hx7 := bt_at a0 x3_2
       replace p7 := eq_true p7
       replace q7 := eq_true q7
       go_wp2
       go_roundg k2
       case measure => have := HJ1.out; have := HK2.out; omega
       case rel => exact ⟨(wrap64 (x3_2 + 1)), EZc, H', ⟨by have := HJ1.out; have := HK2.out; omega⟩, DRz⟩
      rw [if_neg c17] at H
      have c17b0 : decide ((bt a0 x3_2) ≤ 57) = false := decide_eq_false c17
      clear c17
      by_cases c18 : (bt a0 x3_2) = 95
      ·rw [if_pos c18] at H
       obtain ⟨c18b0, c18b1⟩ := QTz c18
       clear c18
       have H' := Aside0.mk H
       clear H
       have p7 : 0 ≤ (x3_2 : Int) := ODz
       have q7 : x3_2 < (a0.size : Int) := ODz
       have hx7 := bt_at a0 x3_2
       replace p7 := eq_true p7
       replace q7 := eq_true q7
       go_wp2
       go_roundg k2
       case measure => have := HJ1.out; have := HK2.out; omega
       case rel => exact ⟨(wrap64 (x3_2 + 1)), EZc, H', ⟨by have := HJ1.out; have := HK2.out; omega⟩, DRz⟩
      rw [if_neg c18] at H
      obtain ⟨c18b0, c18b1⟩ := QFz c18
      obtain rfl := Option.some.inj H
      clear H
      have p7 : 0 ≤ (x3_2 : Int) := ODz
      have q7 : x3_2 < (a0.size : Int) := ODz
      have hx7 := bt_at a0 x3_2
      replace p7 := eq_true p7
      replace q7 := eq_true q7
      go_wp2
      go_ret
      exact ⟨EZb, DRz⟩
     rw [if_pos c8] at H
     have c8b0 : decide (97 ≤ (bt a0 x3_2)) = true := decide_eq_true c8
     clear c8
     by_cases c9 : ((bt a0 x3_2) ≤ 122)
     ·rw [if_pos c9] at H
      have c9b0 : decide ((bt a0 x3_2) ≤ 122) = true := decide_eq_true c9
      clear c9
      have H' := Aside0.mk H
      clear H
      have p7 : 0 ≤ (x3_2 : Int) := ODz
      have q7 : x3_2 < (a0.size : Int) := ODz
      have hx7 := bt_at a0 x3_2
      replace p7 := eq_true p7
      replace q7 := eq_true q7
      go_wp2
      go_roundg k2
      case measure => have := HJ1.out; have := HK2.out; omega
      case rel => exact ⟨(wrap64 (x3_2 + 1)), EZc, H', ⟨by have := HJ1.out; have := HK2.out; omega⟩, DRz⟩
     rw [if_neg c9] at H
     have c9b0 : decide ((bt a0 x3_2) ≤ 122) = false := decide_eq_false c9
     clear c9
     by_cases c10 : x3_2 = 0
     ·rw [if_pos c10] at H
      obtain ⟨c10b0, c10b1⟩ := QTz c10
      clear c10
      obtain rfl := Option.some.inj H
      clear H
      have p7 : 0 ≤ (x3_2 : Int) := ODz
      have q7 : x3_2 < (a0.size : Int) := ODz
      have hx7 := bt_at a0 x3_2
      replace p7 := eq_true p7
      replace q7 := eq_true q7
      go_wp2
      go_ret
      exact ⟨EZb, DRz⟩
     rw [if_neg c10] at H
     obtain ⟨c10b0, c10b1⟩ := QFz c10
     by_cases c11 : (bt a0 x3_2) ≥ 48
     rotate_left
     ·rw [if_neg c11] at H
      have c11b0 : decide (48 ≤ (bt a0 x3_2)) = false := decide_eq_false c11
      clear c11
      by_cases c14 : (bt a0 x3_2) = 95
      ·rw [if_pos c14] at H
       obtain ⟨c14b0, c14b1⟩ := QTz c14
       clear c14
       have H' := Aside0.mk H
       clear H
       have p7 : 0 ≤ (x3_2 : Int) := ODz
       have q7 : x3_2 < (a0.size : Int) := ODz
       have hx7 := bt_at a0 x3_2
       replace p7 := eq_true p7
       replace q7 := eq_true q7
       go_wp2
       go_roundg k2
       case measure => have := HJ1.out; have := HK2.out; omega
       case rel => exact ⟨(wrap64 (x3_2 + 1)), EZc, H', ⟨by have := HJ1.out; have := HK2.out; omega⟩, DRz⟩
      rw [if_neg c14] at H
      obtain ⟨c14b0, c14b1⟩ := QFz c14
      obtain rfl := Option.some.inj H
      clear H
      have p7 : 0 ≤ (x3_2 : Int) := ODz
      have q7 : x3_2 < (a0.size : Int) := ODz
      have hx7 := bt_at a0 x3_2
      replace p7 := eq_true p7
      replace q7 := eq_true q7
      go_wp2
      go_ret
      exact ⟨EZb, DRz⟩
     rw [if_pos c11] at H
     have c11b0 : decide (48 ≤ (bt a0 x3_2)) = true := decide_eq_true c11
     clear c11
     by_cases c12 : ((bt a0 x3_2) ≤ 57)
     ·rw [if_pos c12] at H
      have c12b0 : decide ((bt a0 x3_2) ≤ 57) = true := decide_eq_true c12
      clear c12
      have H' := Aside0.mk H
      clear H
      have p7 : 0 ≤ (x3_2 : Int) := ODz
      have q7 : x3_2 < (a0.size : Int) := ODz
      have hx7 := bt_at a0 x3_2
      replace p7 := eq_true p7
      replace q7 := eq_true q7
      go_wp2
      go_roundg k2
      case measure => have := HJ1.out; have := HK2.out; omega
      case rel => exact ⟨(wrap64 (x3_2 + 1)), EZc, H', ⟨by have := HJ1.out; have := HK2.out; omega⟩, DRz⟩
     rw [if_neg c12] at H
     have c12b0 : decide ((bt a0 x3_2) ≤ 57) = false := decide_eq_false c12
     clear c12
     by_cases c13 : (bt a0 x3_2) = 95
     ·rw [if_pos c13] at H
      obtain ⟨c13b0, c13b1⟩ := QTz c13
      clear c13
      have H' := Aside0.mk H
      clear H
      have p7 : 0 ≤ (x3_2 : Int) := ODz
      have q7 : x3_2 < (a0.size : Int) := ODz
      have hx7 := bt_at a0 x3_2
      replace p7 := eq_true p7
      replace q7 := eq_true q7
      go_wp2
      go_roundg k2
      case measure => have := HJ1.out; have := HK2.out; omega
      case rel => exact ⟨(wrap64 (x3_2 + 1)), EZc, H', ⟨by have := HJ1.out; have := HK2.out; omega⟩, DRz⟩
     rw [if_neg c13] at H
     obtain ⟨c13b0, c13b1⟩ := QFz c13
     obtain rfl := Option.some.inj H
     clear H
     have p7 : 0 ≤ (x3_2 : Int) := ODz
     have q7 : x3_2 < (a0.size : Int) := ODz
     have hx7 := bt_at a0 x3_2
     replace p7 := eq_true p7
     replace q7 := eq_true q7
     go_wp2
     go_ret
     exact ⟨EZb, DRz⟩
def Va.f (k : Nat) (a0 : ByteArray) : Option (Bool) := if (a0.size : Int) ≥ 1 then (if (a0.size : Int) ≤ 40 then ((Qr.f k a0).bind fun t160 => (some (t160.toList != ([] : List UInt8)))) else (some false)) else (some false)
theorem Va.mono : ∀ a0 k, LeO (Va.f k a0) (Va.f (k + 1) a0) := by
 intro a0 k
 unfold Va.f
 with_reducible repeat' first | exact Qr.mono _ _ | exact LeO.refl _ | exact LeO.none _ | refine LeO.ite ?_ ?_ | refine LeO.bind ?_ (fun _ => ?_)
theorem Va.calls (k : Nat) (a0 : ByteArray) (r : Bool) (w : World) (h : Va.f k a0 = some r) :
  Calls Tryz.prog 75 #[.string a0] w fun e w' => e = .returned (.bool r) ∧ Below w.heap.size w w' := by
 have HB := Aside0.mk (Below.refl w.heap.size w)
 have H : (if (a0.size : Int) ≥ 1 then (if (a0.size : Int) ≤ 40 then ((Qr.f k a0).bind fun t160 => (some (t160.toList != ([] : List UInt8)))) else (some false)) else (some false)) = some r := h
 clear h
 by_cases c2 : (a0.size : Int) ≥ 1
 rotate_left
 ·rw [if_neg c2] at H
  have c2b0 : decide (1 ≤ (a0.size : Int)) = false := decide_eq_false c2
  have c2b1 : decide (1 ≤ a0.size) = false := decide_eq_false (by omega)
  clear c2
  obtain rfl := Option.some.inj H
  clear H
  go_enter Tryz.func75, Tryz.ntmps75
  go_wp2
  go_ret
  exact ⟨EZa, HBa⟩
 rw [if_pos c2] at H
 have c2b0 : decide (1 ≤ (a0.size : Int)) = true := decide_eq_true c2
 have c2b1 : decide (1 ≤ a0.size) = true := decide_eq_true (by omega)
 clear c2
 by_cases c3 : (a0.size : Int) ≤ 40
 rotate_left
 ·rw [if_neg c3] at H
  have c3b0 := decide_eq_false c3
  have c3b1 : decide (a0.size ≤ 40) = false := decide_eq_false (by omega)
  clear c3
  obtain rfl := Option.some.inj H
  clear H
  go_enter Tryz.func75, Tryz.ntmps75
  go_wp2
  go_ret
  exact ⟨EZa, HBa⟩
 rw [if_pos c3] at H
 have c3b0 := decide_eq_true c3
 have c3b1 : decide (a0.size ≤ 40) = true := decide_eq_true (by omega)
 clear c3
 replace H := Option.bind_eq_some_iff.mp H
 obtain ⟨t160, A40, H⟩ := H
 replace H : (some (t160.toList != ([] : List UInt8))) = some r := H
 have A4 := Aside0.mk A40
 clear A40
 obtain rfl := Option.some.inj H
 clear H
 go_enter Tryz.func75, Tryz.ntmps75
 go_wp2_with (first | (go_at_call 110; (with_reducible refine (Qr.calls k a0 t160 _ A4.out).mono ?_); rintro e w5 ⟨rfl, hb⟩; have n0_ := Aside0.mk (below_step HBa hb); clear HB; have HB := n0_; clear n0_; (try clear hb); (try clear hb2); (try clear hk); (try clear hi)))
 go_ret
 exact ⟨EZa, HBa⟩
def Qk.l0 : Nat → List (S96) → Int → Option (Bool)
 | 0, _, _ => none
 | k + 1, x0, x3 => if x3 < (x0.length : Int) then (if 0 ≤ x3 then ((Qq.f k ((rd_T96 x0 x3).f0)).bind fun t162 => (if t162 = true then ((Va.f k ((rd_T96 x0 x3).f1)).bind fun t164 => (if t164 = true then (Qk.l0 k x0 (wrap64 (x3 + 1))) else (some false))) else (some false))) else (none)) else (some (decide ((x0.length : Int) ≤ 6)))
def Qk.f (k : Nat) (l0 : List (S96)) : Option (Bool) := Qk.l0 k l0 0
theorem Qk.mono_l : ∀ k, (∀ y0 y1, LeO (Qk.l0 k y0 y1) (Qk.l0 (k + 1) y0 y1))
 | 0 => fun _ _ r h => by simp [Qk.l0] at h
 | k + 1 => by
  have ih0 := Qk.mono_l k
  ·intro y0 y1
   unfold Qk.l0
   with_reducible repeat' first | exact ih0 _ _ | exact Qq.mono _ _ | exact Va.mono _ _ | exact LeO.refl _ | exact LeO.none _ | refine LeO.ite ?_ ?_ | refine LeO.bind ?_ (fun _ => ?_)
theorem Qk.mono : ∀ a0 k, LeO (Qk.f k a0) (Qk.f (k + 1) a0) := by
 intro a0 k
 have ih0 := Qk.mono_l k
 unfold Qk.f
 with_reducible repeat' first | exact ih0 _ _ | exact Qq.mono _ _ | exact Va.mono _ _ | exact LeO.refl _ | exact LeO.none _ | refine LeO.ite ?_ ?_ | refine LeO.bind ?_ (fun _ => ?_)
theorem Qk.calls (k : Nat) (A0 : Option Addr) (c0 : Nat) (l0 : List (S96)) (r : Bool) (w : World) (hr0 : Kd.C k96 w A0 l0.length l0) (hc0 : l0.length ≤ c0) (h : Qk.f k l0 = some r) :
  Calls Tryz.prog 35 #[.slice A0 l0.length c0] w fun e w' => e = .returned (.bool r) ∧ Below w.heap.size w w' := by
 have HR0 := Aside0.mk hr0
 have HC0 := Aside0.mk hc0
 clear hr0 hc0
 have HB := Aside0.mk (Below.refl w.heap.size w)
 have H : (Qk.l0 k l0 0) = some r := h
 clear h
 have H' := Aside0.mk H
 clear H
 go_enter Tryz.func35, Tryz.ntmps35
 go_wp2
 go_loopg [3] k (fun kq v3 w' => ∃ (x3_1 : Int), v3 = .int .i64 x3_1 ∧ Aside0 (Qk.l0 kq l0 x3_1 = some r) ∧ Aside0 (kq ≤ k) ∧ Aside0 (Below w.heap.size w w'))
 case atStart => exact ⟨(0), EZc, H', ⟨Nat.le_refl _⟩, ⟨HBa⟩⟩
 case round =>
  clear H'
  obtain ⟨x3_1, rfl, HA, HK1, HB⟩ := hrel
  cases gk with
  | zero => exact absurd HA.out (by simp [Qk.l0])
  | succ k1 =>
   have H := HA.out
   clear HA
   simp only [Qk.l0] at H
   by_cases c2 : x3_1 < (l0.length : Int)
   rotate_left
   ·rw [if_neg c2] at H
    have c2b0 := decide_eq_false c2
    clear c2
    obtain rfl := Option.some.inj H
    clear H
    go_wp2
    go_ret
    exact ⟨EZa, HBa⟩
   rw [if_pos c2] at H
   have c2b0 := decide_eq_true c2
   clear c2
   by_cases c3 : 0 ≤ x3_1
   rotate_left
   ·rw [if_neg c3] at H
    exact absurd H (by simp)
   rw [if_pos c3] at H
   have c3b0 := decide_eq_true c3
   clear c3
   replace H := Option.bind_eq_some_iff.mp H
   obtain ⟨t162, A40, H⟩ := H
   replace H : (if t162 = true then ((Va.f k1 ((rd_T96 l0 x3_1).f1)).bind fun t164 => (if t164 = true then (Qk.l0 k1 l0 (wrap64 (x3_1 + 1))) else (some false))) else (some false)) = some r := H
   have A4 := Aside0.mk A40
   clear A40
   by_cases c5 : t162 = true
   rotate_left
   ·replace c5 := Bool.eq_false_iff.mpr c5
    subst c5
    have H1 : (some false) = some r := by rw [if_neg (show ¬ (false = true) by decide)] at H; exact H
    clear H
    have H := H1
    clear H1
    obtain rfl := Option.some.inj H
    clear H
    have p161 : 0 ≤ (x3_1 : Int) := ODz
    have q161 : x3_1 < (l0.length : Int) := ODz
    obtain ⟨ad161, e161, hx161_0, hx161_1⟩ := at_T96 HR0.out x3_1 p161 q161
    cases e161
    replace hx161_0 := HXz HB hx161_0
    replace hx161_1 := HXz HB hx161_1
    replace p161 := eq_true p161
    replace q161 := eq_true q161
    go_wp2_with (first | ((with_reducible refine gate_callee (f := 36) rfl ?_); refine goesL_ (some 15) rfl rfl Tryz.func36 (by kernel_rfl) rfl #[.string ((rd_T96 l0 x3_1).f0)] rfl MPz ?_; (with_reducible refine (Qq.calls k1 ((rd_T96 l0 x3_1).f0) false _ A4.out).mono ?_); rintro e w' ⟨rfl, ⟨nd, rfl⟩⟩; refine ⟨_, rfl, ?_⟩))
    go_ret
    exact ⟨EZa, HBa⟩
   subst c5
   have H1 : ((Va.f k1 ((rd_T96 l0 x3_1).f1)).bind fun t164 => (if t164 = true then (Qk.l0 k1 l0 (wrap64 (x3_1 + 1))) else (some false))) = some r := by rw [if_pos rfl] at H; exact H
   clear H
   have H := H1
   clear H1
   replace H := Option.bind_eq_some_iff.mp H
   obtain ⟨t164, A60, H⟩ := H
   replace H : (if t164 = true then (Qk.l0 k1 l0 (wrap64 (x3_1 + 1))) else (some false)) = some r := H
   have A6 := Aside0.mk A60
   clear A60
   by_cases c7 : t164 = true
   ·subst c7
    have H1 : (Qk.l0 k1 l0 (wrap64 (x3_1 + 1))) = some r := by rw [if_pos rfl] at H; exact H
    clear H
    have H := H1
    clear H1
    have H' := Aside0.mk H
    clear H
    have p161 : 0 ≤ (x3_1 : Int) := ODz
    have q161 : x3_1 < (l0.length : Int) := ODz
    obtain ⟨ad161, e161, hx161_0, hx161_1⟩ := at_T96 HR0.out x3_1 p161 q161
    cases e161
    replace hx161_0 := HXz HB hx161_0
    replace hx161_1 := HXz HB hx161_1
    replace p161 := eq_true p161
    replace q161 := eq_true q161
    go_wp2_with (first | ((with_reducible refine gate_callee (f := 36) rfl ?_); refine goesL_ (some 15) rfl rfl Tryz.func36 (by kernel_rfl) rfl #[.string ((rd_T96 l0 x3_1).f0)] rfl MPz ?_; (with_reducible refine (Qq.calls k1 ((rd_T96 l0 x3_1).f0) true _ A4.out).mono ?_); rintro e w' ⟨rfl, ⟨nd, rfl⟩⟩; refine ⟨_, rfl, ?_⟩; have p163 : 0 ≤ (x3_1 : Int) := ODz; have q163 : x3_1 < (l0.length : Int) := ODz; obtain ⟨ad163, e163, hx163_0, hx163_1⟩ := at_T96 HR0.out x3_1 p163 q163; obtain rfl : ad161 = ad163 := (by injection e163); replace hx163_0 := HXz HB hx163_0; replace hx163_1 := HXz HB hx163_1; replace p163 := eq_true p163; replace q163 := eq_true q163) | (go_at_call 75; (with_reducible refine (Va.calls k1 ((rd_T96 l0 x3_1).f1) true _ A6.out).mono ?_); rintro e w8 ⟨rfl, hb⟩; have n0_ := Aside0.mk (below_step HBa hb); clear HB; have HB := n0_; clear n0_; (try clear hb); (try clear hb2); (try clear hk); (try clear hi)))
    go_roundg k1
    case measure => have := HK1.out; omega
    case rel => exact ⟨(wrap64 (x3_1 + 1)), EZc, H', ⟨by have := HK1.out; omega⟩, ⟨HBa⟩⟩
   replace c7 := Bool.eq_false_iff.mpr c7
   subst c7
   have H1 : (some false) = some r := by rw [if_neg (show ¬ (false = true) by decide)] at H; exact H
   clear H
   have H := H1
   clear H1
   obtain rfl := Option.some.inj H
   clear H
   have p161 : 0 ≤ (x3_1 : Int) := ODz
   have q161 : x3_1 < (l0.length : Int) := ODz
   obtain ⟨ad161, e161, hx161_0, hx161_1⟩ := at_T96 HR0.out x3_1 p161 q161
   cases e161
   replace hx161_0 := HXz HB hx161_0
   replace hx161_1 := HXz HB hx161_1
   replace p161 := eq_true p161
   replace q161 := eq_true q161
   go_wp2_with (first | ((with_reducible refine gate_callee (f := 36) rfl ?_); refine goesL_ (some 15) rfl rfl Tryz.func36 (by kernel_rfl) rfl #[.string ((rd_T96 l0 x3_1).f0)] rfl MPz ?_; (with_reducible refine (Qq.calls k1 ((rd_T96 l0 x3_1).f0) true _ A4.out).mono ?_); rintro e w' ⟨rfl, ⟨nd, rfl⟩⟩; refine ⟨_, rfl, ?_⟩; have p163 : 0 ≤ (x3_1 : Int) := ODz; have q163 : x3_1 < (l0.length : Int) := ODz; obtain ⟨ad163, e163, hx163_0, hx163_1⟩ := at_T96 HR0.out x3_1 p163 q163; obtain rfl : ad161 = ad163 := (by injection e163); replace hx163_0 := HXz HB hx163_0; replace hx163_1 := HXz HB hx163_1; replace p163 := eq_true p163; replace q163 := eq_true q163) | (go_at_call 75; (with_reducible refine (Va.calls k1 ((rd_T96 l0 x3_1).f1) false _ A6.out).mono ?_); rintro e w9 ⟨rfl, hb⟩; have n0_ := Aside0.mk (below_step HBa hb); clear HB; have HB := n0_; clear n0_; (try clear hb); (try clear hb2); (try clear hk); (try clear hi)))
   go_ret
   exact ⟨EZa, HBa⟩
def Vh.l0 : Nat → List ByteArray → Int → Option (Bool)
 | 0, _, _ => none
 | k + 1, x0, x3 => if x3 < (x0.length : Int) then (if 0 ≤ x3 then ((Va.f k (rdOf ByteArray.empty x0 x3)).bind fun t166 => (if t166 = true then (if x3 > 0 then (if 0 ≤ (wrap64 (x3 - 1)) then (if (wrap64 (x3 - 1)) < (x0.length : Int) then ((Qr.f k (rdOf ByteArray.empty x0 (wrap64 (x3 - 1)))).bind fun t168 => ((Qr.f k (rdOf ByteArray.empty x0 x3)).bind fun t170 => (if ((Op.bytesLess t168.toList t170.toList) = true) then (Vh.l0 k x0 (wrap64 (x3 + 1))) else (some false)))) else (none)) else (none)) else (Vh.l0 k x0 (wrap64 (x3 + 1)))) else (some false))) else (none)) else (if (x0.length : Int) ≥ 1 then (some (decide ((x0.length : Int) ≤ 4))) else (some false))
def Vh.f (k : Nat) (l0 : List ByteArray) : Option (Bool) := Vh.l0 k l0 0
theorem Vh.mono_l : ∀ k, (∀ y0 y1, LeO (Vh.l0 k y0 y1) (Vh.l0 (k + 1) y0 y1))
 | 0 => fun _ _ r h => by simp [Vh.l0] at h
 | k + 1 => by
  have ih0 := Vh.mono_l k
  ·intro y0 y1
   unfold Vh.l0
   with_reducible repeat' first | exact ih0 _ _ | exact Qr.mono _ _ | exact Va.mono _ _ | exact LeO.refl _ | exact LeO.none _ | refine LeO.ite ?_ ?_ | refine LeO.bind ?_ (fun _ => ?_)
theorem Vh.mono : ∀ a0 k, LeO (Vh.f k a0) (Vh.f (k + 1) a0) := by
 intro a0 k
 have ih0 := Vh.mono_l k
 unfold Vh.f
 with_reducible repeat' first | exact ih0 _ _ | exact Qr.mono _ _ | exact Va.mono _ _ | exact LeO.refl _ | exact LeO.none _ | refine LeO.ite ?_ ?_ | refine LeO.bind ?_ (fun _ => ?_)
def Vh.T4 : Bool × List (List Nat × List Nat) := (true, [([], []), ([], []), ([0, 1], [0, 1]), ([2], [2]), ([3], [3]), ([4], [4]), ([5, 4], [5]), ([6], [6]), ([7, 6], [6, 7]), ([8, 6, 6], [6, 8]), ([9], [9]), ([9], [9]), ([11, 9], [9, 11]), ([10, 12, 9], [9, 10, 12]), ([13, 9], [9, 13]), ([14, 9, 9], [9, 14]), ([9], [9]), ([9], [9]), ([16, 17, 9], [9, 16, 17]), ([18, 9], [9, 18]), ([19, 15, 9], [9, 19]), ([15, 20, 9], [9, 15, 20]), ([9, 21, 6], [6, 9, 21]), ([6, 22], [6, 22])])
def Vh.B4 : List Nat := [0, 0, 3, 7, 15, 31, 63, 127, 255, 511, 1023, 1023, 3071, 8191, 16383, 32767, 1023, 1023, 197631, 459775, 1048575, 2097151, 4194303, 8388607]
theorem Vh.tab4 : rtab .any (opsOf Tryz.f145 4) = Vh.T4 := by kernel_rfl
theorem Vh.bits4 : waitsOk Vh.T4.2 Vh.B4 = true := by kernel_rfl
theorem Vh.calls (k : Nat) (A0 : Option Addr) (c0 : Nat) (l0 : List ByteArray) (r : Bool) (w : World) (hr0 : Kd.C Kd.string w A0 l0.length l0) (hc0 : l0.length ≤ c0) (h : Vh.f k l0 = some r) :
  Calls Tryz.prog 145 #[.slice A0 l0.length c0] w fun e w' => e = .returned (.bool r) ∧ Below w.heap.size w w' := by
 have HR0 := Aside0.mk hr0
 have HC0 := Aside0.mk hc0
 clear hr0 hc0
 have HB := Aside0.mk (Below.refl w.heap.size w)
 have H : (Vh.l0 k l0 0) = some r := h
 clear h
 have H' := Aside0.mk H
 clear H
 go_enter Tryz.func145, Tryz.ntmps145
 go_wp2
 go_loopg [3] k (fun kq v3 w' => ∃ (x3_1 : Int), v3 = .int .i64 x3_1 ∧ Aside0 (Vh.l0 kq l0 x3_1 = some r) ∧ Aside0 (kq ≤ k) ∧ Aside0 (Below w.heap.size w w'))
 case atStart => exact ⟨(0), EZc, H', ⟨Nat.le_refl _⟩, ⟨HBa⟩⟩
 case round =>
  clear H'
  obtain ⟨x3_1, rfl, HA, HK1, HB⟩ := hrel
  cases gk with
  | zero => exact absurd HA.out (by simp [Vh.l0])
  | succ k1 =>
   have H := HA.out
   clear HA
   simp only [Vh.l0] at H
   by_cases c2 : x3_1 < (l0.length : Int)
   rotate_left
   ·rw [if_neg c2] at H
    have c2b0 := decide_eq_false c2
    clear c2
    by_cases c25 : (l0.length : Int) ≥ 1
    ·rw [if_pos c25] at H
     have c25b0 : decide (1 ≤ (l0.length : Int)) = true := decide_eq_true c25
     have c25b1 : decide (1 ≤ l0.length) = true := decide_eq_true (by omega)
     clear c25
     obtain rfl := Option.some.inj H
     clear H
     go_wp2
     go_ret
     exact ⟨EZa, HBa⟩
    rw [if_neg c25] at H
    have c25b0 : decide (1 ≤ (l0.length : Int)) = false := decide_eq_false c25
    have c25b1 : decide (1 ≤ l0.length) = false := decide_eq_false (by omega)
    clear c25
    obtain rfl := Option.some.inj H
    clear H
    go_wp2
    go_ret
    exact ⟨EZa, HBa⟩
   rw [if_pos c2] at H
   have c2b0 := decide_eq_true c2
   clear c2
   by_cases c3 : 0 ≤ x3_1
   rotate_left
   ·rw [if_neg c3] at H
    exact absurd H (by simp)
   rw [if_pos c3] at H
   have c3b0 := decide_eq_true c3
   clear c3
   replace H := Option.bind_eq_some_iff.mp H
   obtain ⟨t166, A40, H⟩ := H
   replace H : (if t166 = true then (if x3_1 > 0 then (if 0 ≤ (wrap64 (x3_1 - 1)) then (if (wrap64 (x3_1 - 1)) < (l0.length : Int) then ((Qr.f k1 (rdOf ByteArray.empty l0 (wrap64 (x3_1 - 1)))).bind fun t168 => ((Qr.f k1 (rdOf ByteArray.empty l0 x3_1)).bind fun t170 => (if ((Op.bytesLess t168.toList t170.toList) = true) then (Vh.l0 k1 l0 (wrap64 (x3_1 + 1))) else (some false)))) else (none)) else (none)) else (Vh.l0 k1 l0 (wrap64 (x3_1 + 1)))) else (some false)) = some r := H
   have A4 := Aside0.mk A40
   clear A40
   by_cases c5 : t166 = true
   rotate_left
   ·replace c5 := Bool.eq_false_iff.mpr c5
    subst c5
    have H1 : (some false) = some r := by rw [if_neg (show ¬ (false = true) by decide)] at H; exact H
    clear H
    have H := H1
    clear H1
    obtain rfl := Option.some.inj H
    clear H
    try go_wp2
    have n0_ := Aside0.mk (below_drew1 HB.out)
    clear HB
    have HB := n0_
    clear n0_
    have p165 : 0 ≤ (x3_1 : Int) := ODz
    have q165 : x3_1 < (l0.length : Int) := ODz
    obtain ⟨ad165, e165, hx165_0⟩ := Kd.at_string HR0.out x3_1 p165 q165
    have hw165_0 := hx165_0
    cases e165
    replace hx165_0 := HXz HB hx165_0
    replace p165 := eq_true p165
    replace q165 := eq_true q165
    refine start_ (n := 24) (S := fun w' => w'.cell? (ad165.add (x3_1).toNat) = some (.string (rdOf ByteArray.empty l0 x3_1))) (ds := []) (bz 24 0) (by kernel_rfl) rfl (by kernel_rfl) ((HXz HB hw165_0 :)) (fun hHeld => ?_); refine with_tabW Vh.tab4 Vh.bits4 (fun HT_ HW_ => ?_)
    generalize wr.drew = w23 at HB hx165_0 hHeld ⊢
    refine PYz 0 10 (bz 24 1) rfl rfl (any_of HT_.out (by kernel_rfl)) ?_
    refine PYz 1 11 (bz 24 3) rfl rfl (any_of HT_.out (by kernel_rfl)) ?_
    refine PYz 2 12 (bz 24 7) rfl rfl (any_of HT_.out (by kernel_rfl)) ?_
    refine PTz 3 13 (bz 24 15) rfl rfl (take_ofW HT_.out HW_.out (by kernel_rfl)) hHeld ?_
    refine one_ (i := 4) (N := some 14) (bz 24 31) rfl rfl (one_of HT_.out (by kernel_rfl)) (by decide) (fun K hK => ?_)
    refine goes_ Tryz.func75 (by kernel_rfl) rfl #[.string (rdOf ByteArray.empty l0 x3_1)] (by rfl) rfl rfl MPz ?_
    with_reducible refine (Va.calls k1 (rdOf ByteArray.empty l0 x3_1) false _ A4.out).mono ?_
    rintro e w24 ⟨rfl, hb⟩
    refine ⟨_, rfl, ?_⟩
    have n0_ := Aside0.mk (below_step HBa hb)
    clear HB
    have HB := n0_
    clear n0_
    (try clear hb)
    (try clear hb2)
    (try clear hk)
    (try clear hi)
    refine hK.out _ _ ((HXz HB hw165_0 :)) (fun hHeld => ?_)
    clear hK K
    refine norm_ (a' := ?_) ?_ ?_
    rotate_left
    ·show Act.put _ (some 14) _ = _
     simp only [PUz]
     rfl
    refine PYz 5 15 (bz 24 63) rfl rfl (any_of HT_.out (by kernel_rfl)) ?_
    refine PYz 6 16 (bz 24 127) rfl rfl (any_of HT_.out (by kernel_rfl)) ?_
    refine PXz 7 17 (bz 24 255) rfl rfl (any_of HT_.out (by kernel_rfl)) ?_
    refine PXz 8 18 (bz 24 511) rfl rfl (any_of HT_.out (by kernel_rfl)) ?_
    refine PXz 9 19 (bz 24 1023) rfl rfl (any_of HT_.out (by kernel_rfl)) ?_
    refine PXz 10 20 (bz 24 2047) rfl rfl (any_of HT_.out (by kernel_rfl)) ?_
    refine PXz 11 21 (bz 24 4095) rfl rfl (any_of HT_.out (by kernel_rfl)) ?_
    refine PXz 12 22 (bz 24 8191) rfl rfl (any_of HT_.out (by kernel_rfl)) ?_
    refine PXz 13 23 (bz 24 16383) rfl rfl (any_of HT_.out (by kernel_rfl)) ?_
    refine PXz 14 24 (bz 24 32767) rfl rfl (any_of HT_.out (by kernel_rfl)) ?_
    refine PXz 15 25 (bz 24 65535) rfl rfl (any_of HT_.out (by kernel_rfl)) ?_
    refine PXz 16 26 (bz 24 131071) rfl rfl (any_of HT_.out (by kernel_rfl)) ?_
    refine PXz 17 27 (bz 24 262143) rfl rfl (any_of HT_.out (by kernel_rfl)) ?_
    refine PXz 18 28 (bz 24 524287) rfl rfl (any_of HT_.out (by kernel_rfl)) ?_
    refine PXz 19 29 (bz 24 1048575) rfl rfl (any_of HT_.out (by kernel_rfl)) ?_
    refine PXz 20 30 (bz 24 2097151) rfl rfl (any_of HT_.out (by kernel_rfl)) ?_
    refine PXz 21 31 (bz 24 4194303) rfl rfl (any_of HT_.out (by kernel_rfl)) ?_
    refine PXz 22 32 (bz 24 8388607) rfl rfl (any_of HT_.out (by kernel_rfl)) ?_
    refine PYz 23 33 (bz 24 16777215) rfl rfl (any_of HT_.out (by kernel_rfl)) ?_
    refine done_ (done_of HT_.out (by kernel_rfl)) ?_
    try go_wp2
    go_ret
    exact ⟨EZa, HBa⟩
   subst c5
   have H1 : (if x3_1 > 0 then (if 0 ≤ (wrap64 (x3_1 - 1)) then (if (wrap64 (x3_1 - 1)) < (l0.length : Int) then ((Qr.f k1 (rdOf ByteArray.empty l0 (wrap64 (x3_1 - 1)))).bind fun t168 => ((Qr.f k1 (rdOf ByteArray.empty l0 x3_1)).bind fun t170 => (if ((Op.bytesLess t168.toList t170.toList) = true) then (Vh.l0 k1 l0 (wrap64 (x3_1 + 1))) else (some false)))) else (none)) else (none)) else (Vh.l0 k1 l0 (wrap64 (x3_1 + 1)))) = some r := by rw [if_pos rfl] at H; exact H
   clear H
   have H := H1
   clear H1
   by_cases c6 : x3_1 > 0
   rotate_left
   ·rw [if_neg c6] at H
    have c6b0 : decide (0 < x3_1) = false := decide_eq_false c6
    clear c6
    have H' := Aside0.mk H
    clear H
    try go_wp2
    have n0_ := Aside0.mk (below_drew1 HB.out)
    clear HB
    have HB := n0_
    clear n0_
    have p165 : 0 ≤ (x3_1 : Int) := ODz
    have q165 : x3_1 < (l0.length : Int) := ODz
    obtain ⟨ad165, e165, hx165_0⟩ := Kd.at_string HR0.out x3_1 p165 q165
    have hw165_0 := hx165_0
    cases e165
    replace hx165_0 := HXz HB hx165_0
    replace p165 := eq_true p165
    replace q165 := eq_true q165
    refine start_ (n := 24) (S := fun w' => w'.cell? (ad165.add (x3_1).toNat) = some (.string (rdOf ByteArray.empty l0 x3_1))) (ds := []) (bz 24 0) (by kernel_rfl) rfl (by kernel_rfl) ((HXz HB hw165_0 :)) (fun hHeld => ?_); refine with_tabW Vh.tab4 Vh.bits4 (fun HT_ HW_ => ?_)
    generalize wr.drew = w21 at HB hx165_0 hHeld ⊢
    refine PYz 0 10 (bz 24 1) rfl rfl (any_of HT_.out (by kernel_rfl)) ?_
    refine PYz 1 11 (bz 24 3) rfl rfl (any_of HT_.out (by kernel_rfl)) ?_
    refine PYz 2 12 (bz 24 7) rfl rfl (any_of HT_.out (by kernel_rfl)) ?_
    refine PTz 3 13 (bz 24 15) rfl rfl (take_ofW HT_.out HW_.out (by kernel_rfl)) hHeld ?_
    refine one_ (i := 4) (N := some 14) (bz 24 31) rfl rfl (one_of HT_.out (by kernel_rfl)) (by decide) (fun K hK => ?_)
    refine goes_ Tryz.func75 (by kernel_rfl) rfl #[.string (rdOf ByteArray.empty l0 x3_1)] (by rfl) rfl rfl MPz ?_
    with_reducible refine (Va.calls k1 (rdOf ByteArray.empty l0 x3_1) true _ A4.out).mono ?_
    rintro e w22 ⟨rfl, hb⟩
    refine ⟨_, rfl, ?_⟩
    have n0_ := Aside0.mk (below_step HBa hb)
    clear HB
    have HB := n0_
    clear n0_
    (try clear hb)
    (try clear hb2)
    (try clear hk)
    (try clear hi)
    refine hK.out _ _ ((HXz HB hw165_0 :)) (fun hHeld => ?_)
    clear hK K
    refine norm_ (a' := ?_) ?_ ?_
    rotate_left
    ·show Act.put _ (some 14) _ = _
     simp only [PUz]
     rfl
    refine PYz 5 15 (bz 24 63) rfl rfl (any_of HT_.out (by kernel_rfl)) ?_
    refine PYz 6 16 (bz 24 127) rfl rfl (any_of HT_.out (by kernel_rfl)) ?_
    refine PYz 7 17 (bz 24 255) rfl rfl (any_of HT_.out (by kernel_rfl)) ?_
    refine PYz 8 18 (bz 24 511) rfl rfl (any_of HT_.out (by kernel_rfl)) ?_
    refine PYz 9 19 (bz 24 1023) rfl rfl (any_of HT_.out (by kernel_rfl)) ?_
    refine PXz 10 20 (bz 24 2047) rfl rfl (any_of HT_.out (by kernel_rfl)) ?_
    refine PXz 11 21 (bz 24 4095) rfl rfl (any_of HT_.out (by kernel_rfl)) ?_
    refine PXz 12 22 (bz 24 8191) rfl rfl (any_of HT_.out (by kernel_rfl)) ?_
    refine PXz 13 23 (bz 24 16383) rfl rfl (any_of HT_.out (by kernel_rfl)) ?_
    refine PXz 14 24 (bz 24 32767) rfl rfl (any_of HT_.out (by kernel_rfl)) ?_
    refine PXz 15 25 (bz 24 65535) rfl rfl (any_of HT_.out (by kernel_rfl)) ?_
    refine PXz 16 26 (bz 24 131071) rfl rfl (any_of HT_.out (by kernel_rfl)) ?_
    refine PXz 17 27 (bz 24 262143) rfl rfl (any_of HT_.out (by kernel_rfl)) ?_
    refine PXz 18 28 (bz 24 524287) rfl rfl (any_of HT_.out (by kernel_rfl)) ?_
    refine PXz 19 29 (bz 24 1048575) rfl rfl (any_of HT_.out (by kernel_rfl)) ?_
    refine PXz 20 30 (bz 24 2097151) rfl rfl (any_of HT_.out (by kernel_rfl)) ?_
    refine PXz 21 31 (bz 24 4194303) rfl rfl (any_of HT_.out (by kernel_rfl)) ?_
    refine PYz 22 32 (bz 24 8388607) rfl rfl (any_of HT_.out (by kernel_rfl)) ?_
    refine PYz 23 33 (bz 24 16777215) rfl rfl (any_of HT_.out (by kernel_rfl)) ?_
    refine done_ (done_of HT_.out (by kernel_rfl)) ?_
    try go_wp2
    go_roundg k1
    case measure => have := HK1.out; omega
    case rel => exact ⟨(wrap64 (x3_1 + 1)), EZc, H', ⟨by have := HK1.out; omega⟩, ⟨HBa⟩⟩
   rw [if_pos c6] at H
   have c6b0 : decide (0 < x3_1) = true := decide_eq_true c6
   clear c6
   obtain ⟨ji7, hji7⟩ : ∃ j_ : Int, (wrap64 (x3_1 - 1)) = j_ := ⟨_, rfl⟩
   replace H : (if 0 ≤ (ji7) then (if (ji7) < (l0.length : Int) then ((Qr.f k1 (rdOf ByteArray.empty l0 (ji7))).bind fun t168 => ((Qr.f k1 (rdOf ByteArray.empty l0 x3_1)).bind fun t170 => (if ((Op.bytesLess t168.toList t170.toList) = true) then (Vh.l0 k1 l0 (wrap64 (x3_1 + 1))) else (some false)))) else (none)) else (none)) = some r := by first | (rw [hji7] at H; exact H) | (simp only [hji7] at H ⊢; exact H)
   (try rw [hji7] at A4)
   have hji7w : (IntKind.i64.wrap (x3_1 - 1)) = ji7 := (i64_w _).trans hji7
   by_cases c8 : 0 ≤ (ji7)
   rotate_left
   ·rw [if_neg c8] at H
    exact absurd H (by simp)
   rw [if_pos c8] at H
   have c8b0 := decide_eq_true c8
   clear c8
   by_cases c9 : (ji7) < (l0.length : Int)
   rotate_left
   ·rw [if_neg c9] at H
    exact absurd H (by simp)
   rw [if_pos c9] at H
   have c9b0 := decide_eq_true c9
   clear c9
   replace H := Option.bind_eq_some_iff.mp H
   obtain ⟨t168, A100, H⟩ := H
   replace H : ((Qr.f k1 (rdOf ByteArray.empty l0 x3_1)).bind fun t170 => (if ((Op.bytesLess t168.toList t170.toList) = true) then (Vh.l0 k1 l0 (wrap64 (x3_1 + 1))) else (some false))) = some r := H
   have A10 := Aside0.mk A100
   clear A100
   replace H := Option.bind_eq_some_iff.mp H
   obtain ⟨t170, A110, H⟩ := H
   replace H : (if ((Op.bytesLess t168.toList t170.toList) = true) then (Vh.l0 k1 l0 (wrap64 (x3_1 + 1))) else (some false)) = some r := H
   have A11 := Aside0.mk A110
   clear A110
   by_cases c12 : ((Op.bytesLess t168.toList t170.toList) = true)
   rotate_left
   ·rw [if_neg c12] at H
    have c12b0 : (Op.bytesLess t168.toList t170.toList) = false := by simpa using c12
    clear c12
    obtain rfl := Option.some.inj H
    clear H
    try go_wp2
    have n0_ := Aside0.mk (below_drew1 HB.out)
    clear HB
    have HB := n0_
    clear n0_
    have p165 : 0 ≤ (x3_1 : Int) := ODz
    have q165 : x3_1 < (l0.length : Int) := ODz
    obtain ⟨ad165, e165, hx165_0⟩ := Kd.at_string HR0.out x3_1 p165 q165
    have hw165_0 := hx165_0
    cases e165
    replace hx165_0 := HXz HB hx165_0
    replace p165 := eq_true p165
    replace q165 := eq_true q165
    have p167 : 0 ≤ ((ji7) : Int) := ODz
    have q167 : (ji7) < (l0.length : Int) := ODz
    obtain ⟨ad167, e167, hx167_0⟩ := Kd.at_string HR0.out (ji7) p167 q167
    have hw167_0 := hx167_0
    obtain rfl : ad165 = ad167 := (by injection e167)
    replace hx167_0 := HXz HB hx167_0
    replace p167 := eq_true p167
    replace q167 := eq_true q167
    have p169 : 0 ≤ (x3_1 : Int) := ODz
    have q169 : x3_1 < (l0.length : Int) := ODz
    obtain ⟨ad169, e169, hx169_0⟩ := Kd.at_string HR0.out x3_1 p169 q169
    have hw169_0 := hx169_0
    obtain rfl : ad165 = ad169 := (by injection e169)
    replace hx169_0 := HXz HB hx169_0
    replace p169 := eq_true p169
    replace q169 := eq_true q169
    refine start_ (n := 24) (S := fun w' => w'.cell? (ad165.add (x3_1).toNat) = some (.string (rdOf ByteArray.empty l0 x3_1)) ∧ w'.cell? (ad165.add ((ji7)).toNat) = some (.string (rdOf ByteArray.empty l0 (ji7))) ∧ w'.cell? (ad165.add (x3_1).toNat) = some (.string (rdOf ByteArray.empty l0 x3_1))) (ds := []) (bz 24 0) (by kernel_rfl) rfl (by kernel_rfl) ⟨(HXz HB hw165_0 :), (HXz HB hw167_0 :), (HXz HB hw169_0 :)⟩ (fun hHeld => ?_); refine with_tabW Vh.tab4 Vh.bits4 (fun HT_ HW_ => ?_)
    generalize wr.drew = w17 at HB hx165_0 hx167_0 hx169_0 hHeld ⊢
    refine PYz 0 10 (bz 24 1) rfl rfl (any_of HT_.out (by kernel_rfl)) ?_
    refine PYz 1 11 (bz 24 3) rfl rfl (any_of HT_.out (by kernel_rfl)) ?_
    refine PYz 2 12 (bz 24 7) rfl rfl (any_of HT_.out (by kernel_rfl)) ?_
    refine PTz 3 13 (bz 24 15) rfl rfl (take_ofW HT_.out HW_.out (by kernel_rfl)) hHeld ?_
    refine one_ (i := 4) (N := some 14) (bz 24 31) rfl rfl (one_of HT_.out (by kernel_rfl)) (by decide) (fun K hK => ?_)
    refine goes_ Tryz.func75 (by kernel_rfl) rfl #[.string (rdOf ByteArray.empty l0 x3_1)] (by rfl) rfl rfl MPz ?_
    with_reducible refine (Va.calls k1 (rdOf ByteArray.empty l0 x3_1) true _ A4.out).mono ?_
    rintro e w18 ⟨rfl, hb⟩
    refine ⟨_, rfl, ?_⟩
    have n0_ := Aside0.mk (below_step HBa hb)
    clear HB
    have HB := n0_
    clear n0_
    (try clear hb)
    (try clear hb2)
    (try clear hk)
    (try clear hi)
    refine hK.out _ _ ⟨(HXz HB hw165_0 :), (HXz HB hw167_0 :), (HXz HB hw169_0 :)⟩ (fun hHeld => ?_)
    clear hK K
    refine norm_ (a' := ?_) ?_ ?_
    rotate_left
    ·show Act.put _ (some 14) _ = _
     simp only [PUz]
     rfl
    refine PYz 5 15 (bz 24 63) rfl rfl (any_of HT_.out (by kernel_rfl)) ?_
    refine PYz 6 16 (bz 24 127) rfl rfl (any_of HT_.out (by kernel_rfl)) ?_
    refine PYz 7 17 (bz 24 255) rfl rfl (any_of HT_.out (by kernel_rfl)) ?_
    refine PYz 8 18 (bz 24 511) rfl rfl (any_of HT_.out (by kernel_rfl)) ?_
    refine PYz 9 19 (bz 24 1023) rfl rfl (any_of HT_.out (by kernel_rfl)) ?_
    refine PYz 10 20 (bz 24 2047) rfl rfl (any_of HT_.out (by kernel_rfl)) ?_
    refine PYz 11 21 (bz 24 4095) rfl rfl (any_of HT_.out (by kernel_rfl)) ?_
    refine PYz 12 22 (bz 24 8191) rfl rfl (any_of HT_.out (by kernel_rfl)) ?_
    refine PYz 13 23 (bz 24 16383) rfl rfl (any_of HT_.out (by kernel_rfl)) ?_
    refine PYz 16 26 (bz 24 81919) rfl rfl (any_of HT_.out (by kernel_rfl)) ?_
    refine PYz 17 27 (bz 24 212991) rfl rfl (any_of HT_.out (by kernel_rfl)) ?_
    refine PYz 18 28 (bz 24 475135) rfl rfl (any_of HT_.out (by kernel_rfl)) ?_
    refine PTz 14 24 (bz 24 491519) rfl rfl (take_ofW HT_.out HW_.out (by kernel_rfl)) hHeld ?_
    refine PTz 19 29 (bz 24 1015807) rfl rfl (take_ofW HT_.out HW_.out (by kernel_rfl)) hHeld ?_
    refine one_ (i := 15) (N := some 25) (bz 24 1048575) rfl rfl (one_of HT_.out (by kernel_rfl)) (by decide) (fun K hK => ?_)
    refine goes_ Tryz.func110 (by kernel_rfl) rfl #[.string (rdOf ByteArray.empty l0 (ji7))] (by rfl) rfl rfl (by (try simp only [List.map_toArray, List.map_cons, List.map_nil]); first | done | (simp only [hji7]; rfl) | rfl | (simp only [List.length_drop, List.length_take]; rfl)) ?_
    with_reducible refine (Qr.calls k1 (rdOf ByteArray.empty l0 (ji7)) t168 _ A10.out).mono ?_
    rintro e w19 ⟨rfl, hb⟩
    refine ⟨_, rfl, ?_⟩
    have n0_ := Aside0.mk (below_step HBa hb)
    clear HB
    have HB := n0_
    clear n0_
    (try clear hb)
    (try clear hb2)
    (try clear hk)
    (try clear hi)
    refine hK.out _ _ ⟨(HXz HB hw165_0 :), (HXz HB hw167_0 :), (HXz HB hw169_0 :)⟩ (fun hHeld => ?_)
    clear hK K
    refine norm_ (a' := ?_) ?_ ?_
    rotate_left
    ·show Act.put _ (some 25) _ = _
     simp only [PUz]
     rfl
    refine one_ (i := 20) (N := some 30) (bz 24 2097151) rfl rfl (one_of HT_.out (by kernel_rfl)) (by decide) (fun K hK => ?_)
    refine goes_ Tryz.func110 (by kernel_rfl) rfl #[.string (rdOf ByteArray.empty l0 x3_1)] (by rfl) rfl rfl MPz ?_
    with_reducible refine (Qr.calls k1 (rdOf ByteArray.empty l0 x3_1) t170 _ A11.out).mono ?_
    rintro e w20 ⟨rfl, hb⟩
    refine ⟨_, rfl, ?_⟩
    have n0_ := Aside0.mk (below_step HBa hb)
    clear HB
    have HB := n0_
    clear n0_
    (try clear hb)
    (try clear hb2)
    (try clear hk)
    (try clear hi)
    refine hK.out _ _ ⟨(HXz HB hw165_0 :), (HXz HB hw167_0 :), (HXz HB hw169_0 :)⟩ (fun hHeld => ?_)
    clear hK K
    refine norm_ (a' := ?_) ?_ ?_
    rotate_left
    ·show Act.put _ (some 30) _ = _
     simp only [PUz]
     rfl
    refine PYz 21 31 (bz 24 4194303) rfl rfl (any_of HT_.out (by kernel_rfl)) ?_
    refine PYz 22 32 (bz 24 8388607) rfl rfl (any_of HT_.out (by kernel_rfl)) ?_
    refine PYz 23 33 (bz 24 16777215) rfl rfl (any_of HT_.out (by kernel_rfl)) ?_
    refine done_ (done_of HT_.out (by kernel_rfl)) ?_
    try go_wp2
    go_ret
    exact ⟨by first | rfl | (simp only [bne_nil_, beq_nil_]; rfl) | (simp [errW_none, errW_some] <;> rfl) | (simp only [← hji7]; first | rfl | (simp [errW_none, errW_some] <;> rfl)) | (simp [*, errW_none, errW_some] <;> rfl), HBa⟩
   rw [if_pos c12] at H
   have c12b0 : (Op.bytesLess t168.toList t170.toList) = true := c12
   clear c12
   have H' := Aside0.mk H
   clear H
   try go_wp2
   have n0_ := Aside0.mk (below_drew1 HB.out)
   clear HB
   have HB := n0_
   clear n0_
   have p165 : 0 ≤ (x3_1 : Int) := ODz
   have q165 : x3_1 < (l0.length : Int) := ODz
   obtain ⟨ad165, e165, hx165_0⟩ := Kd.at_string HR0.out x3_1 p165 q165
   have hw165_0 := hx165_0
   cases e165
   replace hx165_0 := HXz HB hx165_0
   replace p165 := eq_true p165
   replace q165 := eq_true q165
   have p167 : 0 ≤ ((ji7) : Int) := ODz
   have q167 : (ji7) < (l0.length : Int) := ODz
   obtain ⟨ad167, e167, hx167_0⟩ := Kd.at_string HR0.out (ji7) p167 q167
   have hw167_0 := hx167_0
   obtain rfl : ad165 = ad167 := (by injection e167)
   replace hx167_0 := HXz HB hx167_0
   replace p167 := eq_true p167
   replace q167 := eq_true q167
   have p169 : 0 ≤ (x3_1 : Int) := ODz
   have q169 : x3_1 < (l0.length : Int) := ODz
   obtain ⟨ad169, e169, hx169_0⟩ := Kd.at_string HR0.out x3_1 p169 q169
   have hw169_0 := hx169_0
   obtain rfl : ad165 = ad169 := (by injection e169)
   replace hx169_0 := HXz HB hx169_0
   replace p169 := eq_true p169
   replace q169 := eq_true q169
   refine start_ (n := 24) (S := fun w' => w'.cell? (ad165.add (x3_1).toNat) = some (.string (rdOf ByteArray.empty l0 x3_1)) ∧ w'.cell? (ad165.add ((ji7)).toNat) = some (.string (rdOf ByteArray.empty l0 (ji7))) ∧ w'.cell? (ad165.add (x3_1).toNat) = some (.string (rdOf ByteArray.empty l0 x3_1))) (ds := []) (bz 24 0) (by kernel_rfl) rfl (by kernel_rfl) ⟨(HXz HB hw165_0 :), (HXz HB hw167_0 :), (HXz HB hw169_0 :)⟩ (fun hHeld => ?_); refine with_tabW Vh.tab4 Vh.bits4 (fun HT_ HW_ => ?_)
   generalize wr.drew = w13 at HB hx165_0 hx167_0 hx169_0 hHeld ⊢
   refine PYz 0 10 (bz 24 1) rfl rfl (any_of HT_.out (by kernel_rfl)) ?_
   refine PYz 1 11 (bz 24 3) rfl rfl (any_of HT_.out (by kernel_rfl)) ?_
   refine PYz 2 12 (bz 24 7) rfl rfl (any_of HT_.out (by kernel_rfl)) ?_
   refine PTz 3 13 (bz 24 15) rfl rfl (take_ofW HT_.out HW_.out (by kernel_rfl)) hHeld ?_
   refine one_ (i := 4) (N := some 14) (bz 24 31) rfl rfl (one_of HT_.out (by kernel_rfl)) (by decide) (fun K hK => ?_)
   refine goes_ Tryz.func75 (by kernel_rfl) rfl #[.string (rdOf ByteArray.empty l0 x3_1)] (by rfl) rfl rfl MPz ?_
   with_reducible refine (Va.calls k1 (rdOf ByteArray.empty l0 x3_1) true _ A4.out).mono ?_
   rintro e w14 ⟨rfl, hb⟩
   refine ⟨_, rfl, ?_⟩
   have n0_ := Aside0.mk (below_step HBa hb)
   clear HB
   have HB := n0_
   clear n0_
   (try clear hb)
   (try clear hb2)
   (try clear hk)
   (try clear hi)
   refine hK.out _ _ ⟨(HXz HB hw165_0 :), (HXz HB hw167_0 :), (HXz HB hw169_0 :)⟩ (fun hHeld => ?_)
   clear hK K
   refine norm_ (a' := ?_) ?_ ?_
   rotate_left
   ·show Act.put _ (some 14) _ = _
    simp only [PUz]
    rfl
   refine PYz 5 15 (bz 24 63) rfl rfl (any_of HT_.out (by kernel_rfl)) ?_
   refine PYz 6 16 (bz 24 127) rfl rfl (any_of HT_.out (by kernel_rfl)) ?_
   refine PYz 7 17 (bz 24 255) rfl rfl (any_of HT_.out (by kernel_rfl)) ?_
   refine PYz 8 18 (bz 24 511) rfl rfl (any_of HT_.out (by kernel_rfl)) ?_
   refine PYz 9 19 (bz 24 1023) rfl rfl (any_of HT_.out (by kernel_rfl)) ?_
   refine PYz 10 20 (bz 24 2047) rfl rfl (any_of HT_.out (by kernel_rfl)) ?_
   refine PYz 11 21 (bz 24 4095) rfl rfl (any_of HT_.out (by kernel_rfl)) ?_
   refine PYz 12 22 (bz 24 8191) rfl rfl (any_of HT_.out (by kernel_rfl)) ?_
   refine PYz 13 23 (bz 24 16383) rfl rfl (any_of HT_.out (by kernel_rfl)) ?_
   refine PYz 16 26 (bz 24 81919) rfl rfl (any_of HT_.out (by kernel_rfl)) ?_
   refine PYz 17 27 (bz 24 212991) rfl rfl (any_of HT_.out (by kernel_rfl)) ?_
   refine PYz 18 28 (bz 24 475135) rfl rfl (any_of HT_.out (by kernel_rfl)) ?_
   refine PTz 14 24 (bz 24 491519) rfl rfl (take_ofW HT_.out HW_.out (by kernel_rfl)) hHeld ?_
   refine PTz 19 29 (bz 24 1015807) rfl rfl (take_ofW HT_.out HW_.out (by kernel_rfl)) hHeld ?_
   refine one_ (i := 15) (N := some 25) (bz 24 1048575) rfl rfl (one_of HT_.out (by kernel_rfl)) (by decide) (fun K hK => ?_)
   refine goes_ Tryz.func110 (by kernel_rfl) rfl #[.string (rdOf ByteArray.empty l0 (ji7))] (by rfl) rfl rfl (by (try simp only [List.map_toArray, List.map_cons, List.map_nil]); first | done | (simp only [hji7]; rfl) | rfl | (simp only [List.length_drop, List.length_take]; rfl)) ?_
   with_reducible refine (Qr.calls k1 (rdOf ByteArray.empty l0 (ji7)) t168 _ A10.out).mono ?_
   rintro e w15 ⟨rfl, hb⟩
   refine ⟨_, rfl, ?_⟩
   have n0_ := Aside0.mk (below_step HBa hb)
   clear HB
   have HB := n0_
   clear n0_
   (try clear hb)
   (try clear hb2)
   (try clear hk)
   (try clear hi)
   refine hK.out _ _ ⟨(HXz HB hw165_0 :), (HXz HB hw167_0 :), (HXz HB hw169_0 :)⟩ (fun hHeld => ?_)
   clear hK K
   refine norm_ (a' := ?_) ?_ ?_
   rotate_left
   ·show Act.put _ (some 25) _ = _
    simp only [PUz]
    rfl
   refine one_ (i := 20) (N := some 30) (bz 24 2097151) rfl rfl (one_of HT_.out (by kernel_rfl)) (by decide) (fun K hK => ?_)
   refine goes_ Tryz.func110 (by kernel_rfl) rfl #[.string (rdOf ByteArray.empty l0 x3_1)] (by rfl) rfl rfl MPz ?_
   with_reducible refine (Qr.calls k1 (rdOf ByteArray.empty l0 x3_1) t170 _ A11.out).mono ?_
   rintro e w16 ⟨rfl, hb⟩
   refine ⟨_, rfl, ?_⟩
   have n0_ := Aside0.mk (below_step HBa hb)
   clear HB
   have HB := n0_
   clear n0_
   (try clear hb)
   (try clear hb2)
   (try clear hk)
   (try clear hi)
   refine hK.out _ _ ⟨(HXz HB hw165_0 :), (HXz HB hw167_0 :), (HXz HB hw169_0 :)⟩ (fun hHeld => ?_)
   clear hK K
   refine norm_ (a' := ?_) ?_ ?_
   rotate_left
   ·show Act.put _ (some 30) _ = _
    simp only [PUz]
    rfl
   refine PYz 21 31 (bz 24 4194303) rfl rfl (any_of HT_.out (by kernel_rfl)) ?_
   refine PYz 22 32 (bz 24 8388607) rfl rfl (any_of HT_.out (by kernel_rfl)) ?_
   refine PYz 23 33 (bz 24 16777215) rfl rfl (any_of HT_.out (by kernel_rfl)) ?_
   refine done_ (done_of HT_.out (by kernel_rfl)) ?_
   try go_wp2
   go_roundg k1
   case measure => have := HK1.out; omega
   case rel => exact ⟨(wrap64 (x3_1 + 1)), EZc, H', ⟨by have := HK1.out; omega⟩, ⟨HBa⟩⟩
end Go.Proofs.YtmkeigielncpjaaGreatDoor.PFnAcl
