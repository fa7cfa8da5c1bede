-- Laid by this session's own program out of the translation; Lean checks it.
import Derived.Test.YtgkjlfimjnhbbaaGreatDoorQFnExactMayChangex0
import Derived.Test.YtgkjlfimjnhbbaaGreatDoorQFnExactMayChangex2
import Derived.Test.YtgkjlfimjnhbbaaGreatDoorQFnExactMayChangex3
namespace Go.Proofs.YtgkjlfimjnhbbaaGreatDoor.PFnExactMayChange
open Go.RowKit Go.Proofs.YtgkjlfimjnhbbaaGreatDoorW.PrintWords Go.Proofs.YtgkjlfimjnhbbaaGreatDoorW.PrintLast Go.Proofs.YtgkjlfimjnhbbaaGreatDoorW.PrintMore
attribute [local go_sem] max2_int min2_int max_two min_two max_three min_three max_four min_four   -- for this text's walks alone
set_option linter.unusedVariables false
set_option linter.unusedSimpArgs false
def spec_l04Names.l0 : Nat → List ByteArray → Int → Option (Bool)
 | 0, _, _ => none
 | k + 1, x0, x3 => if x3 < (x0.length : Int) then (if 0 ≤ x3 then ((spec_NameRight.f k (rdOf ByteArray.empty x0 x3)).bind fun t145 => (if t145 = true then (if x3 > 0 then (if 0 ≤ (wrap64 (x3 - 1)) then (if (wrap64 (x3 - 1)) < (x0.length : Int) then (if ((Op.bytesLess ((rdOf ByteArray.empty x0 (wrap64 (x3 - 1))).toList) ((rdOf ByteArray.empty x0 x3).toList)) = true) then (spec_l04Names.l0 k x0 (wrap64 (x3 + 1))) else (some false)) else (none)) else (none)) else (spec_l04Names.l0 k x0 (wrap64 (x3 + 1)))) else (some false))) else (none)) else (some true)
def spec_l04Names.f (k : Nat) (l0 : List ByteArray) : Option (Bool) := spec_l04Names.l0 k l0 0
theorem spec_l04Names.mono_l : ∀ k, (∀ y0 y1, LeO (spec_l04Names.l0 k y0 y1) (spec_l04Names.l0 (k + 1) y0 y1))
 | 0 => fun _ _ r h => by simp [spec_l04Names.l0] at h
 | k + 1 => by
  have ih0 := spec_l04Names.mono_l k
  ·intro y0 y1
   unfold spec_l04Names.l0
   repeat' first
   | (with_reducible exact ih0 _ _)
   | (with_reducible exact spec_NameRight.mono _ _)
   | (with_reducible exact LeO.refl _)
   | (with_reducible exact LeO.none _)
   | (with_reducible refine LeO.ite ?_ ?_)
   | (with_reducible refine LeO.bind ?_ (fun _ => ?_))
   | exact ih0 _ _
   | exact spec_NameRight.mono _ _
   | exact LeO.none _
   | refine LeO.ite ?_ ?_
   | refine LeO.bind ?_ (fun _ => ?_)
theorem spec_l04Names.mono : ∀ a0 k, LeO (spec_l04Names.f k a0) (spec_l04Names.f (k + 1) a0) := by
 intro a0 k
 have ih0 := spec_l04Names.mono_l k
 unfold spec_l04Names.f
 repeat' first
   | (with_reducible exact ih0 _ _)
   | (with_reducible exact spec_NameRight.mono _ _)
   | (with_reducible exact LeO.refl _)
   | (with_reducible exact LeO.none _)
   | (with_reducible refine LeO.ite ?_ ?_)
   | (with_reducible refine LeO.bind ?_ (fun _ => ?_))
   | exact ih0 _ _
   | exact spec_NameRight.mono _ _
   | exact LeO.none _
   | refine LeO.ite ?_ ?_
   | refine LeO.bind ?_ (fun _ => ?_)
set_option maxHeartbeats 8000000 in
set_option maxRecDepth 100000 in
theorem spec_l04Names.calls (k : Nat) (A0 : Option Addr) (c0 : Nat) (l0 : List ByteArray) (r : Bool) (w : World) (hr0 : Kd.C Kd.string w A0 l0.length l0) (hc0 : l0.length ≤ c0) (h : spec_l04Names.f k l0 = some r) :
  Calls Tryz.prog 114 #[.slice A0 l0.length c0] w fun e w' => e = .returned (.bool r) ∧ Drawn0 w w' := by
 have HR0 := Aside0.mk hr0
 have HC0 := Aside0.mk hc0
 clear hr0 hc0
 have H : (spec_l04Names.l0 k l0 0) = some r := h
 clear h
 have H' := Aside0.mk H
 clear H
 go_enter Tryz.func114, Tryz.ntmps114
 go_wp2
 repeat (go_quiet (fail); try go_wp2)
 go_loopg [3] k (fun kq v3 w' => ∃ (x3_1 : Int), v3 = .int .i64 x3_1 ∧ Aside0 (spec_l04Names.l0 kq l0 x3_1 = some r) ∧ Aside0 (kq ≤ k) ∧ Drawn0 w w')
 case atStart => exact ⟨(0), EZc, H', ⟨Nat.le_refl _⟩, DRz⟩
 case round =>
  clear H'
  try clear c1
  obtain ⟨x3_1, rfl, HA, HK1, ⟨m1, rfl⟩⟩ := hrel
  cases gk with
  | zero => exact absurd HA.out (by simp [spec_l04Names.l0])
  | succ k1 =>
   have H := HA.out
   clear HA
   simp only [spec_l04Names.l0] at H
   by_cases c2 : x3_1 < (l0.length : Int)
   rotate_left
   ·rw [if_neg c2] at H
    have c2b0 : decide (x3_1 < (l0.length : Int)) = false := decide_eq_false c2
    clear c2
    obtain rfl := Option.some.inj H
    go_wp2
    repeat (go_quiet (fail); try go_wp2)
    go_ret
    exact ⟨EZb, DRz⟩
   rw [if_pos c2] at H
   have c2b0 : decide (x3_1 < (l0.length : Int)) = true := decide_eq_true c2
   clear c2
   by_cases c3 : 0 ≤ x3_1
   rotate_left
   ·rw [if_neg c3] at H
    exact absurd H (by simp)
   rw [if_pos c3] at H
   have c3b0 : decide (0 ≤ x3_1) = true := decide_eq_true c3
   clear c3
   replace H := Option.bind_eq_some_iff.mp H
   obtain ⟨t145, A40, H⟩ := H
   replace H : (if t145 = true then (if x3_1 > 0 then (if 0 ≤ (wrap64 (x3_1 - 1)) then (if (wrap64 (x3_1 - 1)) < (l0.length : Int) then (if ((Op.bytesLess ((rdOf ByteArray.empty l0 (wrap64 (x3_1 - 1))).toList) ((rdOf ByteArray.empty l0 x3_1).toList)) = true) then (spec_l04Names.l0 k1 l0 (wrap64 (x3_1 + 1))) else (some false)) else (none)) else (none)) else (spec_l04Names.l0 k1 l0 (wrap64 (x3_1 + 1)))) else (some false)) = some r := H
   have A4 := Aside0.mk A40
   clear A40
   by_cases c5 : t145 = true
   rotate_left
   ·replace c5 := Bool.eq_false_iff.mpr c5
    subst c5
    have H1 : (some false) = some r := by rw [if_neg (show ¬ (false = true) by decide)] at H; exact H
    clear H
    have H := H1
    clear H1
    obtain rfl := Option.some.inj H
    have p144 : 0 ≤ (x3_1 : Int) := ODz
    have q144 : x3_1 < (l0.length : Int) := ODz
    obtain ⟨ad144, e144, hx144_0⟩ := Kd.at_string HR0.out x3_1 p144 q144
    cases e144
    replace p144 := eq_true p144
    replace q144 := eq_true q144
    go_wp2_with (first | (go_at_call 26; (with_reducible refine (spec_NameRight.calls k1 (rdOf ByteArray.empty l0 x3_1) false _ A4.out).mono ?_); rintro e w' ⟨rfl, ⟨nd, rfl⟩⟩; (try first | exact ⟨rfl, _, World.drewN_drewN _ _ _⟩ | exact ⟨rfl, _, Eq.trans (World.drewN_drewN _ _ _) (congrArg (World.drewN _) (Nat.add_assoc _ _ _))⟩)))
    repeat (go_quiet (first | (go_at_call 26; (with_reducible refine (spec_NameRight.calls k1 (rdOf ByteArray.empty l0 x3_1) false _ A4.out).mono ?_); rintro e w' ⟨rfl, ⟨nd, rfl⟩⟩; (try first | exact ⟨rfl, _, World.drewN_drewN _ _ _⟩ | exact ⟨rfl, _, Eq.trans (World.drewN_drewN _ _ _) (congrArg (World.drewN _) (Nat.add_assoc _ _ _))⟩))); try go_wp2_with (first | (go_at_call 26; (with_reducible refine (spec_NameRight.calls k1 (rdOf ByteArray.empty l0 x3_1) false _ A4.out).mono ?_); rintro e w' ⟨rfl, ⟨nd, rfl⟩⟩; (try first | exact ⟨rfl, _, World.drewN_drewN _ _ _⟩ | exact ⟨rfl, _, Eq.trans (World.drewN_drewN _ _ _) (congrArg (World.drewN _) (Nat.add_assoc _ _ _))⟩))))
    go_ret
    exact ⟨EZb, DRz⟩
   subst c5
   have H1 : (if x3_1 > 0 then (if 0 ≤ (wrap64 (x3_1 - 1)) then (if (wrap64 (x3_1 - 1)) < (l0.length : Int) then (if ((Op.bytesLess ((rdOf ByteArray.empty l0 (wrap64 (x3_1 - 1))).toList) ((rdOf ByteArray.empty l0 x3_1).toList)) = true) then (spec_l04Names.l0 k1 l0 (wrap64 (x3_1 + 1))) else (some false)) else (none)) else (none)) else (spec_l04Names.l0 k1 l0 (wrap64 (x3_1 + 1)))) = some r := by rw [if_pos rfl] at H; exact H
   clear H
   have H := H1
   clear H1
   by_cases c6 : x3_1 > 0
   rotate_left
   ·rw [if_neg c6] at H
    have c6b0 : decide (0 < x3_1) = false := decide_eq_false c6
    clear c6
    have H' := Aside0.mk H
    clear H
    have p144 : 0 ≤ (x3_1 : Int) := ODz
    have q144 : x3_1 < (l0.length : Int) := ODz
    obtain ⟨ad144, e144, hx144_0⟩ := Kd.at_string HR0.out x3_1 p144 q144
    cases e144
    replace p144 := eq_true p144
    replace q144 := eq_true q144
    go_wp2_with (first | (go_at_call 26; (with_reducible refine (spec_NameRight.calls k1 (rdOf ByteArray.empty l0 x3_1) true _ A4.out).mono ?_); rintro e w' ⟨rfl, ⟨nd, rfl⟩⟩; (try first | exact ⟨rfl, _, World.drewN_drewN _ _ _⟩ | exact ⟨rfl, _, Eq.trans (World.drewN_drewN _ _ _) (congrArg (World.drewN _) (Nat.add_assoc _ _ _))⟩)))
    repeat (go_quiet (first | (go_at_call 26; (with_reducible refine (spec_NameRight.calls k1 (rdOf ByteArray.empty l0 x3_1) true _ A4.out).mono ?_); rintro e w' ⟨rfl, ⟨nd, rfl⟩⟩; (try first | exact ⟨rfl, _, World.drewN_drewN _ _ _⟩ | exact ⟨rfl, _, Eq.trans (World.drewN_drewN _ _ _) (congrArg (World.drewN _) (Nat.add_assoc _ _ _))⟩))); try go_wp2_with (first | (go_at_call 26; (with_reducible refine (spec_NameRight.calls k1 (rdOf ByteArray.empty l0 x3_1) true _ A4.out).mono ?_); rintro e w' ⟨rfl, ⟨nd, rfl⟩⟩; (try first | exact ⟨rfl, _, World.drewN_drewN _ _ _⟩ | exact ⟨rfl, _, Eq.trans (World.drewN_drewN _ _ _) (congrArg (World.drewN _) (Nat.add_assoc _ _ _))⟩))))
    go_roundg k1
    case measure => have := HK1.out; omega
    case rel => exact ⟨(wrap64 (x3_1 + 1)), EZc, H', ⟨by have := HK1.out; omega⟩, DRz⟩
   rw [if_pos c6] at H
   have c6b0 : decide (0 < x3_1) = true := decide_eq_true c6
   clear c6
   obtain ⟨ji7, hji7⟩ : ∃ j_ : Int, (wrap64 (x3_1 - 1)) = j_ := ⟨_, rfl⟩
   replace H : (if 0 ≤ (ji7) then (if (ji7) < (l0.length : Int) then (if ((Op.bytesLess ((rdOf ByteArray.empty l0 (ji7)).toList) ((rdOf ByteArray.empty l0 x3_1).toList)) = true) then (spec_l04Names.l0 k1 l0 (wrap64 (x3_1 + 1))) else (some false)) else (none)) else (none)) = some r := by first | (rw [hji7] at H; exact H) | (simp only [hji7] at H ⊢; exact H)
   (try rw [hji7] at A4)
   have hji7w : (IntKind.i64.wrap (x3_1 - 1)) = ji7 := (i64_w _).trans hji7
   by_cases c8 : 0 ≤ (ji7)
   rotate_left
   ·rw [if_neg c8] at H
    exact absurd H (by simp)
   rw [if_pos c8] at H
   have c8b0 : decide (0 ≤ (ji7)) = true := decide_eq_true c8
   clear c8
   by_cases c9 : (ji7) < (l0.length : Int)
   rotate_left
   ·rw [if_neg c9] at H
    exact absurd H (by simp)
   rw [if_pos c9] at H
   have c9b0 : decide ((ji7) < (l0.length : Int)) = true := decide_eq_true c9
   clear c9
   by_cases c10 : ((Op.bytesLess ((rdOf ByteArray.empty l0 (ji7)).toList) ((rdOf ByteArray.empty l0 x3_1).toList)) = true)
   ·rw [if_pos c10] at H
    have c10b0 : (Op.bytesLess ((rdOf ByteArray.empty l0 (ji7)).toList) ((rdOf ByteArray.empty l0 x3_1).toList)) = true := c10
    clear c10
    have H' := Aside0.mk H
    clear H
    have p144 : 0 ≤ (x3_1 : Int) := ODz
    have q144 : x3_1 < (l0.length : Int) := ODz
    obtain ⟨ad144, e144, hx144_0⟩ := Kd.at_string HR0.out x3_1 p144 q144
    cases e144
    replace p144 := eq_true p144
    replace q144 := eq_true q144
    go_wp2_with (first | (go_at_call 26; (with_reducible refine (spec_NameRight.calls k1 (rdOf ByteArray.empty l0 x3_1) true _ A4.out).mono ?_); rintro e w' ⟨rfl, ⟨nd, rfl⟩⟩; (try first | exact ⟨rfl, _, World.drewN_drewN _ _ _⟩ | exact ⟨rfl, _, Eq.trans (World.drewN_drewN _ _ _) (congrArg (World.drewN _) (Nat.add_assoc _ _ _))⟩); have p146 : 0 ≤ ((ji7) : Int) := ODz; have q146 : (ji7) < (l0.length : Int) := ODz; obtain ⟨ad146, e146, hx146_0⟩ := Kd.at_string HR0.out (ji7) p146 q146; obtain rfl : ad144 = ad146 := (by injection e146); replace p146 := eq_true p146; replace q146 := eq_true q146; have p147 : 0 ≤ (x3_1 : Int) := ODz; have q147 : x3_1 < (l0.length : Int) := ODz; obtain ⟨ad147, e147, hx147_0⟩ := Kd.at_string HR0.out x3_1 p147 q147; obtain rfl : ad144 = ad147 := (by injection e147); replace p147 := eq_true p147; replace q147 := eq_true q147))
    repeat (go_quiet (first | (go_at_call 26; (with_reducible refine (spec_NameRight.calls k1 (rdOf ByteArray.empty l0 x3_1) true _ A4.out).mono ?_); rintro e w' ⟨rfl, ⟨nd, rfl⟩⟩; (try first | exact ⟨rfl, _, World.drewN_drewN _ _ _⟩ | exact ⟨rfl, _, Eq.trans (World.drewN_drewN _ _ _) (congrArg (World.drewN _) (Nat.add_assoc _ _ _))⟩); have p146 : 0 ≤ ((ji7) : Int) := ODz; have q146 : (ji7) < (l0.length : Int) := ODz; obtain ⟨ad146, e146, hx146_0⟩ := Kd.at_string HR0.out (ji7) p146 q146; obtain rfl : ad144 = ad146 := (by injection e146); replace p146 := eq_true p146; replace q146 := eq_true q146; have p147 : 0 ≤ (x3_1 : Int) := ODz; have q147 : x3_1 < (l0.length : Int) := ODz; obtain ⟨ad147, e147, hx147_0⟩ := Kd.at_string HR0.out x3_1 p147 q147; obtain rfl : ad144 = ad147 := (by injection e147); replace p147 := eq_true p147; replace q147 := eq_true q147)); try go_wp2_with (first | (go_at_call 26; (with_reducible refine (spec_NameRight.calls k1 (rdOf ByteArray.empty l0 x3_1) true _ A4.out).mono ?_); rintro e w' ⟨rfl, ⟨nd, rfl⟩⟩; (try first | exact ⟨rfl, _, World.drewN_drewN _ _ _⟩ | exact ⟨rfl, _, Eq.trans (World.drewN_drewN _ _ _) (congrArg (World.drewN _) (Nat.add_assoc _ _ _))⟩); have p146 : 0 ≤ ((ji7) : Int) := ODz; have q146 : (ji7) < (l0.length : Int) := ODz; obtain ⟨ad146, e146, hx146_0⟩ := Kd.at_string HR0.out (ji7) p146 q146; obtain rfl : ad144 = ad146 := (by injection e146); replace p146 := eq_true p146; replace q146 := eq_true q146; have p147 : 0 ≤ (x3_1 : Int) := ODz; have q147 : x3_1 < (l0.length : Int) := ODz; obtain ⟨ad147, e147, hx147_0⟩ := Kd.at_string HR0.out x3_1 p147 q147; obtain rfl : ad144 = ad147 := (by injection e147); replace p147 := eq_true p147; replace q147 := eq_true q147)))
    go_roundg k1
    case measure => have := HK1.out; omega
    case rel => exact ⟨(wrap64 (x3_1 + 1)), EZc, H', ⟨by have := HK1.out; omega⟩, DRz⟩
   rw [if_neg c10] at H
   have c10b0 : (Op.bytesLess ((rdOf ByteArray.empty l0 (ji7)).toList) ((rdOf ByteArray.empty l0 x3_1).toList)) = false := by simpa using c10
   clear c10
   obtain rfl := Option.some.inj H
   have p144 : 0 ≤ (x3_1 : Int) := ODz
   have q144 : x3_1 < (l0.length : Int) := ODz
   obtain ⟨ad144, e144, hx144_0⟩ := Kd.at_string HR0.out x3_1 p144 q144
   cases e144
   replace p144 := eq_true p144
   replace q144 := eq_true q144
   go_wp2_with (first | (go_at_call 26; (with_reducible refine (spec_NameRight.calls k1 (rdOf ByteArray.empty l0 x3_1) true _ A4.out).mono ?_); rintro e w' ⟨rfl, ⟨nd, rfl⟩⟩; (try first | exact ⟨rfl, _, World.drewN_drewN _ _ _⟩ | exact ⟨rfl, _, Eq.trans (World.drewN_drewN _ _ _) (congrArg (World.drewN _) (Nat.add_assoc _ _ _))⟩); have p146 : 0 ≤ ((ji7) : Int) := ODz; have q146 : (ji7) < (l0.length : Int) := ODz; obtain ⟨ad146, e146, hx146_0⟩ := Kd.at_string HR0.out (ji7) p146 q146; obtain rfl : ad144 = ad146 := (by injection e146); replace p146 := eq_true p146; replace q146 := eq_true q146; have p147 : 0 ≤ (x3_1 : Int) := ODz; have q147 : x3_1 < (l0.length : Int) := ODz; obtain ⟨ad147, e147, hx147_0⟩ := Kd.at_string HR0.out x3_1 p147 q147; obtain rfl : ad144 = ad147 := (by injection e147); replace p147 := eq_true p147; replace q147 := eq_true q147))
   repeat (go_quiet (first | (go_at_call 26; (with_reducible refine (spec_NameRight.calls k1 (rdOf ByteArray.empty l0 x3_1) true _ A4.out).mono ?_); rintro e w' ⟨rfl, ⟨nd, rfl⟩⟩; (try first | exact ⟨rfl, _, World.drewN_drewN _ _ _⟩ | exact ⟨rfl, _, Eq.trans (World.drewN_drewN _ _ _) (congrArg (World.drewN _) (Nat.add_assoc _ _ _))⟩); have p146 : 0 ≤ ((ji7) : Int) := ODz; have q146 : (ji7) < (l0.length : Int) := ODz; obtain ⟨ad146, e146, hx146_0⟩ := Kd.at_string HR0.out (ji7) p146 q146; obtain rfl : ad144 = ad146 := (by injection e146); replace p146 := eq_true p146; replace q146 := eq_true q146; have p147 : 0 ≤ (x3_1 : Int) := ODz; have q147 : x3_1 < (l0.length : Int) := ODz; obtain ⟨ad147, e147, hx147_0⟩ := Kd.at_string HR0.out x3_1 p147 q147; obtain rfl : ad144 = ad147 := (by injection e147); replace p147 := eq_true p147; replace q147 := eq_true q147)); try go_wp2_with (first | (go_at_call 26; (with_reducible refine (spec_NameRight.calls k1 (rdOf ByteArray.empty l0 x3_1) true _ A4.out).mono ?_); rintro e w' ⟨rfl, ⟨nd, rfl⟩⟩; (try first | exact ⟨rfl, _, World.drewN_drewN _ _ _⟩ | exact ⟨rfl, _, Eq.trans (World.drewN_drewN _ _ _) (congrArg (World.drewN _) (Nat.add_assoc _ _ _))⟩); have p146 : 0 ≤ ((ji7) : Int) := ODz; have q146 : (ji7) < (l0.length : Int) := ODz; obtain ⟨ad146, e146, hx146_0⟩ := Kd.at_string HR0.out (ji7) p146 q146; obtain rfl : ad144 = ad146 := (by injection e146); replace p146 := eq_true p146; replace q146 := eq_true q146; have p147 : 0 ≤ (x3_1 : Int) := ODz; have q147 : x3_1 < (l0.length : Int) := ODz; obtain ⟨ad147, e147, hx147_0⟩ := Kd.at_string HR0.out x3_1 p147 q147; obtain rfl : ad144 = ad147 := (by injection e147); replace p147 := eq_true p147; replace q147 := eq_true q147)))
   go_ret
   exact ⟨by first | rfl | (simp only [bne_nil_, beq_nil_]; rfl) | (simp; done) | (simp only [← hji7] <;> (first | rfl | simp)) | (simp [*]; done), DRz⟩
def spec_l06Rule.f (k : Nat) (a0_0 : ByteArray) (l0_1 : List (S98)) (l0_2 : List ByteArray) (a0_3 : Int) (a0_4 : Bool) : Option (Bool) := if a0_0.toList = ([42] : List UInt8) then ((spec_DnRight.f k l0_1).bind fun t149 => (if t149 = true then (if (l0_2.length : Int) ≤ 8 then ((spec_l04Names.f k l0_2).bind fun t150 => (if t150 = true then ((spec_l02Is.f a0_3 1 4).bind fun t151 => (some t151)) else (some false))) else (some false)) else (some false))) else ((spec_NameRight.f k a0_0).bind fun t152 => (if t152 = true then ((spec_DnRight.f k l0_1).bind fun t153 => (if t153 = true then (if (l0_2.length : Int) ≤ 8 then ((spec_l04Names.f k l0_2).bind fun t154 => (if t154 = true then ((spec_l02Is.f a0_3 1 4).bind fun t155 => (some t155)) else (some false))) else (some false)) else (some false))) else (some false)))
theorem spec_l06Rule.mono : ∀ a0 a1 a2 a3 a4 k, LeO (spec_l06Rule.f k a0 a1 a2 a3 a4) (spec_l06Rule.f (k + 1) a0 a1 a2 a3 a4) := by
 intro a0 a1 a2 a3 a4 k
 unfold spec_l06Rule.f
 repeat' first
   | (with_reducible exact spec_DnRight.mono _ _)
   | (with_reducible exact spec_NameRight.mono _ _)
   | (with_reducible exact spec_l04Names.mono _ _)
   | (with_reducible exact LeO.refl _)
   | (with_reducible exact LeO.none _)
   | (with_reducible refine LeO.ite ?_ ?_)
   | (with_reducible refine LeO.bind ?_ (fun _ => ?_))
   | exact spec_DnRight.mono _ _
   | exact spec_NameRight.mono _ _
   | exact spec_l04Names.mono _ _
   | exact LeO.none _
   | refine LeO.ite ?_ ?_
   | refine LeO.bind ?_ (fun _ => ?_)
set_option maxHeartbeats 8000000 in
set_option maxRecDepth 100000 in
theorem spec_l06Rule.calls (k : Nat) (a0_0 : ByteArray) (A0_1 : Option Addr) (c0_1 : Nat) (l0_1 : List (S98)) (A0_2 : Option Addr) (c0_2 : Nat) (l0_2 : List ByteArray) (a0_3 : Int) (a0_4 : Bool) (r : Bool) (w : World) (hr0_1 : Kd.C k98 w A0_1 l0_1.length l0_1) (hc0_1 : l0_1.length ≤ c0_1) (hr0_2 : Kd.C Kd.string w A0_2 l0_2.length l0_2) (hc0_2 : l0_2.length ≤ c0_2) (h : spec_l06Rule.f k a0_0 l0_1 l0_2 a0_3 a0_4 = some r) :
  Calls Tryz.prog 74 #[.agg #[.string a0_0, .slice A0_1 l0_1.length c0_1, .slice A0_2 l0_2.length c0_2, .int .i64 a0_3, .bool a0_4]] w fun e w' => e = .returned (.bool r) ∧ Below w.heap.size w w' := by
 have hu53 := Tryz.underlying53
 have HR0_1 := Aside0.mk hr0_1
 have HC0_1 := Aside0.mk hc0_1
 clear hr0_1 hc0_1
 have HR0_2 := Aside0.mk hr0_2
 have HC0_2 := Aside0.mk hc0_2
 clear hr0_2 hc0_2
 have HB := Aside0.mk (Below.refl w.heap.size w)
 have H : (if a0_0.toList = ([42] : List UInt8) then ((spec_DnRight.f k l0_1).bind fun t149 => (if t149 = true then (if (l0_2.length : Int) ≤ 8 then ((spec_l04Names.f k l0_2).bind fun t150 => (if t150 = true then ((spec_l02Is.f a0_3 1 4).bind fun t151 => (some t151)) else (some false))) else (some false)) else (some false))) else ((spec_NameRight.f k a0_0).bind fun t152 => (if t152 = true then ((spec_DnRight.f k l0_1).bind fun t153 => (if t153 = true then (if (l0_2.length : Int) ≤ 8 then ((spec_l04Names.f k l0_2).bind fun t154 => (if t154 = true then ((spec_l02Is.f a0_3 1 4).bind fun t155 => (some t155)) else (some false))) else (some false)) else (some false))) else (some false)))) = some r := h
 clear h
 by_cases c2 : a0_0.toList = ([42] : List UInt8)
 ·rw [if_pos c2] at H
  have c2b0 : (a0_0.toList == ([42] : List UInt8)) = true := beq_iff_eq.mpr c2
  have c2b1 : (a0_0.toList != ([42] : List UInt8)) = false := bne_eq_false_iff_eq.mpr c2
  clear c2
  replace H := Option.bind_eq_some_iff.mp H
  obtain ⟨t149, A30, H⟩ := H
  replace H : (if t149 = true then (if (l0_2.length : Int) ≤ 8 then ((spec_l04Names.f k l0_2).bind fun t150 => (if t150 = true then ((spec_l02Is.f a0_3 1 4).bind fun t151 => (some t151)) else (some false))) else (some false)) else (some false)) = some r := H
  have A3 := Aside0.mk A30
  clear A30
  by_cases c4 : t149 = true
  rotate_left
  ·replace c4 := Bool.eq_false_iff.mpr c4
   subst c4
   have H1 : (some false) = some r := by rw [if_neg (show ¬ (false = true) by decide)] at H; exact H
   clear H
   have H := H1
   clear H1
   obtain rfl := Option.some.inj H
   go_enter Tryz.func74, Tryz.ntmps74
   go_wp2_with (first | ((with_reducible refine gate_dst (N := 1) rfl ?_); (try (refine gate_guard (by rfl) ?_; dsimp only)); refine box_event ?hg (N := 1) ?hd (cs := #[.string a0_0, .slice A0_1 l0_1.length c0_1, .slice A0_2 l0_2.length c0_2, .int .i64 a0_3, .bool a0_4]) (t := 53) ?hr ?_; (case hd => rfl); (case hg => rfl); (case hr => first | (go_simp; done) | (go_simp; rfl)); intro gb148 hg w21 hbox hb; have n0_ := Aside0.mk (below_step HBa hb); have n1_ := Aside0.mk (hbox); have n2_ := BSz w hg HBa; have n3_ := BSz w hg HBa; clear HB; have HB := n0_; have BK148 := n1_; have GW148 := n2_; have GE148 := n3_; clear n0_ n1_ n2_ n3_; clear hb hbox hg; have hcz22_0 := C1z BK148; have hcz22_1 := C2z BK148; have hcz22_2 := C3z BK148; have hcz22_3 := C4z BK148; have hcz22_4 := C5z BK148; have hfz22_0 := blk_frozen BK148.out 0; have hfz22_1 := blk_frozen BK148.out 1; have hfz22_2 := blk_frozen BK148.out 2; have hfz22_3 := blk_frozen BK148.out 3; have hfz22_4 := blk_frozen BK148.out 4) | (go_at_call 25; (with_reducible refine (spec_DnRight.calls k _ _ l0_1 false _ ?side1 ?side2 A3.out).mono ?_); (case side1 => exact KCz (Kd.C_below HR0_1.out HB.out)); (case side2 => exact HC0_1.out); rintro e w23 ⟨rfl, hb⟩; have n0_ := BBz BK148 hb; have n1_ := Aside0.mk (below_step (HBb GE148) hb); clear BK148; clear HB; have BK148 := n0_; have HB := n1_; clear n0_ n1_; (try clear hb); (try clear hb2); (try clear hk); (try clear hi)))
   go_ret
   exact ⟨EZa, HBb GE148⟩
  subst c4
  have H1 : (if (l0_2.length : Int) ≤ 8 then ((spec_l04Names.f k l0_2).bind fun t150 => (if t150 = true then ((spec_l02Is.f a0_3 1 4).bind fun t151 => (some t151)) else (some false))) else (some false)) = some r := by rw [if_pos rfl] at H; exact H
  clear H
  have H := H1
  clear H1
  by_cases c5 : (l0_2.length : Int) ≤ 8
  rotate_left
  ·rw [if_neg c5] at H
   have c5b0 : decide ((l0_2.length : Int) ≤ 8) = false := decide_eq_false c5
   have c5b1 : decide (l0_2.length ≤ 8) = false := decide_eq_false (by omega)
   clear c5
   obtain rfl := Option.some.inj H
   go_enter Tryz.func74, Tryz.ntmps74
   go_wp2_with (first | ((with_reducible refine gate_dst (N := 1) rfl ?_); (try (refine gate_guard (by rfl) ?_; dsimp only)); refine box_event ?hg (N := 1) ?hd (cs := #[.string a0_0, .slice A0_1 l0_1.length c0_1, .slice A0_2 l0_2.length c0_2, .int .i64 a0_3, .bool a0_4]) (t := 53) ?hr ?_; (case hd => rfl); (case hg => rfl); (case hr => first | (go_simp; done) | (go_simp; rfl)); intro gb148 hg w17 hbox hb; have n0_ := Aside0.mk (below_step HBa hb); have n1_ := Aside0.mk (hbox); have n2_ := BSz w hg HBa; have n3_ := BSz w hg HBa; clear HB; have HB := n0_; have BK148 := n1_; have GW148 := n2_; have GE148 := n3_; clear n0_ n1_ n2_ n3_; clear hb hbox hg; have hcz18_0 := C1z BK148; have hcz18_1 := C2z BK148; have hcz18_2 := C3z BK148; have hcz18_3 := C4z BK148; have hcz18_4 := C5z BK148; have hfz18_0 := blk_frozen BK148.out 0; have hfz18_1 := blk_frozen BK148.out 1; have hfz18_2 := blk_frozen BK148.out 2; have hfz18_3 := blk_frozen BK148.out 3; have hfz18_4 := blk_frozen BK148.out 4) | (go_at_call 25; (with_reducible refine (spec_DnRight.calls k _ _ l0_1 true _ ?side1 ?side2 A3.out).mono ?_); (case side1 => exact KCz (Kd.C_below HR0_1.out HB.out)); (case side2 => exact HC0_1.out); rintro e w19 ⟨rfl, hb⟩; have n0_ := BBz BK148 hb; have n1_ := Aside0.mk (below_step (HBb GE148) hb); clear BK148; clear HB; have BK148 := n0_; have HB := n1_; clear n0_ n1_; (try clear hb); (try clear hb2); (try clear hk); (try clear hi); have hcz20_0 := C1z BK148; have hcz20_1 := C2z BK148; have hcz20_2 := C3z BK148; have hcz20_3 := C4z BK148; have hcz20_4 := C5z BK148; have hfz20_0 := blk_frozen BK148.out 0; have hfz20_1 := blk_frozen BK148.out 1; have hfz20_2 := blk_frozen BK148.out 2; have hfz20_3 := blk_frozen BK148.out 3; have hfz20_4 := blk_frozen BK148.out 4))
   go_ret
   exact ⟨EZa, HBb GE148⟩
  rw [if_pos c5] at H
  have c5b0 : decide ((l0_2.length : Int) ≤ 8) = true := decide_eq_true c5
  have c5b1 : decide (l0_2.length ≤ 8) = true := decide_eq_true (by omega)
  clear c5
  replace H := Option.bind_eq_some_iff.mp H
  obtain ⟨t150, A60, H⟩ := H
  replace H : (if t150 = true then ((spec_l02Is.f a0_3 1 4).bind fun t151 => (some t151)) else (some false)) = some r := H
  have A6 := Aside0.mk A60
  clear A60
  by_cases c7 : t150 = true
  ·subst c7
   have H1 : ((spec_l02Is.f a0_3 1 4).bind fun t151 => (some t151)) = some r := by rw [if_pos rfl] at H; exact H
   clear H
   have H := H1
   clear H1
   replace H := Option.bind_eq_some_iff.mp H
   obtain ⟨t151, A80, H⟩ := H
   replace H : (some t151) = some r := H
   have A8 := Aside0.mk A80
   clear A80
   obtain rfl := Option.some.inj H
   go_enter Tryz.func74, Tryz.ntmps74
   go_wp2_with (first | ((with_reducible refine gate_dst (N := 1) rfl ?_); (try (refine gate_guard (by rfl) ?_; dsimp only)); refine box_event ?hg (N := 1) ?hd (cs := #[.string a0_0, .slice A0_1 l0_1.length c0_1, .slice A0_2 l0_2.length c0_2, .int .i64 a0_3, .bool a0_4]) (t := 53) ?hr ?_; (case hd => rfl); (case hg => rfl); (case hr => first | (go_simp; done) | (go_simp; rfl)); intro gb148 hg w9 hbox hb; have n0_ := Aside0.mk (below_step HBa hb); have n1_ := Aside0.mk (hbox); have n2_ := BSz w hg HBa; have n3_ := BSz w hg HBa; clear HB; have HB := n0_; have BK148 := n1_; have GW148 := n2_; have GE148 := n3_; clear n0_ n1_ n2_ n3_; clear hb hbox hg; have hcz10_0 := C1z BK148; have hcz10_1 := C2z BK148; have hcz10_2 := C3z BK148; have hcz10_3 := C4z BK148; have hcz10_4 := C5z BK148; have hfz10_0 := blk_frozen BK148.out 0; have hfz10_1 := blk_frozen BK148.out 1; have hfz10_2 := blk_frozen BK148.out 2; have hfz10_3 := blk_frozen BK148.out 3; have hfz10_4 := blk_frozen BK148.out 4) | (go_at_call 25; (with_reducible refine (spec_DnRight.calls k _ _ l0_1 true _ ?side1 ?side2 A3.out).mono ?_); (case side1 => exact KCz (Kd.C_below HR0_1.out HB.out)); (case side2 => exact HC0_1.out); rintro e w11 ⟨rfl, hb⟩; have n0_ := BBz BK148 hb; have n1_ := Aside0.mk (below_step (HBb GE148) hb); clear BK148; clear HB; have BK148 := n0_; have HB := n1_; clear n0_ n1_; (try clear hb); (try clear hb2); (try clear hk); (try clear hi); have hcz12_0 := C1z BK148; have hcz12_1 := C2z BK148; have hcz12_2 := C3z BK148; have hcz12_3 := C4z BK148; have hcz12_4 := C5z BK148; have hfz12_0 := blk_frozen BK148.out 0; have hfz12_1 := blk_frozen BK148.out 1; have hfz12_2 := blk_frozen BK148.out 2; have hfz12_3 := blk_frozen BK148.out 3; have hfz12_4 := blk_frozen BK148.out 4) | (go_at_call 114; (with_reducible refine (spec_l04Names.calls k _ _ l0_2 true _ ?side1 ?side2 A6.out).mono ?_); (case side1 => exact KCz (Kd.C_below HR0_2.out HB.out)); (case side2 => exact HC0_2.out); rintro e w' ⟨rfl, ⟨nd, rfl⟩⟩) | (go_at_call 70; (with_reducible refine (spec_l02Is.calls a0_3 1 4 t151 _ A8.out).mono ?_); rintro e w' ⟨rfl, ⟨nd, rfl⟩⟩))
   go_ret
   exact ⟨EZa, HBb GE148⟩
  replace c7 := Bool.eq_false_iff.mpr c7
  subst c7
  have H1 : (some false) = some r := by rw [if_neg (show ¬ (false = true) by decide)] at H; exact H
  clear H
  have H := H1
  clear H1
  obtain rfl := Option.some.inj H
  go_enter Tryz.func74, Tryz.ntmps74
  go_wp2_with (first | ((with_reducible refine gate_dst (N := 1) rfl ?_); (try (refine gate_guard (by rfl) ?_; dsimp only)); refine box_event ?hg (N := 1) ?hd (cs := #[.string a0_0, .slice A0_1 l0_1.length c0_1, .slice A0_2 l0_2.length c0_2, .int .i64 a0_3, .bool a0_4]) (t := 53) ?hr ?_; (case hd => rfl); (case hg => rfl); (case hr => first | (go_simp; done) | (go_simp; rfl)); intro gb148 hg w13 hbox hb; have n0_ := Aside0.mk (below_step HBa hb); have n1_ := Aside0.mk (hbox); have n2_ := BSz w hg HBa; have n3_ := BSz w hg HBa; clear HB; have HB := n0_; have BK148 := n1_; have GW148 := n2_; have GE148 := n3_; clear n0_ n1_ n2_ n3_; clear hb hbox hg; have hcz14_0 := C1z BK148; have hcz14_1 := C2z BK148; have hcz14_2 := C3z BK148; have hcz14_3 := C4z BK148; have hcz14_4 := C5z BK148; have hfz14_0 := blk_frozen BK148.out 0; have hfz14_1 := blk_frozen BK148.out 1; have hfz14_2 := blk_frozen BK148.out 2; have hfz14_3 := blk_frozen BK148.out 3; have hfz14_4 := blk_frozen BK148.out 4) | (go_at_call 25; (with_reducible refine (spec_DnRight.calls k _ _ l0_1 true _ ?side1 ?side2 A3.out).mono ?_); (case side1 => exact KCz (Kd.C_below HR0_1.out HB.out)); (case side2 => exact HC0_1.out); rintro e w15 ⟨rfl, hb⟩; have n0_ := BBz BK148 hb; have n1_ := Aside0.mk (below_step (HBb GE148) hb); clear BK148; clear HB; have BK148 := n0_; have HB := n1_; clear n0_ n1_; (try clear hb); (try clear hb2); (try clear hk); (try clear hi); have hcz16_0 := C1z BK148; have hcz16_1 := C2z BK148; have hcz16_2 := C3z BK148; have hcz16_3 := C4z BK148; have hcz16_4 := C5z BK148; have hfz16_0 := blk_frozen BK148.out 0; have hfz16_1 := blk_frozen BK148.out 1; have hfz16_2 := blk_frozen BK148.out 2; have hfz16_3 := blk_frozen BK148.out 3; have hfz16_4 := blk_frozen BK148.out 4) | (go_at_call 114; (with_reducible refine (spec_l04Names.calls k _ _ l0_2 false _ ?side1 ?side2 A6.out).mono ?_); (case side1 => exact KCz (Kd.C_below HR0_2.out HB.out)); (case side2 => exact HC0_2.out); rintro e w' ⟨rfl, ⟨nd, rfl⟩⟩))
  go_ret
  exact ⟨EZa, HBb GE148⟩
 rw [if_neg c2] at H
 have c2b0 : (a0_0.toList == ([42] : List UInt8)) = false := beq_eq_false_iff_ne.mpr c2
 have c2b1 : (a0_0.toList != ([42] : List UInt8)) = true := bne_iff_ne.mpr c2
 replace H := Option.bind_eq_some_iff.mp H
 obtain ⟨t152, A240, H⟩ := H
 replace H : (if t152 = true then ((spec_DnRight.f k l0_1).bind fun t153 => (if t153 = true then (if (l0_2.length : Int) ≤ 8 then ((spec_l04Names.f k l0_2).bind fun t154 => (if t154 = true then ((spec_l02Is.f a0_3 1 4).bind fun t155 => (some t155)) else (some false))) else (some false)) else (some false))) else (some false)) = some r := H
 have A24 := Aside0.mk A240
 clear A240
 by_cases c25 : t152 = true
 rotate_left
 ·replace c25 := Bool.eq_false_iff.mpr c25
  subst c25
  have H1 : (some false) = some r := by rw [if_neg (show ¬ (false = true) by decide)] at H; exact H
  clear H
  have H := H1
  clear H1
  obtain rfl := Option.some.inj H
  go_enter Tryz.func74, Tryz.ntmps74
  go_wp2_with (first | ((with_reducible refine gate_dst (N := 1) rfl ?_); (try (refine gate_guard (by rfl) ?_; dsimp only)); refine box_event ?hg (N := 1) ?hd (cs := #[.string a0_0, .slice A0_1 l0_1.length c0_1, .slice A0_2 l0_2.length c0_2, .int .i64 a0_3, .bool a0_4]) (t := 53) ?hr ?_; (case hd => rfl); (case hg => rfl); (case hr => first | (go_simp; done) | (go_simp; rfl)); intro gb148 hg w47 hbox hb; have n0_ := Aside0.mk (below_step HBa hb); have n1_ := Aside0.mk (hbox); have n2_ := BSz w hg HBa; have n3_ := BSz w hg HBa; clear HB; have HB := n0_; have BK148 := n1_; have GW148 := n2_; have GE148 := n3_; clear n0_ n1_ n2_ n3_; clear hb hbox hg; have hcz48_0 := C1z BK148; have hcz48_1 := C2z BK148; have hcz48_2 := C3z BK148; have hcz48_3 := C4z BK148; have hcz48_4 := C5z BK148; have hfz48_0 := blk_frozen BK148.out 0; have hfz48_1 := blk_frozen BK148.out 1; have hfz48_2 := blk_frozen BK148.out 2; have hfz48_3 := blk_frozen BK148.out 3; have hfz48_4 := blk_frozen BK148.out 4) | (go_at_call 26; (with_reducible refine (spec_NameRight.calls k a0_0 false _ A24.out).mono ?_); rintro e w' ⟨rfl, ⟨nd, rfl⟩⟩))
  go_ret
  exact ⟨EZa, HBb GE148⟩
 subst c25
 have H1 : ((spec_DnRight.f k l0_1).bind fun t153 => (if t153 = true then (if (l0_2.length : Int) ≤ 8 then ((spec_l04Names.f k l0_2).bind fun t154 => (if t154 = true then ((spec_l02Is.f a0_3 1 4).bind fun t155 => (some t155)) else (some false))) else (some false)) else (some false))) = some r := by rw [if_pos rfl] at H; exact H
 clear H
 have H := H1
 clear H1
 replace H := Option.bind_eq_some_iff.mp H
 obtain ⟨t153, A260, H⟩ := H
 replace H : (if t153 = true then (if (l0_2.length : Int) ≤ 8 then ((spec_l04Names.f k l0_2).bind fun t154 => (if t154 = true then ((spec_l02Is.f a0_3 1 4).bind fun t155 => (some t155)) else (some false))) else (some false)) else (some false)) = some r := H
 have A26 := Aside0.mk A260
 clear A260
 by_cases c27 : t153 = true
 rotate_left
 ·replace c27 := Bool.eq_false_iff.mpr c27
  subst c27
  have H1 : (some false) = some r := by rw [if_neg (show ¬ (false = true) by decide)] at H; exact H
  clear H
  have H := H1
  clear H1
  obtain rfl := Option.some.inj H
  go_enter Tryz.func74, Tryz.ntmps74
  go_wp2_with (first | ((with_reducible refine gate_dst (N := 1) rfl ?_); (try (refine gate_guard (by rfl) ?_; dsimp only)); refine box_event ?hg (N := 1) ?hd (cs := #[.string a0_0, .slice A0_1 l0_1.length c0_1, .slice A0_2 l0_2.length c0_2, .int .i64 a0_3, .bool a0_4]) (t := 53) ?hr ?_; (case hd => rfl); (case hg => rfl); (case hr => first | (go_simp; done) | (go_simp; rfl)); intro gb148 hg w44 hbox hb; have n0_ := Aside0.mk (below_step HBa hb); have n1_ := Aside0.mk (hbox); have n2_ := BSz w hg HBa; have n3_ := BSz w hg HBa; clear HB; have HB := n0_; have BK148 := n1_; have GW148 := n2_; have GE148 := n3_; clear n0_ n1_ n2_ n3_; clear hb hbox hg; have hcz45_0 := C1z BK148; have hcz45_1 := C2z BK148; have hcz45_2 := C3z BK148; have hcz45_3 := C4z BK148; have hcz45_4 := C5z BK148; have hfz45_0 := blk_frozen BK148.out 0; have hfz45_1 := blk_frozen BK148.out 1; have hfz45_2 := blk_frozen BK148.out 2; have hfz45_3 := blk_frozen BK148.out 3; have hfz45_4 := blk_frozen BK148.out 4) | (go_at_call 26; (with_reducible refine (spec_NameRight.calls k a0_0 true _ A24.out).mono ?_); rintro e w' ⟨rfl, ⟨nd, rfl⟩⟩) | (go_at_call 25; (with_reducible refine (spec_DnRight.calls k _ _ l0_1 false _ ?side1 ?side2 A26.out).mono ?_); (case side1 => repeat (first | exact (Kd.C_below HR0_1.out (HBb GE148)) | (with_reducible refine Kd.C_alloc ?_ _) | (with_reducible refine Kd.C_drewN ?_ _) | (with_reducible refine Kd.C_drew ?_))); (case side2 => exact HC0_1.out); rintro e w46 ⟨rfl, hb⟩; have n0_ := BBz BK148 hb; have n1_ := Aside0.mk (below_step (HBb GE148) hb); clear BK148; clear HB; have BK148 := n0_; have HB := n1_; clear n0_ n1_; (try clear hb); (try clear hb2); (try clear hk); (try clear hi)))
  go_ret
  exact ⟨EZa, HBb GE148⟩
 subst c27
 have H1 : (if (l0_2.length : Int) ≤ 8 then ((spec_l04Names.f k l0_2).bind fun t154 => (if t154 = true then ((spec_l02Is.f a0_3 1 4).bind fun t155 => (some t155)) else (some false))) else (some false)) = some r := by rw [if_pos rfl] at H; exact H
 clear H
 have H := H1
 clear H1
 by_cases c28 : (l0_2.length : Int) ≤ 8
 rotate_left
 ·rw [if_neg c28] at H
  have c28b0 : decide ((l0_2.length : Int) ≤ 8) = false := decide_eq_false c28
  have c28b1 : decide (l0_2.length ≤ 8) = false := decide_eq_false (by omega)
  clear c28
  obtain rfl := Option.some.inj H
  go_enter Tryz.func74, Tryz.ntmps74
  go_wp2_with (first | ((with_reducible refine gate_dst (N := 1) rfl ?_); (try (refine gate_guard (by rfl) ?_; dsimp only)); refine box_event ?hg (N := 1) ?hd (cs := #[.string a0_0, .slice A0_1 l0_1.length c0_1, .slice A0_2 l0_2.length c0_2, .int .i64 a0_3, .bool a0_4]) (t := 53) ?hr ?_; (case hd => rfl); (case hg => rfl); (case hr => first | (go_simp; done) | (go_simp; rfl)); intro gb148 hg w40 hbox hb; have n0_ := Aside0.mk (below_step HBa hb); have n1_ := Aside0.mk (hbox); have n2_ := BSz w hg HBa; have n3_ := BSz w hg HBa; clear HB; have HB := n0_; have BK148 := n1_; have GW148 := n2_; have GE148 := n3_; clear n0_ n1_ n2_ n3_; clear hb hbox hg; have hcz41_0 := C1z BK148; have hcz41_1 := C2z BK148; have hcz41_2 := C3z BK148; have hcz41_3 := C4z BK148; have hcz41_4 := C5z BK148; have hfz41_0 := blk_frozen BK148.out 0; have hfz41_1 := blk_frozen BK148.out 1; have hfz41_2 := blk_frozen BK148.out 2; have hfz41_3 := blk_frozen BK148.out 3; have hfz41_4 := blk_frozen BK148.out 4) | (go_at_call 26; (with_reducible refine (spec_NameRight.calls k a0_0 true _ A24.out).mono ?_); rintro e w' ⟨rfl, ⟨nd, rfl⟩⟩) | (go_at_call 25; (with_reducible refine (spec_DnRight.calls k _ _ l0_1 true _ ?side1 ?side2 A26.out).mono ?_); (case side1 => repeat (first | exact (Kd.C_below HR0_1.out (HBb GE148)) | (with_reducible refine Kd.C_alloc ?_ _) | (with_reducible refine Kd.C_drewN ?_ _) | (with_reducible refine Kd.C_drew ?_))); (case side2 => exact HC0_1.out); rintro e w42 ⟨rfl, hb⟩; have n0_ := BBz BK148 hb; have n1_ := Aside0.mk (below_step (HBb GE148) hb); clear BK148; clear HB; have BK148 := n0_; have HB := n1_; clear n0_ n1_; (try clear hb); (try clear hb2); (try clear hk); (try clear hi); have hcz43_0 := C1z BK148; have hcz43_1 := C2z BK148; have hcz43_2 := C3z BK148; have hcz43_3 := C4z BK148; have hcz43_4 := C5z BK148; have hfz43_0 := blk_frozen BK148.out 0; have hfz43_1 := blk_frozen BK148.out 1; have hfz43_2 := blk_frozen BK148.out 2; have hfz43_3 := blk_frozen BK148.out 3; have hfz43_4 := blk_frozen BK148.out 4))
  go_ret
  exact ⟨EZa, HBb GE148⟩
 rw [if_pos c28] at H
 have c28b0 : decide ((l0_2.length : Int) ≤ 8) = true := decide_eq_true c28
 have c28b1 : decide (l0_2.length ≤ 8) = true := decide_eq_true (by omega)
 clear c28
 replace H := Option.bind_eq_some_iff.mp H
 obtain ⟨t154, A290, H⟩ := H
 replace H : (if t154 = true then ((spec_l02Is.f a0_3 1 4).bind fun t155 => (some t155)) else (some false)) = some r := H
 have A29 := Aside0.mk A290
 clear A290
 by_cases c30 : t154 = true
 ·subst c30
  have H1 : ((spec_l02Is.f a0_3 1 4).bind fun t155 => (some t155)) = some r := by rw [if_pos rfl] at H; exact H
  clear H
  have H := H1
  clear H1
  replace H := Option.bind_eq_some_iff.mp H
  obtain ⟨t155, A310, H⟩ := H
  replace H : (some t155) = some r := H
  have A31 := Aside0.mk A310
  clear A310
  obtain rfl := Option.some.inj H
  go_enter Tryz.func74, Tryz.ntmps74
  go_wp2_with (first | ((with_reducible refine gate_dst (N := 1) rfl ?_); (try (refine gate_guard (by rfl) ?_; dsimp only)); refine box_event ?hg (N := 1) ?hd (cs := #[.string a0_0, .slice A0_1 l0_1.length c0_1, .slice A0_2 l0_2.length c0_2, .int .i64 a0_3, .bool a0_4]) (t := 53) ?hr ?_; (case hd => rfl); (case hg => rfl); (case hr => first | (go_simp; done) | (go_simp; rfl)); intro gb148 hg w32 hbox hb; have n0_ := Aside0.mk (below_step HBa hb); have n1_ := Aside0.mk (hbox); have n2_ := BSz w hg HBa; have n3_ := BSz w hg HBa; clear HB; have HB := n0_; have BK148 := n1_; have GW148 := n2_; have GE148 := n3_; clear n0_ n1_ n2_ n3_; clear hb hbox hg; have hcz33_0 := C1z BK148; have hcz33_1 := C2z BK148; have hcz33_2 := C3z BK148; have hcz33_3 := C4z BK148; have hcz33_4 := C5z BK148; have hfz33_0 := blk_frozen BK148.out 0; have hfz33_1 := blk_frozen BK148.out 1; have hfz33_2 := blk_frozen BK148.out 2; have hfz33_3 := blk_frozen BK148.out 3; have hfz33_4 := blk_frozen BK148.out 4) | (go_at_call 26; (with_reducible refine (spec_NameRight.calls k a0_0 true _ A24.out).mono ?_); rintro e w' ⟨rfl, ⟨nd, rfl⟩⟩) | (go_at_call 25; (with_reducible refine (spec_DnRight.calls k _ _ l0_1 true _ ?side1 ?side2 A26.out).mono ?_); (case side1 => repeat (first | exact (Kd.C_below HR0_1.out (HBb GE148)) | (with_reducible refine Kd.C_alloc ?_ _) | (with_reducible refine Kd.C_drewN ?_ _) | (with_reducible refine Kd.C_drew ?_))); (case side2 => exact HC0_1.out); rintro e w34 ⟨rfl, hb⟩; have n0_ := BBz BK148 hb; have n1_ := Aside0.mk (below_step (HBb GE148) hb); clear BK148; clear HB; have BK148 := n0_; have HB := n1_; clear n0_ n1_; (try clear hb); (try clear hb2); (try clear hk); (try clear hi); have hcz35_0 := C1z BK148; have hcz35_1 := C2z BK148; have hcz35_2 := C3z BK148; have hcz35_3 := C4z BK148; have hcz35_4 := C5z BK148; have hfz35_0 := blk_frozen BK148.out 0; have hfz35_1 := blk_frozen BK148.out 1; have hfz35_2 := blk_frozen BK148.out 2; have hfz35_3 := blk_frozen BK148.out 3; have hfz35_4 := blk_frozen BK148.out 4) | (go_at_call 114; (with_reducible refine (spec_l04Names.calls k _ _ l0_2 true _ ?side1 ?side2 A29.out).mono ?_); (case side1 => exact KCz (Kd.C_below HR0_2.out HB.out)); (case side2 => exact HC0_2.out); rintro e w' ⟨rfl, ⟨nd, rfl⟩⟩) | (go_at_call 70; (with_reducible refine (spec_l02Is.calls a0_3 1 4 t155 _ A31.out).mono ?_); rintro e w' ⟨rfl, ⟨nd, rfl⟩⟩))
  go_ret
  exact ⟨EZa, HBb GE148⟩
 replace c30 := Bool.eq_false_iff.mpr c30
 subst c30
 have H1 : (some false) = some r := by rw [if_neg (show ¬ (false = true) by decide)] at H; exact H
 clear H
 have H := H1
 clear H1
 obtain rfl := Option.some.inj H
 go_enter Tryz.func74, Tryz.ntmps74
 go_wp2_with (first | ((with_reducible refine gate_dst (N := 1) rfl ?_); (try (refine gate_guard (by rfl) ?_; dsimp only)); refine box_event ?hg (N := 1) ?hd (cs := #[.string a0_0, .slice A0_1 l0_1.length c0_1, .slice A0_2 l0_2.length c0_2, .int .i64 a0_3, .bool a0_4]) (t := 53) ?hr ?_; (case hd => rfl); (case hg => rfl); (case hr => first | (go_simp; done) | (go_simp; rfl)); intro gb148 hg w36 hbox hb; have n0_ := Aside0.mk (below_step HBa hb); have n1_ := Aside0.mk (hbox); have n2_ := BSz w hg HBa; have n3_ := BSz w hg HBa; clear HB; have HB := n0_; have BK148 := n1_; have GW148 := n2_; have GE148 := n3_; clear n0_ n1_ n2_ n3_; clear hb hbox hg; have hcz37_0 := C1z BK148; have hcz37_1 := C2z BK148; have hcz37_2 := C3z BK148; have hcz37_3 := C4z BK148; have hcz37_4 := C5z BK148; have hfz37_0 := blk_frozen BK148.out 0; have hfz37_1 := blk_frozen BK148.out 1; have hfz37_2 := blk_frozen BK148.out 2; have hfz37_3 := blk_frozen BK148.out 3; have hfz37_4 := blk_frozen BK148.out 4) | (go_at_call 26; (with_reducible refine (spec_NameRight.calls k a0_0 true _ A24.out).mono ?_); rintro e w' ⟨rfl, ⟨nd, rfl⟩⟩) | (go_at_call 25; (with_reducible refine (spec_DnRight.calls k _ _ l0_1 true _ ?side1 ?side2 A26.out).mono ?_); (case side1 => repeat (first | exact (Kd.C_below HR0_1.out (HBb GE148)) | (with_reducible refine Kd.C_alloc ?_ _) | (with_reducible refine Kd.C_drewN ?_ _) | (with_reducible refine Kd.C_drew ?_))); (case side2 => exact HC0_1.out); rintro e w38 ⟨rfl, hb⟩; have n0_ := BBz BK148 hb; have n1_ := Aside0.mk (below_step (HBb GE148) hb); clear BK148; clear HB; have BK148 := n0_; have HB := n1_; clear n0_ n1_; (try clear hb); (try clear hb2); (try clear hk); (try clear hi); have hcz39_0 := C1z BK148; have hcz39_1 := C2z BK148; have hcz39_2 := C3z BK148; have hcz39_3 := C4z BK148; have hcz39_4 := C5z BK148; have hfz39_0 := blk_frozen BK148.out 0; have hfz39_1 := blk_frozen BK148.out 1; have hfz39_2 := blk_frozen BK148.out 2; have hfz39_3 := blk_frozen BK148.out 3; have hfz39_4 := blk_frozen BK148.out 4) | (go_at_call 114; (with_reducible refine (spec_l04Names.calls k _ _ l0_2 false _ ?side1 ?side2 A29.out).mono ?_); (case side1 => exact KCz (Kd.C_below HR0_2.out HB.out)); (case side2 => exact HC0_2.out); rintro e w' ⟨rfl, ⟨nd, rfl⟩⟩))
 go_ret
 exact ⟨EZa, HBb GE148⟩
def spec_AclRight.l0 : Nat → List (S53) → Int → Option (Bool)
 | 0, _, _ => none
 | k + 1, x0, x3 => if x3 < (x0.length : Int) then (if 0 ≤ x3 then ((spec_l06Rule.f k ((rd_T53 x0 x3).f0) ((rd_T53 x0 x3).f1) ((rd_T53 x0 x3).f2) ((rd_T53 x0 x3).f3) ((rd_T53 x0 x3).f4)).bind fun t157 => (if t157 = true then (spec_AclRight.l0 k x0 (wrap64 (x3 + 1))) else (some false))) else (none)) else (some (decide ((x0.length : Int) ≤ 10)))
def spec_AclRight.f (k : Nat) (l0 : List (S53)) : Option (Bool) := spec_AclRight.l0 k l0 0
theorem spec_AclRight.mono_l : ∀ k, (∀ y0 y1, LeO (spec_AclRight.l0 k y0 y1) (spec_AclRight.l0 (k + 1) y0 y1))
 | 0 => fun _ _ r h => by simp [spec_AclRight.l0] at h
 | k + 1 => by
  have ih0 := spec_AclRight.mono_l k
  ·intro y0 y1
   unfold spec_AclRight.l0
   repeat' first
   | (with_reducible exact ih0 _ _)
   | (with_reducible exact spec_l06Rule.mono _ _ _ _ _ _)
   | (with_reducible exact LeO.refl _)
   | (with_reducible exact LeO.none _)
   | (with_reducible refine LeO.ite ?_ ?_)
   | (with_reducible refine LeO.bind ?_ (fun _ => ?_))
   | exact ih0 _ _
   | exact spec_l06Rule.mono _ _ _ _ _ _
   | exact LeO.none _
   | refine LeO.ite ?_ ?_
   | refine LeO.bind ?_ (fun _ => ?_)
theorem spec_AclRight.mono : ∀ a0 k, LeO (spec_AclRight.f k a0) (spec_AclRight.f (k + 1) a0) := by
 intro a0 k
 have ih0 := spec_AclRight.mono_l k
 unfold spec_AclRight.f
 repeat' first
   | (with_reducible exact ih0 _ _)
   | (with_reducible exact spec_l06Rule.mono _ _ _ _ _ _)
   | (with_reducible exact LeO.refl _)
   | (with_reducible exact LeO.none _)
   | (with_reducible refine LeO.ite ?_ ?_)
   | (with_reducible refine LeO.bind ?_ (fun _ => ?_))
   | exact ih0 _ _
   | exact spec_l06Rule.mono _ _ _ _ _ _
   | exact LeO.none _
   | refine LeO.ite ?_ ?_
   | refine LeO.bind ?_ (fun _ => ?_)
set_option maxHeartbeats 8000000 in
set_option maxRecDepth 100000 in
theorem spec_AclRight.calls (k : Nat) (A0 : Option Addr) (c0 : Nat) (l0 : List (S53)) (r : Bool) (w : World) (hr0 : Kd.C k53 w A0 l0.length l0) (hc0 : l0.length ≤ c0) (h : spec_AclRight.f k l0 = some r) :
  Calls Tryz.prog 22 #[.slice A0 l0.length c0] w fun e w' => e = .returned (.bool r) ∧ Below w.heap.size w w' := by
 have hu53 := Tryz.underlying53
 have HR0 := Aside0.mk hr0
 have HC0 := Aside0.mk hc0
 clear hr0 hc0
 have HB := Aside0.mk (Below.refl w.heap.size w)
 have H : (spec_AclRight.l0 k l0 0) = some r := h
 clear h
 have H' := Aside0.mk H
 clear H
 go_enter Tryz.func22, Tryz.ntmps22
 go_wp2
 go_loopg [3] k (fun kq v3 w' => ∃ (x3_1 : Int), v3 = .int .i64 x3_1 ∧ Aside0 (spec_AclRight.l0 kq l0 x3_1 = some r) ∧ Aside0 (kq ≤ k) ∧ Aside0 (Below w.heap.size w w'))
 case atStart => exact ⟨(0), EZc, H', ⟨Nat.le_refl _⟩, ⟨HBa⟩⟩
 case round =>
  clear H'
  obtain ⟨x3_1, rfl, HA, HK1, HB⟩ := hrel
  cases gk with
  | zero => exact absurd HA.out (by simp [spec_AclRight.l0])
  | succ k1 =>
   have H := HA.out
   clear HA
   simp only [spec_AclRight.l0] at H
   by_cases c2 : x3_1 < (l0.length : Int)
   rotate_left
   ·rw [if_neg c2] at H
    have c2b0 : decide (x3_1 < (l0.length : Int)) = false := decide_eq_false c2
    clear c2
    obtain rfl := Option.some.inj H
    go_wp2
    go_ret
    exact ⟨EZa, HBa⟩
   rw [if_pos c2] at H
   have c2b0 : decide (x3_1 < (l0.length : Int)) = true := decide_eq_true c2
   clear c2
   by_cases c3 : 0 ≤ x3_1
   rotate_left
   ·rw [if_neg c3] at H
    exact absurd H (by simp)
   rw [if_pos c3] at H
   have c3b0 : decide (0 ≤ x3_1) = true := decide_eq_true c3
   clear c3
   replace H := Option.bind_eq_some_iff.mp H
   obtain ⟨t157, A40, H⟩ := H
   replace H : (if t157 = true then (spec_AclRight.l0 k1 l0 (wrap64 (x3_1 + 1))) else (some false)) = some r := H
   have A4 := Aside0.mk A40
   clear A40
   by_cases c5 : t157 = true
   rotate_left
   ·replace c5 := Bool.eq_false_iff.mpr c5
    subst c5
    have H1 : (some false) = some r := by rw [if_neg (show ¬ (false = true) by decide)] at H; exact H
    clear H
    have H := H1
    clear H1
    obtain rfl := Option.some.inj H
    have p156 : 0 ≤ (x3_1 : Int) := ODz
    have q156 : x3_1 < (l0.length : Int) := ODz
    obtain ⟨ad156, A156_1, c156_1, A156_2, c156_2, e156, hx156_0, hx156_1, hx156_2, hx156_3, hx156_4, hl156_1, hi156_1, hl156_2, hi156_2⟩ := at_T53 HR0.out x3_1 p156 q156
    cases e156
    replace hx156_0 := HXz HB hx156_0
    replace hx156_1 := HXz HB hx156_1
    replace hx156_2 := HXz HB hx156_2
    replace hx156_3 := HXz HB hx156_3
    replace hx156_4 := HXz HB hx156_4
    have HR156_1 := Aside0.mk hi156_1
    have HC156_1 := Aside0.mk hl156_1
    clear hi156_1 hl156_1
    have HR156_2 := Aside0.mk hi156_2
    have HC156_2 := Aside0.mk hl156_2
    clear hi156_2 hl156_2
    replace p156 := eq_true p156
    replace q156 := eq_true q156
    go_wp2_with (first | ((with_reducible refine gate_callee (f := 74) rfl ?_); refine goesL_ (some 14) rfl rfl Tryz.func74 (by kernel_rfl) rfl #[.agg #[.string ((rd_T53 l0 x3_1).f0), .slice A156_1 ((rd_T53 l0 x3_1).f1).length c156_1, .slice A156_2 ((rd_T53 l0 x3_1).f2).length c156_2, .int .i64 ((rd_T53 l0 x3_1).f3), .bool ((rd_T53 l0 x3_1).f4)]] rfl MPz ?_; (with_reducible refine (spec_l06Rule.calls k1 ((rd_T53 l0 x3_1).f0) _ _ ((rd_T53 l0 x3_1).f1) _ _ ((rd_T53 l0 x3_1).f2) ((rd_T53 l0 x3_1).f3) ((rd_T53 l0 x3_1).f4) false _ ?side1 ?side2 ?side3 ?side4 A4.out).mono ?_); (case side1 => exact KCz (Kd.C_below HR156_1.out HB.out)); (case side2 => exact HC156_1.out); (case side3 => exact KCz (Kd.C_below HR156_2.out HB.out)); (case side4 => exact HC156_2.out); rintro e w7 ⟨rfl, hb⟩; refine ⟨_, rfl, ?_⟩; have n0_ := Aside0.mk (below_step HBa hb); clear HB; have HB := n0_; clear n0_; (try clear hb); (try clear hb2); (try clear hk); (try clear hi)))
    go_ret
    exact ⟨EZa, HBa⟩
   subst c5
   have H1 : (spec_AclRight.l0 k1 l0 (wrap64 (x3_1 + 1))) = some r := by rw [if_pos rfl] at H; exact H
   clear H
   have H := H1
   clear H1
   have H' := Aside0.mk H
   clear H
   have p156 : 0 ≤ (x3_1 : Int) := ODz
   have q156 : x3_1 < (l0.length : Int) := ODz
   obtain ⟨ad156, A156_1, c156_1, A156_2, c156_2, e156, hx156_0, hx156_1, hx156_2, hx156_3, hx156_4, hl156_1, hi156_1, hl156_2, hi156_2⟩ := at_T53 HR0.out x3_1 p156 q156
   cases e156
   replace hx156_0 := HXz HB hx156_0
   replace hx156_1 := HXz HB hx156_1
   replace hx156_2 := HXz HB hx156_2
   replace hx156_3 := HXz HB hx156_3
   replace hx156_4 := HXz HB hx156_4
   have HR156_1 := Aside0.mk hi156_1
   have HC156_1 := Aside0.mk hl156_1
   clear hi156_1 hl156_1
   have HR156_2 := Aside0.mk hi156_2
   have HC156_2 := Aside0.mk hl156_2
   clear hi156_2 hl156_2
   replace p156 := eq_true p156
   replace q156 := eq_true q156
   go_wp2_with (first | ((with_reducible refine gate_callee (f := 74) rfl ?_); refine goesL_ (some 14) rfl rfl Tryz.func74 (by kernel_rfl) rfl #[.agg #[.string ((rd_T53 l0 x3_1).f0), .slice A156_1 ((rd_T53 l0 x3_1).f1).length c156_1, .slice A156_2 ((rd_T53 l0 x3_1).f2).length c156_2, .int .i64 ((rd_T53 l0 x3_1).f3), .bool ((rd_T53 l0 x3_1).f4)]] rfl MPz ?_; (with_reducible refine (spec_l06Rule.calls k1 ((rd_T53 l0 x3_1).f0) _ _ ((rd_T53 l0 x3_1).f1) _ _ ((rd_T53 l0 x3_1).f2) ((rd_T53 l0 x3_1).f3) ((rd_T53 l0 x3_1).f4) true _ ?side1 ?side2 ?side3 ?side4 A4.out).mono ?_); (case side1 => exact KCz (Kd.C_below HR156_1.out HB.out)); (case side2 => exact HC156_1.out); (case side3 => exact KCz (Kd.C_below HR156_2.out HB.out)); (case side4 => exact HC156_2.out); rintro e w6 ⟨rfl, hb⟩; refine ⟨_, rfl, ?_⟩; have n0_ := Aside0.mk (below_step HBa hb); clear HB; have HB := n0_; clear n0_; (try clear hb); (try clear hb2); (try clear hk); (try clear hi)))
   go_roundg k1
   case measure => have := HK1.out; omega
   case rel => exact ⟨(wrap64 (x3_1 + 1)), EZc, H', ⟨by have := HK1.out; omega⟩, ⟨HBa⟩⟩
end Go.Proofs.YtgkjlfimjnhbbaaGreatDoor.PFnExactMayChange
