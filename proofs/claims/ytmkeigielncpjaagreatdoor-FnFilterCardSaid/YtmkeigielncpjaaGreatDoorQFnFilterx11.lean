-- Laid by this session's own program out of the translation; Lean checks it.
import Derived.Test.YtmkeigielncpjaaGreatDoorQFnFilterx0
import Derived.Test.YtmkeigielncpjaaGreatDoorQFnFilterx10
namespace Go.Proofs.YtmkeigielncpjaaGreatDoor.PFnFilter
open Go.RowKit Go.Proofs.YtmkeigielncpjaaGreatDoorW.PrintWords Go.Proofs.YtmkeigielncpjaaGreatDoorW.PrintLast Go.Proofs.YtmkeigielncpjaaGreatDoorW.PrintMore
attribute [local go_sem] max2_int min2_int max_two min_two max_three min_three max_four min_four   -- for this text's walks alone
set_option linter.unusedVariables false
set_option linter.unusedSimpArgs false
def Gc.f (k : Nat) (l0 : List (S64)) : Option (Bool) := if (l0.length : Int) > 20 then (some false) else ((Gg.f k l0).bind fun bt206 => (if bt206.1 > 0 then (if bt206.1 = (l0.length : Int) then (some (decide (bt206.2 ≤ 5))) else (some false)) else (some false)))
theorem Gc.mono : ∀ a0 k, LeO (Gc.f k a0) (Gc.f (k + 1) a0) := by
 intro a0 k
 unfold Gc.f
 with_reducible repeat' first | exact Gg.mono _ _ | exact LeO.refl _ | exact LeO.none _ | refine LeO.ite ?_ ?_ | refine LeO.bind ?_ (fun _ => ?_)
set_option maxHeartbeats 8000000 in
set_option maxRecDepth 100000 in
theorem Gc.calls (k : Nat) (A0 : Option Addr) (c0 : Nat) (l0 : List (S64)) (r : Bool) (w : World) (hr0 : Kd.C k64 w A0 l0.length l0) (hc0 : l0.length ≤ c0) (h : Gc.f k l0 = some r) :
  Calls Tryz.prog 18 #[.slice A0 l0.length c0] w fun e w' => e = .returned (.bool r) ∧ Below w.heap.size w w' := by
 have HR0 := Aside0.mk hr0
 have HC0 := Aside0.mk hc0
 clear hr0 hc0
 have HB := Aside0.mk (Below.refl w.heap.size w)
 have H : (if (l0.length : Int) > 20 then (some false) else ((Gg.f k l0).bind fun bt206 => (if bt206.1 > 0 then (if bt206.1 = (l0.length : Int) then (some (decide (bt206.2 ≤ 5))) else (some false)) else (some false)))) = some r := h
 clear h
 by_cases c2 : (l0.length : Int) > 20
 ·rw [if_pos c2] at H
  have c2b0 : decide (20 < (l0.length : Int)) = true := decide_eq_true c2
  have c2b1 : decide (20 < l0.length) = true := decide_eq_true (by omega)
  clear c2
  obtain rfl := Option.some.inj H
  clear H
  go_enter Tryz.func18, Tryz.ntmps18
  go_wp2
  go_ret
  exact ⟨EZa, HBa⟩
 rw [if_neg c2] at H
 have c2b0 : decide (20 < (l0.length : Int)) = false := decide_eq_false c2
 have c2b1 : decide (20 < l0.length) = false := decide_eq_false (by omega)
 clear c2
 replace H := Option.bind_eq_some_iff.mp H
 obtain ⟨⟨t206, t207⟩, A30, H⟩ := H
 replace H : (if t206 > 0 then (if t206 = (l0.length : Int) then (some (decide (t207 ≤ 5))) else (some false)) else (some false)) = some r := H
 have A3 := Aside0.mk A30
 clear A30
 by_cases c4 : t206 > 0
 rotate_left
 ·rw [if_neg c4] at H
  have c4b0 : decide (0 < t206) = false := decide_eq_false c4
  clear c4
  obtain rfl := Option.some.inj H
  clear H
  go_enter Tryz.func18, Tryz.ntmps18
  go_wp2_with (first | ((with_reducible refine gate_callee (f := 49) rfl ?_); refine goesL_ (some 10) rfl rfl Tryz.func49 (by kernel_rfl) rfl #[.slice A0 l0.length c0] rfl MPz ?_; (with_reducible refine (Gg.calls k _ _ l0 t206 t207 _ ?side1 ?side2 A3.out).mono ?_); (case side1 => exact KCz HR0.out); (case side2 => exact HC0.out); rintro e w8 ⟨rfl, hb⟩; refine ⟨_, rfl, ?_⟩; have n0_ := Aside0.mk (below_step HBa hb); clear HB; have HB := n0_; clear n0_; (try clear hb); (try clear hb2); (try clear hk); (try clear hi)))
  go_ret
  exact ⟨EZa, HBa⟩
 rw [if_pos c4] at H
 have c4b0 : decide (0 < t206) = true := decide_eq_true c4
 clear c4
 by_cases c5 : t206 = (l0.length : Int)
 ·rw [if_pos c5] at H
  obtain ⟨c5b0, c5b1⟩ := QTz c5
  clear c5
  obtain rfl := Option.some.inj H
  clear H
  go_enter Tryz.func18, Tryz.ntmps18
  go_wp2_with (first | ((with_reducible refine gate_callee (f := 49) rfl ?_); refine goesL_ (some 10) rfl rfl Tryz.func49 (by kernel_rfl) rfl #[.slice A0 l0.length c0] rfl MPz ?_; (with_reducible refine (Gg.calls k _ _ l0 t206 t207 _ ?side1 ?side2 A3.out).mono ?_); (case side1 => exact KCz HR0.out); (case side2 => exact HC0.out); rintro e w6 ⟨rfl, hb⟩; refine ⟨_, rfl, ?_⟩; have n0_ := Aside0.mk (below_step HBa hb); clear HB; have HB := n0_; clear n0_; (try clear hb); (try clear hb2); (try clear hk); (try clear hi)))
  go_ret
  exact ⟨EZa, HBa⟩
 rw [if_neg c5] at H
 obtain ⟨c5b0, c5b1⟩ := QFz c5
 obtain rfl := Option.some.inj H
 clear H
 go_enter Tryz.func18, Tryz.ntmps18
 go_wp2_with (first | ((with_reducible refine gate_callee (f := 49) rfl ?_); refine goesL_ (some 10) rfl rfl Tryz.func49 (by kernel_rfl) rfl #[.slice A0 l0.length c0] rfl MPz ?_; (with_reducible refine (Gg.calls k _ _ l0 t206 t207 _ ?side1 ?side2 A3.out).mono ?_); (case side1 => exact KCz HR0.out); (case side2 => exact HC0.out); rintro e w7 ⟨rfl, hb⟩; refine ⟨_, rfl, ?_⟩; have n0_ := Aside0.mk (below_step HBa hb); clear HB; have HB := n0_; clear n0_; (try clear hb); (try clear hb2); (try clear hk); (try clear hi)))
 go_ret
 exact ⟨EZa, HBa⟩
end Go.Proofs.YtmkeigielncpjaaGreatDoor.PFnFilter
