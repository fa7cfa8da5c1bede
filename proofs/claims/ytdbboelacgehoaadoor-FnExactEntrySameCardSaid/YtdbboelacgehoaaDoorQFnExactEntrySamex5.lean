-- Laid by this session's own program out of the translation; Lean checks it.
import Derived.Test.YtdbboelacgehoaaDoorQFnExactEntrySamex0
import Derived.Test.YtdbboelacgehoaaDoorQFnExactEntrySamex3
import Derived.Test.YtdbboelacgehoaaDoorQFnExactEntrySamex4
namespace Go.Proofs.YtdbboelacgehoaaDoor.PFnExactEntrySame
open Go.RowKit Go.Proofs.YtdbboelacgehoaaDoorW.PrintWords Go.Proofs.YtdbboelacgehoaaDoorW.PrintLast Go.Proofs.YtdbboelacgehoaaDoorW.PrintMore
attribute [local go_sem] max2_int min2_int max_two min_two max_three min_three max_four min_four   -- for this text's walks alone
set_option linter.unusedVariables false
set_option linter.unusedSimpArgs false
def spec_DnRight.l0 : Nat → List (S42) → Int → Option (Bool)
 | 0, _, _ => none
 | k + 1, x0, x3 => if x3 < (x0.length : Int) then (if 0 ≤ x3 then ((spec_NameRight.f k ((rd_T42 x0 x3).f0)).bind fun t192 => (if t192 = true then ((spec_l02Value.f k ((rd_T42 x0 x3).f1)).bind fun t194 => (if t194 = true then (spec_DnRight.l0 k x0 (wrap64 (x3 + 1))) else (some false))) else (some false))) else (none)) else (some (decide ((x0.length : Int) ≤ 6)))
def spec_DnRight.f (k : Nat) (l0 : List (S42)) : Option (Bool) := spec_DnRight.l0 k l0 0
theorem spec_DnRight.mono_l : ∀ k, (∀ y0 y1, LeO (spec_DnRight.l0 k y0 y1) (spec_DnRight.l0 (k + 1) y0 y1))
 | 0 => fun _ _ r h => by simp [spec_DnRight.l0] at h
 | k + 1 => by
  have ih0 := spec_DnRight.mono_l k
  ·intro y0 y1
   unfold spec_DnRight.l0
   repeat' first
   | (with_reducible exact ih0 _ _)
   | (with_reducible exact spec_NameRight.mono _ _)
   | (with_reducible exact spec_l02Value.mono _ _)
   | (with_reducible exact LeO.refl _)
   | (with_reducible exact LeO.none _)
   | (with_reducible refine LeO.ite ?_ ?_)
   | (with_reducible refine LeO.bind ?_ (fun _ => ?_))
   | exact ih0 _ _
   | exact spec_NameRight.mono _ _
   | exact spec_l02Value.mono _ _
   | exact LeO.none _
   | refine LeO.ite ?_ ?_
   | refine LeO.bind ?_ (fun _ => ?_)
theorem spec_DnRight.mono : ∀ a0 k, LeO (spec_DnRight.f k a0) (spec_DnRight.f (k + 1) a0) := by
 intro a0 k
 have ih0 := spec_DnRight.mono_l k
 unfold spec_DnRight.f
 repeat' first
   | (with_reducible exact ih0 _ _)
   | (with_reducible exact spec_NameRight.mono _ _)
   | (with_reducible exact spec_l02Value.mono _ _)
   | (with_reducible exact LeO.refl _)
   | (with_reducible exact LeO.none _)
   | (with_reducible refine LeO.ite ?_ ?_)
   | (with_reducible refine LeO.bind ?_ (fun _ => ?_))
   | exact ih0 _ _
   | exact spec_NameRight.mono _ _
   | exact spec_l02Value.mono _ _
   | exact LeO.none _
   | refine LeO.ite ?_ ?_
   | refine LeO.bind ?_ (fun _ => ?_)
set_option maxHeartbeats 8000000 in
set_option maxRecDepth 100000 in
theorem spec_DnRight.calls (k : Nat) (A0 : Option Addr) (c0 : Nat) (l0 : List (S42)) (r : Bool) (w : World) (hr0 : Kd.C k42 w A0 l0.length l0) (hc0 : l0.length ≤ c0) (h : spec_DnRight.f k l0 = some r) :
  Calls Tryd.prog 33 #[.slice A0 l0.length c0] w fun e w' => e = .returned (.bool r) ∧ Below w.heap.size w w' := by
 have HR0 := Aside0.mk hr0
 have HC0 := Aside0.mk hc0
 clear hr0 hc0
 have HB := Aside0.mk (Below.refl w.heap.size w)
 have H : (spec_DnRight.l0 k l0 0) = some r := h
 clear h
 have H' := Aside0.mk H
 clear H
 go_enter Tryd.func33, Tryd.ntmps33
 go_wp2
 go_loopg [3] k (fun kq v3 w' => ∃ (x3_1 : Int), v3 = .int .i64 x3_1 ∧ Aside0 (spec_DnRight.l0 kq l0 x3_1 = some r) ∧ Aside0 (kq ≤ k) ∧ Aside0 (Below w.heap.size w w'))
 case atStart => exact ⟨(0), EZc, H', ⟨Nat.le_refl _⟩, ⟨HBa⟩⟩
 case round =>
  clear H'
  obtain ⟨x3_1, rfl, HA, HK1, HB⟩ := hrel
  cases gk with
  | zero => exact absurd HA.out (by simp [spec_DnRight.l0])
  | succ k1 =>
   have H := HA.out
   clear HA
   simp only [spec_DnRight.l0] at H
   by_cases c2 : x3_1 < (l0.length : Int)
   ·rw [if_pos c2] at H
    have c2b0 : decide (x3_1 < (l0.length : Int)) = true := decide_eq_true c2
    clear c2
    by_cases c3 : 0 ≤ x3_1
    ·rw [if_pos c3] at H
     have c3b0 : decide (0 ≤ x3_1) = true := decide_eq_true c3
     clear c3
     replace H := Option.bind_eq_some_iff.mp H
     obtain ⟨t192, A40, H⟩ := H
     replace H : (if t192 = true then ((spec_l02Value.f k1 ((rd_T42 l0 x3_1).f1)).bind fun t194 => (if t194 = true then (spec_DnRight.l0 k1 l0 (wrap64 (x3_1 + 1))) else (some false))) else (some false)) = some r := H
     have A4 := Aside0.mk A40
     clear A40
     by_cases c5 : t192 = true
     ·subst c5
      have H1 : ((spec_l02Value.f k1 ((rd_T42 l0 x3_1).f1)).bind fun t194 => (if t194 = true then (spec_DnRight.l0 k1 l0 (wrap64 (x3_1 + 1))) else (some false))) = some r := by rw [if_pos rfl] at H; exact H
      clear H
      have H := H1
      clear H1
      replace H := Option.bind_eq_some_iff.mp H
      obtain ⟨t194, A60, H⟩ := H
      replace H : (if t194 = true then (spec_DnRight.l0 k1 l0 (wrap64 (x3_1 + 1))) else (some false)) = some r := H
      have A6 := Aside0.mk A60
      clear A60
      by_cases c7 : t194 = true
      ·subst c7
       have H1 : (spec_DnRight.l0 k1 l0 (wrap64 (x3_1 + 1))) = some r := by rw [if_pos rfl] at H; exact H
       clear H
       have H := H1
       clear H1
       have H' := Aside0.mk H
       clear H
       have p191 : 0 ≤ (x3_1 : Int) := ODz
       have q191 : x3_1 < (l0.length : Int) := ODz
       obtain ⟨ad191, e191, hx191_0, hx191_1⟩ := at_T42 HR0.out x3_1 p191 q191
       cases e191
       replace hx191_0 := HXz HB hx191_0
       replace hx191_1 := HXz HB hx191_1
       replace p191 := eq_true p191
       replace q191 := eq_true q191
       go_wp2_with (first | ((with_reducible refine gate_callee (f := 84) rfl ?_); refine goesL_ (some 15) rfl rfl Tryd.func84 (by kernel_rfl) rfl #[.string ((rd_T42 l0 x3_1).f0)] rfl MPz ?_; (with_reducible refine (spec_NameRight.calls k1 ((rd_T42 l0 x3_1).f0) true _ A4.out).mono ?_); rintro e w' ⟨rfl, ⟨nd, rfl⟩⟩; refine ⟨_, rfl, ?_⟩; have p193 : 0 ≤ (x3_1 : Int) := ODz; have q193 : x3_1 < (l0.length : Int) := ODz; obtain ⟨ad193, e193, hx193_0, hx193_1⟩ := at_T42 HR0.out x3_1 p193 q193; obtain rfl : ad191 = ad193 := (by injection e193); replace hx193_0 := HXz HB hx193_0; replace hx193_1 := HXz HB hx193_1; replace p193 := eq_true p193; replace q193 := eq_true q193) | (go_at_call 85; (with_reducible refine (spec_l02Value.calls k1 ((rd_T42 l0 x3_1).f1) true _ A6.out).mono ?_); rintro e w8 ⟨rfl, hb⟩; have n0_ := Aside0.mk (below_step HBa hb); clear HB; have HB := n0_; clear n0_; (try clear hb); (try clear hb2); (try clear hk); (try clear hi)))
       go_roundg k1
       case measure => have := HK1.out; omega
       case rel => exact ⟨(wrap64 (x3_1 + 1)), EZc, H', ⟨by have := HK1.out; omega⟩, ⟨HBa⟩⟩
      ·replace c7 := Bool.eq_false_iff.mpr c7
       subst c7
       have H1 : (some false) = some r := by rw [if_neg (show ¬ (false = true) by decide)] at H; exact H
       clear H
       have H := H1
       clear H1
       obtain rfl := Option.some.inj H
       have p191 : 0 ≤ (x3_1 : Int) := ODz
       have q191 : x3_1 < (l0.length : Int) := ODz
       obtain ⟨ad191, e191, hx191_0, hx191_1⟩ := at_T42 HR0.out x3_1 p191 q191
       cases e191
       replace hx191_0 := HXz HB hx191_0
       replace hx191_1 := HXz HB hx191_1
       replace p191 := eq_true p191
       replace q191 := eq_true q191
       go_wp2_with (first | ((with_reducible refine gate_callee (f := 84) rfl ?_); refine goesL_ (some 15) rfl rfl Tryd.func84 (by kernel_rfl) rfl #[.string ((rd_T42 l0 x3_1).f0)] rfl MPz ?_; (with_reducible refine (spec_NameRight.calls k1 ((rd_T42 l0 x3_1).f0) true _ A4.out).mono ?_); rintro e w' ⟨rfl, ⟨nd, rfl⟩⟩; refine ⟨_, rfl, ?_⟩; have p193 : 0 ≤ (x3_1 : Int) := ODz; have q193 : x3_1 < (l0.length : Int) := ODz; obtain ⟨ad193, e193, hx193_0, hx193_1⟩ := at_T42 HR0.out x3_1 p193 q193; obtain rfl : ad191 = ad193 := (by injection e193); replace hx193_0 := HXz HB hx193_0; replace hx193_1 := HXz HB hx193_1; replace p193 := eq_true p193; replace q193 := eq_true q193) | (go_at_call 85; (with_reducible refine (spec_l02Value.calls k1 ((rd_T42 l0 x3_1).f1) false _ A6.out).mono ?_); rintro e w9 ⟨rfl, hb⟩; have n0_ := Aside0.mk (below_step HBa hb); clear HB; have HB := n0_; clear n0_; (try clear hb); (try clear hb2); (try clear hk); (try clear hi)))
       go_ret
       exact ⟨EZa, HBa⟩
     ·replace c5 := Bool.eq_false_iff.mpr c5
      subst c5
      have H1 : (some false) = some r := by rw [if_neg (show ¬ (false = true) by decide)] at H; exact H
      clear H
      have H := H1
      clear H1
      obtain rfl := Option.some.inj H
      have p191 : 0 ≤ (x3_1 : Int) := ODz
      have q191 : x3_1 < (l0.length : Int) := ODz
      obtain ⟨ad191, e191, hx191_0, hx191_1⟩ := at_T42 HR0.out x3_1 p191 q191
      cases e191
      replace hx191_0 := HXz HB hx191_0
      replace hx191_1 := HXz HB hx191_1
      replace p191 := eq_true p191
      replace q191 := eq_true q191
      go_wp2_with (first | ((with_reducible refine gate_callee (f := 84) rfl ?_); refine goesL_ (some 15) rfl rfl Tryd.func84 (by kernel_rfl) rfl #[.string ((rd_T42 l0 x3_1).f0)] rfl MPz ?_; (with_reducible refine (spec_NameRight.calls k1 ((rd_T42 l0 x3_1).f0) false _ A4.out).mono ?_); rintro e w' ⟨rfl, ⟨nd, rfl⟩⟩; refine ⟨_, rfl, ?_⟩))
      go_ret
      exact ⟨EZa, HBa⟩
    ·rw [if_neg c3] at H
     exact absurd H (by simp)
   ·rw [if_neg c2] at H
    have c2b0 : decide (x3_1 < (l0.length : Int)) = false := decide_eq_false c2
    clear c2
    obtain rfl := Option.some.inj H
    go_wp2
    go_ret
    exact ⟨EZa, HBa⟩
end Go.Proofs.YtdbboelacgehoaaDoor.PFnExactEntrySame
