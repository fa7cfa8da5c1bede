-- Laid by this session's own program out of the translation; Lean checks it.
import Derived.Test.YtgkjlfimjnhbbaaGreatDoorQFnExactMayChangex0
import Derived.Test.YtgkjlfimjnhbbaaGreatDoorQFnExactMayChangex10
import Derived.Test.YtgkjlfimjnhbbaaGreatDoorQFnExactMayChangex11
import Derived.Test.YtgkjlfimjnhbbaaGreatDoorLayCompare
namespace Go.Proofs.YtgkjlfimjnhbbaaGreatDoor.PFnExactMayChange
open Go.RowKit Go.Proofs.YtgkjlfimjnhbbaaGreatDoorW.PrintWords Go.Proofs.YtgkjlfimjnhbbaaGreatDoorW.PrintLast Go.Proofs.YtgkjlfimjnhbbaaGreatDoorW.PrintMore
attribute [local go_sem] max2_int min2_int max_two min_two max_three min_three max_four min_four   -- for this text's walks alone
set_option linter.unusedVariables false
set_option linter.unusedSimpArgs false
def impl_areNames.l0 : Nat → List ByteArray → List ByteArray → Int → Int → Option (Bool)
 | 0, _, _, _, _ => none
 | k + 1, x0, x5, x6, x7 => if x7 < x6 then (if 0 ≤ x7 then (if x7 < (x5.length : Int) then ((impl_NameRight.f (rdOf ByteArray.empty x5 x7)).bind fun t293 => (if t293 = true then (if x7 > 0 then (if 0 ≤ (wrap64 (x7 - 1)) then (if (wrap64 (x7 - 1)) < (x0.length : Int) then (if ((Op.bytesLess ((rdOf ByteArray.empty x0 (wrap64 (x7 - 1))).toList) ((rdOf ByteArray.empty x5 x7).toList)) = true) then (impl_areNames.l0 k x0 x5 x6 (wrap64 (x7 + 1))) else (some false)) else (none)) else (none)) else (impl_areNames.l0 k x0 x5 x6 (wrap64 (x7 + 1)))) else (some false))) else (none)) else (none)) else (some true)
def impl_areNames.f (k : Nat) (l0 : List ByteArray) : Option (Bool) := impl_areNames.l0 k l0 l0 (l0.length : Int) 0
theorem impl_areNames.mono_l : ∀ k, (∀ y0 y1 y2 y3, LeO (impl_areNames.l0 k y0 y1 y2 y3) (impl_areNames.l0 (k + 1) y0 y1 y2 y3))
 | 0 => fun _ _ _ _ r h => by simp [impl_areNames.l0] at h
 | k + 1 => by
  have ih0 := impl_areNames.mono_l k
  ·intro y0 y1 y2 y3
   unfold impl_areNames.l0
   repeat' first
   | (with_reducible exact ih0 _ _ _ _)
   | (with_reducible exact LeO.refl _)
   | (with_reducible exact LeO.none _)
   | (with_reducible refine LeO.ite ?_ ?_)
   | (with_reducible refine LeO.bind ?_ (fun _ => ?_))
   | exact ih0 _ _ _ _
   | exact LeO.none _
   | refine LeO.ite ?_ ?_
   | refine LeO.bind ?_ (fun _ => ?_)
theorem impl_areNames.mono : ∀ a0 k, LeO (impl_areNames.f k a0) (impl_areNames.f (k + 1) a0) := by
 intro a0 k
 have ih0 := impl_areNames.mono_l k
 unfold impl_areNames.f
 repeat' first
   | (with_reducible exact ih0 _ _ _ _)
   | (with_reducible exact LeO.refl _)
   | (with_reducible exact LeO.none _)
   | (with_reducible refine LeO.ite ?_ ?_)
   | (with_reducible refine LeO.bind ?_ (fun _ => ?_))
   | exact ih0 _ _ _ _
   | exact LeO.none _
   | refine LeO.ite ?_ ?_
   | refine LeO.bind ?_ (fun _ => ?_)
set_option maxHeartbeats 8000000 in
set_option maxRecDepth 100000 in
theorem impl_areNames.calls (k : Nat) (A0 : Option Addr) (c0 : Nat) (l0 : List ByteArray) (r : Bool) (w : World) (hr0 : Kd.C Kd.string w A0 l0.length l0) (hc0 : l0.length ≤ c0) (h : impl_areNames.f k l0 = some r) :
  Calls Tryz.prog 113 #[.slice A0 l0.length c0] w fun e w' => e = .returned (.bool r) ∧ Below w.heap.size w w' := by
 have HR0 := Aside0.mk hr0
 have HC0 := Aside0.mk hc0
 clear hr0 hc0
 have HB := Aside0.mk (Below.refl w.heap.size w)
 have H : (impl_areNames.l0 k l0 l0 (l0.length : Int) 0) = some r := h
 clear h
 have H' := Aside0.mk H
 clear H
 go_enter Tryz.func113, Tryz.ntmps113
 go_wp2
 go_loopg [7] k (fun kq v7 w' => ∃ (x7_1 : Int), v7 = .int .i64 x7_1 ∧ Aside0 (impl_areNames.l0 kq l0 l0 (l0.length : Int) x7_1 = some r) ∧ Aside0 (kq ≤ k) ∧ Aside0 (Below w.heap.size w w'))
 case atStart => exact ⟨(0), EZc, H', ⟨Nat.le_refl _⟩, ⟨HBa⟩⟩
 case round =>
  clear H'
  try clear c1
  obtain ⟨x7_1, rfl, HA, HK1, HB⟩ := hrel
  cases gk with
  | zero => exact absurd HA.out (by simp [impl_areNames.l0])
  | succ k1 =>
   have H := HA.out
   clear HA
   simp only [impl_areNames.l0] at H
   by_cases c2 : x7_1 < (l0.length : Int)
   rotate_left
   ·rw [if_neg c2] at H
    have c2b0 : decide (x7_1 < (l0.length : Int)) = false := decide_eq_false c2
    clear c2
    obtain rfl := Option.some.inj H
    go_wp2
    go_ret
    exact ⟨EZa, HBa⟩
   rw [if_pos c2] at H
   have c2b0 : decide (x7_1 < (l0.length : Int)) = true := decide_eq_true c2
   clear c2
   by_cases c3 : 0 ≤ x7_1
   rotate_left
   ·rw [if_neg c3] at H
    exact absurd H (by simp)
   rw [if_pos c3] at H
   have c3b0 : decide (0 ≤ x7_1) = true := decide_eq_true c3
   clear c3
   by_cases c4 : x7_1 < (l0.length : Int)
   rotate_left
   ·rw [if_neg c4] at H
    exact absurd H (by simp)
   rw [if_pos c4] at H
   have c4b0 : decide (x7_1 < (l0.length : Int)) = true := decide_eq_true c4
   clear c4
   replace H := Option.bind_eq_some_iff.mp H
   obtain ⟨t293, A50, H⟩ := H
   replace H : (if t293 = true then (if x7_1 > 0 then (if 0 ≤ (wrap64 (x7_1 - 1)) then (if (wrap64 (x7_1 - 1)) < (l0.length : Int) then (if ((Op.bytesLess ((rdOf ByteArray.empty l0 (wrap64 (x7_1 - 1))).toList) ((rdOf ByteArray.empty l0 x7_1).toList)) = true) then (impl_areNames.l0 k1 l0 l0 (l0.length : Int) (wrap64 (x7_1 + 1))) else (some false)) else (none)) else (none)) else (impl_areNames.l0 k1 l0 l0 (l0.length : Int) (wrap64 (x7_1 + 1)))) else (some false)) = some r := H
   have A5 := Aside0.mk A50
   clear A50
   by_cases c6 : t293 = true
   rotate_left
   ·replace c6 := Bool.eq_false_iff.mpr c6
    subst c6
    have H1 : (some false) = some r := by rw [if_neg (show ¬ (false = true) by decide)] at H; exact H
    clear H
    have H := H1
    clear H1
    obtain rfl := Option.some.inj H
    have p292 : 0 ≤ (x7_1 : Int) := ODz
    have q292 : x7_1 < (l0.length : Int) := ODz
    obtain ⟨ad292, e292, hx292_0⟩ := Kd.at_string HR0.out x7_1 p292 q292
    cases e292
    replace hx292_0 := HXz HB hx292_0
    replace p292 := eq_true p292
    replace q292 := eq_true q292
    go_wp2_with (first | ((with_reducible refine gate_callee (f := 53) rfl ?_); refine goesL_ (some 13) rfl rfl Tryz.func53 (by kernel_rfl) rfl #[.string (rdOf ByteArray.empty l0 x7_1)] rfl MPz ?_; (with_reducible refine (impl_NameRight.calls (rdOf ByteArray.empty l0 x7_1) false _ A5.out).mono ?_); rintro e w15 ⟨rfl, hb⟩; refine ⟨_, rfl, ?_⟩; have n0_ := Aside0.mk (below_step HBa hb); clear HB; have HB := n0_; clear n0_; (try clear hb); (try clear hb2); (try clear hk); (try clear hi)))
    go_ret
    exact ⟨EZa, HBa⟩
   subst c6
   have H1 : (if x7_1 > 0 then (if 0 ≤ (wrap64 (x7_1 - 1)) then (if (wrap64 (x7_1 - 1)) < (l0.length : Int) then (if ((Op.bytesLess ((rdOf ByteArray.empty l0 (wrap64 (x7_1 - 1))).toList) ((rdOf ByteArray.empty l0 x7_1).toList)) = true) then (impl_areNames.l0 k1 l0 l0 (l0.length : Int) (wrap64 (x7_1 + 1))) else (some false)) else (none)) else (none)) else (impl_areNames.l0 k1 l0 l0 (l0.length : Int) (wrap64 (x7_1 + 1)))) = some r := by rw [if_pos rfl] at H; exact H
   clear H
   have H := H1
   clear H1
   by_cases c7 : x7_1 > 0
   rotate_left
   ·rw [if_neg c7] at H
    have c7b0 : decide (0 < x7_1) = false := decide_eq_false c7
    clear c7
    have H' := Aside0.mk H
    clear H
    have p292 : 0 ≤ (x7_1 : Int) := ODz
    have q292 : x7_1 < (l0.length : Int) := ODz
    obtain ⟨ad292, e292, hx292_0⟩ := Kd.at_string HR0.out x7_1 p292 q292
    cases e292
    replace hx292_0 := HXz HB hx292_0
    replace p292 := eq_true p292
    replace q292 := eq_true q292
    go_wp2_with (first | ((with_reducible refine gate_callee (f := 53) rfl ?_); refine goesL_ (some 13) rfl rfl Tryz.func53 (by kernel_rfl) rfl #[.string (rdOf ByteArray.empty l0 x7_1)] rfl MPz ?_; (with_reducible refine (impl_NameRight.calls (rdOf ByteArray.empty l0 x7_1) true _ A5.out).mono ?_); rintro e w14 ⟨rfl, hb⟩; refine ⟨_, rfl, ?_⟩; have n0_ := Aside0.mk (below_step HBa hb); clear HB; have HB := n0_; clear n0_; (try clear hb); (try clear hb2); (try clear hk); (try clear hi)))
    go_roundg k1
    case measure => have := HK1.out; omega
    case rel => exact ⟨(wrap64 (x7_1 + 1)), EZc, H', ⟨by have := HK1.out; omega⟩, ⟨HBa⟩⟩
   rw [if_pos c7] at H
   have c7b0 : decide (0 < x7_1) = true := decide_eq_true c7
   clear c7
   obtain ⟨ji8, hji8⟩ : ∃ j_ : Int, (wrap64 (x7_1 - 1)) = j_ := ⟨_, rfl⟩
   replace H : (if 0 ≤ (ji8) then (if (ji8) < (l0.length : Int) then (if ((Op.bytesLess ((rdOf ByteArray.empty l0 (ji8)).toList) ((rdOf ByteArray.empty l0 x7_1).toList)) = true) then (impl_areNames.l0 k1 l0 l0 (l0.length : Int) (wrap64 (x7_1 + 1))) else (some false)) else (none)) else (none)) = some r := by first | (rw [hji8] at H; exact H) | (simp only [hji8] at H ⊢; exact H)
   (try rw [hji8] at A5)
   have hji8w : (IntKind.i64.wrap (x7_1 - 1)) = ji8 := (i64_w _).trans hji8
   by_cases c9 : 0 ≤ (ji8)
   rotate_left
   ·rw [if_neg c9] at H
    exact absurd H (by simp)
   rw [if_pos c9] at H
   have c9b0 : decide (0 ≤ (ji8)) = true := decide_eq_true c9
   clear c9
   by_cases c10 : (ji8) < (l0.length : Int)
   rotate_left
   ·rw [if_neg c10] at H
    exact absurd H (by simp)
   rw [if_pos c10] at H
   have c10b0 : decide ((ji8) < (l0.length : Int)) = true := decide_eq_true c10
   clear c10
   by_cases c11 : ((Op.bytesLess ((rdOf ByteArray.empty l0 (ji8)).toList) ((rdOf ByteArray.empty l0 x7_1).toList)) = true)
   ·rw [if_pos c11] at H
    have c11b0 : (Op.bytesLess ((rdOf ByteArray.empty l0 (ji8)).toList) ((rdOf ByteArray.empty l0 x7_1).toList)) = true := c11
    clear c11
    have H' := Aside0.mk H
    clear H
    have p292 : 0 ≤ (x7_1 : Int) := ODz
    have q292 : x7_1 < (l0.length : Int) := ODz
    obtain ⟨ad292, e292, hx292_0⟩ := Kd.at_string HR0.out x7_1 p292 q292
    cases e292
    replace hx292_0 := HXz HB hx292_0
    replace p292 := eq_true p292
    replace q292 := eq_true q292
    go_wp2_with (first | ((with_reducible refine gate_callee (f := 53) rfl ?_); refine goesL_ (some 13) rfl rfl Tryz.func53 (by kernel_rfl) rfl #[.string (rdOf ByteArray.empty l0 x7_1)] rfl MPz ?_; (with_reducible refine (impl_NameRight.calls (rdOf ByteArray.empty l0 x7_1) true _ A5.out).mono ?_); rintro e w12 ⟨rfl, hb⟩; refine ⟨_, rfl, ?_⟩; have n0_ := Aside0.mk (below_step HBa hb); clear HB; have HB := n0_; clear n0_; (try clear hb); (try clear hb2); (try clear hk); (try clear hi); have p294 : 0 ≤ ((ji8) : Int) := ODz; have q294 : (ji8) < (l0.length : Int) := ODz; obtain ⟨ad294, e294, hx294_0⟩ := Kd.at_string HR0.out (ji8) p294 q294; obtain rfl : ad292 = ad294 := (by injection e294); replace hx294_0 := HXz HB hx294_0; replace p294 := eq_true p294; replace q294 := eq_true q294))
    go_roundg k1
    case measure => have := HK1.out; omega
    case rel => exact ⟨(wrap64 (x7_1 + 1)), EZc, H', ⟨by have := HK1.out; omega⟩, ⟨HBa⟩⟩
   rw [if_neg c11] at H
   have c11b0 : (Op.bytesLess ((rdOf ByteArray.empty l0 (ji8)).toList) ((rdOf ByteArray.empty l0 x7_1).toList)) = false := by simpa using c11
   clear c11
   obtain rfl := Option.some.inj H
   have p292 : 0 ≤ (x7_1 : Int) := ODz
   have q292 : x7_1 < (l0.length : Int) := ODz
   obtain ⟨ad292, e292, hx292_0⟩ := Kd.at_string HR0.out x7_1 p292 q292
   cases e292
   replace hx292_0 := HXz HB hx292_0
   replace p292 := eq_true p292
   replace q292 := eq_true q292
   go_wp2_with (first | ((with_reducible refine gate_callee (f := 53) rfl ?_); refine goesL_ (some 13) rfl rfl Tryz.func53 (by kernel_rfl) rfl #[.string (rdOf ByteArray.empty l0 x7_1)] rfl MPz ?_; (with_reducible refine (impl_NameRight.calls (rdOf ByteArray.empty l0 x7_1) true _ A5.out).mono ?_); rintro e w13 ⟨rfl, hb⟩; refine ⟨_, rfl, ?_⟩; have n0_ := Aside0.mk (below_step HBa hb); clear HB; have HB := n0_; clear n0_; (try clear hb); (try clear hb2); (try clear hk); (try clear hi); have p294 : 0 ≤ ((ji8) : Int) := ODz; have q294 : (ji8) < (l0.length : Int) := ODz; obtain ⟨ad294, e294, hx294_0⟩ := Kd.at_string HR0.out (ji8) p294 q294; obtain rfl : ad292 = ad294 := (by injection e294); replace hx294_0 := HXz HB hx294_0; replace p294 := eq_true p294; replace q294 := eq_true q294))
   go_ret
   exact ⟨by first | rfl | (simp only [bne_nil_, beq_nil_]; rfl) | (simp [errW_none, errW_some] <;> rfl) | (simp only [← hji8]; first | rfl | (simp [errW_none, errW_some] <;> rfl)) | (simp [*, errW_none, errW_some] <;> rfl), HBa⟩
def impl_isRule.f (k : Nat) (a0_0 : ByteArray) (l0_1 : List (S98)) (l0_2 : List ByteArray) (a0_3 : Int) (a0_4 : Bool) : Option (Bool) := if a0_0.toList = ([42] : List UInt8) then ((impl_DnRight.f k l0_1).bind fun t296 => (if t296 = true then (if (l0_2.length : Int) ≤ 8 then ((impl_areNames.f k l0_2).bind fun t297 => (if t297 = true then ((impl_isRight.f a0_3).bind fun t298 => (some t298)) else (some false))) else (some false)) else (some false))) else ((impl_NameRight.f a0_0).bind fun t299 => (if t299 = true then ((impl_DnRight.f k l0_1).bind fun t300 => (if t300 = true then (if (l0_2.length : Int) ≤ 8 then ((impl_areNames.f k l0_2).bind fun t301 => (if t301 = true then ((impl_isRight.f a0_3).bind fun t302 => (some t302)) else (some false))) else (some false)) else (some false))) else (some false)))
theorem impl_isRule.mono : ∀ a0 a1 a2 a3 a4 k, LeO (impl_isRule.f k a0 a1 a2 a3 a4) (impl_isRule.f (k + 1) a0 a1 a2 a3 a4) := by
 intro a0 a1 a2 a3 a4 k
 unfold impl_isRule.f
 repeat' first
   | (with_reducible exact impl_DnRight.mono _ _)
   | (with_reducible exact impl_areNames.mono _ _)
   | (with_reducible exact LeO.refl _)
   | (with_reducible exact LeO.none _)
   | (with_reducible refine LeO.ite ?_ ?_)
   | (with_reducible refine LeO.bind ?_ (fun _ => ?_))
   | exact impl_DnRight.mono _ _
   | exact impl_areNames.mono _ _
   | exact LeO.none _
   | refine LeO.ite ?_ ?_
   | refine LeO.bind ?_ (fun _ => ?_)
set_option maxHeartbeats 8000000 in
set_option maxRecDepth 100000 in
theorem impl_isRule.calls (k : Nat) (a0_0 : ByteArray) (A0_1 : Option Addr) (c0_1 : Nat) (l0_1 : List (S98)) (A0_2 : Option Addr) (c0_2 : Nat) (l0_2 : List ByteArray) (a0_3 : Int) (a0_4 : Bool) (r : Bool) (w : World) (hr0_1 : Kd.C k98 w A0_1 l0_1.length l0_1) (hc0_1 : l0_1.length ≤ c0_1) (hr0_2 : Kd.C Kd.string w A0_2 l0_2.length l0_2) (hc0_2 : l0_2.length ≤ c0_2) (h : impl_isRule.f k a0_0 l0_1 l0_2 a0_3 a0_4 = some r) :
  Calls Tryz.prog 73 #[.agg #[.string a0_0, .slice A0_1 l0_1.length c0_1, .slice A0_2 l0_2.length c0_2, .int .i64 a0_3, .bool a0_4]] w fun e w' => e = .returned (.bool r) ∧ Below w.heap.size w w' := by
 have hu53 := Tryz.underlying53
 have HR0_1 := Aside0.mk hr0_1
 have HC0_1 := Aside0.mk hc0_1
 clear hr0_1 hc0_1
 have HR0_2 := Aside0.mk hr0_2
 have HC0_2 := Aside0.mk hc0_2
 clear hr0_2 hc0_2
 have HB := Aside0.mk (Below.refl w.heap.size w)
 have H : (if a0_0.toList = ([42] : List UInt8) then ((impl_DnRight.f k l0_1).bind fun t296 => (if t296 = true then (if (l0_2.length : Int) ≤ 8 then ((impl_areNames.f k l0_2).bind fun t297 => (if t297 = true then ((impl_isRight.f a0_3).bind fun t298 => (some t298)) else (some false))) else (some false)) else (some false))) else ((impl_NameRight.f a0_0).bind fun t299 => (if t299 = true then ((impl_DnRight.f k l0_1).bind fun t300 => (if t300 = true then (if (l0_2.length : Int) ≤ 8 then ((impl_areNames.f k l0_2).bind fun t301 => (if t301 = true then ((impl_isRight.f a0_3).bind fun t302 => (some t302)) else (some false))) else (some false)) else (some false))) else (some false)))) = some r := h
 clear h
 by_cases c2 : a0_0.toList = ([42] : List UInt8)
 ·rw [if_pos c2] at H
  have c2b0 : (a0_0.toList == ([42] : List UInt8)) = true := beq_iff_eq.mpr c2
  have c2b1 : (a0_0.toList != ([42] : List UInt8)) = false := bne_eq_false_iff_eq.mpr c2
  clear c2
  replace H := Option.bind_eq_some_iff.mp H
  obtain ⟨t296, A30, H⟩ := H
  replace H : (if t296 = true then (if (l0_2.length : Int) ≤ 8 then ((impl_areNames.f k l0_2).bind fun t297 => (if t297 = true then ((impl_isRight.f a0_3).bind fun t298 => (some t298)) else (some false))) else (some false)) else (some false)) = some r := H
  have A3 := Aside0.mk A30
  clear A30
  by_cases c4 : t296 = true
  rotate_left
  ·replace c4 := Bool.eq_false_iff.mpr c4
   subst c4
   have H1 : (some false) = some r := by rw [if_neg (show ¬ (false = true) by decide)] at H; exact H
   clear H
   have H := H1
   clear H1
   obtain rfl := Option.some.inj H
   go_enter Tryz.func73, Tryz.ntmps73
   go_wp2_with (first | ((with_reducible refine gate_dst (N := 1) rfl ?_); (try (refine gate_guard (by rfl) ?_; dsimp only)); refine box_event ?hg (N := 1) ?hd (cs := #[.string a0_0, .slice A0_1 l0_1.length c0_1, .slice A0_2 l0_2.length c0_2, .int .i64 a0_3, .bool a0_4]) (t := 53) ?hr ?_; (case hd => rfl); (case hg => rfl); (case hr => first | (go_simp; done) | (go_simp; rfl)); intro gb295 hg w24 hbox hb; have n0_ := Aside0.mk (below_step HBa hb); have n1_ := Aside0.mk (hbox); have n2_ := BSz w hg HBa; have n3_ := BSz w hg HBa; clear HB; have HB := n0_; have BK295 := n1_; have GW295 := n2_; have GE295 := n3_; clear n0_ n1_ n2_ n3_; clear hb hbox hg; have hcz25_0 := C1z BK295; have hcz25_1 := C2z BK295; have hcz25_2 := C3z BK295; have hcz25_3 := C4z BK295; have hcz25_4 := C5z BK295; have hfz25_0 := blk_frozen BK295.out 0; have hfz25_1 := blk_frozen BK295.out 1; have hfz25_2 := blk_frozen BK295.out 2; have hfz25_3 := blk_frozen BK295.out 3; have hfz25_4 := blk_frozen BK295.out 4) | (go_at_call 68; (with_reducible refine (impl_DnRight.calls k _ _ l0_1 false _ ?side1 ?side2 A3.out).mono ?_); (case side1 => exact KCz (Kd.C_below HR0_1.out HB.out)); (case side2 => exact HC0_1.out); rintro e w26 ⟨rfl, hb⟩; have n0_ := BBz BK295 hb; have n1_ := Aside0.mk (below_step (HBb GE295) hb); clear BK295; clear HB; have BK295 := n0_; have HB := n1_; clear n0_ n1_; (try clear hb); (try clear hb2); (try clear hk); (try clear hi)))
   go_ret
   exact ⟨EZa, HBb GE295⟩
  subst c4
  have H1 : (if (l0_2.length : Int) ≤ 8 then ((impl_areNames.f k l0_2).bind fun t297 => (if t297 = true then ((impl_isRight.f a0_3).bind fun t298 => (some t298)) else (some false))) else (some false)) = some r := by rw [if_pos rfl] at H; exact H
  clear H
  have H := H1
  clear H1
  by_cases c5 : (l0_2.length : Int) ≤ 8
  rotate_left
  ·rw [if_neg c5] at H
   have c5b0 : decide ((l0_2.length : Int) ≤ 8) = false := decide_eq_false c5
   have c5b1 : decide (l0_2.length ≤ 8) = false := decide_eq_false (by omega)
   clear c5
   obtain rfl := Option.some.inj H
   go_enter Tryz.func73, Tryz.ntmps73
   go_wp2_with (first | ((with_reducible refine gate_dst (N := 1) rfl ?_); (try (refine gate_guard (by rfl) ?_; dsimp only)); refine box_event ?hg (N := 1) ?hd (cs := #[.string a0_0, .slice A0_1 l0_1.length c0_1, .slice A0_2 l0_2.length c0_2, .int .i64 a0_3, .bool a0_4]) (t := 53) ?hr ?_; (case hd => rfl); (case hg => rfl); (case hr => first | (go_simp; done) | (go_simp; rfl)); intro gb295 hg w20 hbox hb; have n0_ := Aside0.mk (below_step HBa hb); have n1_ := Aside0.mk (hbox); have n2_ := BSz w hg HBa; have n3_ := BSz w hg HBa; clear HB; have HB := n0_; have BK295 := n1_; have GW295 := n2_; have GE295 := n3_; clear n0_ n1_ n2_ n3_; clear hb hbox hg; have hcz21_0 := C1z BK295; have hcz21_1 := C2z BK295; have hcz21_2 := C3z BK295; have hcz21_3 := C4z BK295; have hcz21_4 := C5z BK295; have hfz21_0 := blk_frozen BK295.out 0; have hfz21_1 := blk_frozen BK295.out 1; have hfz21_2 := blk_frozen BK295.out 2; have hfz21_3 := blk_frozen BK295.out 3; have hfz21_4 := blk_frozen BK295.out 4) | (go_at_call 68; (with_reducible refine (impl_DnRight.calls k _ _ l0_1 true _ ?side1 ?side2 A3.out).mono ?_); (case side1 => exact KCz (Kd.C_below HR0_1.out HB.out)); (case side2 => exact HC0_1.out); rintro e w22 ⟨rfl, hb⟩; have n0_ := BBz BK295 hb; have n1_ := Aside0.mk (below_step (HBb GE295) hb); clear BK295; clear HB; have BK295 := n0_; have HB := n1_; clear n0_ n1_; (try clear hb); (try clear hb2); (try clear hk); (try clear hi); have hcz23_0 := C1z BK295; have hcz23_1 := C2z BK295; have hcz23_2 := C3z BK295; have hcz23_3 := C4z BK295; have hcz23_4 := C5z BK295; have hfz23_0 := blk_frozen BK295.out 0; have hfz23_1 := blk_frozen BK295.out 1; have hfz23_2 := blk_frozen BK295.out 2; have hfz23_3 := blk_frozen BK295.out 3; have hfz23_4 := blk_frozen BK295.out 4))
   go_ret
   exact ⟨EZa, HBb GE295⟩
  rw [if_pos c5] at H
  have c5b0 : decide ((l0_2.length : Int) ≤ 8) = true := decide_eq_true c5
  have c5b1 : decide (l0_2.length ≤ 8) = true := decide_eq_true (by omega)
  clear c5
  replace H := Option.bind_eq_some_iff.mp H
  obtain ⟨t297, A60, H⟩ := H
  replace H : (if t297 = true then ((impl_isRight.f a0_3).bind fun t298 => (some t298)) else (some false)) = some r := H
  have A6 := Aside0.mk A60
  clear A60
  by_cases c7 : t297 = true
  ·subst c7
   have H1 : ((impl_isRight.f a0_3).bind fun t298 => (some t298)) = some r := by rw [if_pos rfl] at H; exact H
   clear H
   have H := H1
   clear H1
   replace H := Option.bind_eq_some_iff.mp H
   obtain ⟨t298, A80, H⟩ := H
   replace H : (some t298) = some r := H
   have A8 := Aside0.mk A80
   clear A80
   obtain rfl := Option.some.inj H
   go_enter Tryz.func73, Tryz.ntmps73
   go_wp2_with (first | ((with_reducible refine gate_dst (N := 1) rfl ?_); (try (refine gate_guard (by rfl) ?_; dsimp only)); refine box_event ?hg (N := 1) ?hd (cs := #[.string a0_0, .slice A0_1 l0_1.length c0_1, .slice A0_2 l0_2.length c0_2, .int .i64 a0_3, .bool a0_4]) (t := 53) ?hr ?_; (case hd => rfl); (case hg => rfl); (case hr => first | (go_simp; done) | (go_simp; rfl)); intro gb295 hg w9 hbox hb; have n0_ := Aside0.mk (below_step HBa hb); have n1_ := Aside0.mk (hbox); have n2_ := BSz w hg HBa; have n3_ := BSz w hg HBa; clear HB; have HB := n0_; have BK295 := n1_; have GW295 := n2_; have GE295 := n3_; clear n0_ n1_ n2_ n3_; clear hb hbox hg; have hcz10_0 := C1z BK295; have hcz10_1 := C2z BK295; have hcz10_2 := C3z BK295; have hcz10_3 := C4z BK295; have hcz10_4 := C5z BK295; have hfz10_0 := blk_frozen BK295.out 0; have hfz10_1 := blk_frozen BK295.out 1; have hfz10_2 := blk_frozen BK295.out 2; have hfz10_3 := blk_frozen BK295.out 3; have hfz10_4 := blk_frozen BK295.out 4) | (go_at_call 68; (with_reducible refine (impl_DnRight.calls k _ _ l0_1 true _ ?side1 ?side2 A3.out).mono ?_); (case side1 => exact KCz (Kd.C_below HR0_1.out HB.out)); (case side2 => exact HC0_1.out); rintro e w11 ⟨rfl, hb⟩; have n0_ := BBz BK295 hb; have n1_ := Aside0.mk (below_step (HBb GE295) hb); clear BK295; clear HB; have BK295 := n0_; have HB := n1_; clear n0_ n1_; (try clear hb); (try clear hb2); (try clear hk); (try clear hi); have hcz12_0 := C1z BK295; have hcz12_1 := C2z BK295; have hcz12_2 := C3z BK295; have hcz12_3 := C4z BK295; have hcz12_4 := C5z BK295; have hfz12_0 := blk_frozen BK295.out 0; have hfz12_1 := blk_frozen BK295.out 1; have hfz12_2 := blk_frozen BK295.out 2; have hfz12_3 := blk_frozen BK295.out 3; have hfz12_4 := blk_frozen BK295.out 4) | (go_at_call 113; (with_reducible refine (impl_areNames.calls k _ _ l0_2 true _ ?side1 ?side2 A6.out).mono ?_); (case side1 => exact KCz (Kd.C_below HR0_2.out HB.out)); (case side2 => exact HC0_2.out); rintro e w13 ⟨rfl, hb⟩; have n0_ := BBz BK295 hb; have n1_ := Aside0.mk (below_step (HBb GE295) hb); clear BK295; clear HB; have BK295 := n0_; have HB := n1_; clear n0_ n1_; (try clear hb); (try clear hb2); (try clear hk); (try clear hi); have hcz14_0 := C1z BK295; have hcz14_1 := C2z BK295; have hcz14_2 := C3z BK295; have hcz14_3 := C4z BK295; have hcz14_4 := C5z BK295; have hfz14_0 := blk_frozen BK295.out 0; have hfz14_1 := blk_frozen BK295.out 1; have hfz14_2 := blk_frozen BK295.out 2; have hfz14_3 := blk_frozen BK295.out 3; have hfz14_4 := blk_frozen BK295.out 4) | (go_at_call 69; (with_reducible refine (impl_isRight.calls a0_3 t298 _ A8.out).mono ?_); rintro e w' ⟨rfl, ⟨nd, rfl⟩⟩))
   go_ret
   exact ⟨EZa, HBb GE295⟩
  replace c7 := Bool.eq_false_iff.mpr c7
  subst c7
  have H1 : (some false) = some r := by rw [if_neg (show ¬ (false = true) by decide)] at H; exact H
  clear H
  have H := H1
  clear H1
  obtain rfl := Option.some.inj H
  go_enter Tryz.func73, Tryz.ntmps73
  go_wp2_with (first | ((with_reducible refine gate_dst (N := 1) rfl ?_); (try (refine gate_guard (by rfl) ?_; dsimp only)); refine box_event ?hg (N := 1) ?hd (cs := #[.string a0_0, .slice A0_1 l0_1.length c0_1, .slice A0_2 l0_2.length c0_2, .int .i64 a0_3, .bool a0_4]) (t := 53) ?hr ?_; (case hd => rfl); (case hg => rfl); (case hr => first | (go_simp; done) | (go_simp; rfl)); intro gb295 hg w15 hbox hb; have n0_ := Aside0.mk (below_step HBa hb); have n1_ := Aside0.mk (hbox); have n2_ := BSz w hg HBa; have n3_ := BSz w hg HBa; clear HB; have HB := n0_; have BK295 := n1_; have GW295 := n2_; have GE295 := n3_; clear n0_ n1_ n2_ n3_; clear hb hbox hg; have hcz16_0 := C1z BK295; have hcz16_1 := C2z BK295; have hcz16_2 := C3z BK295; have hcz16_3 := C4z BK295; have hcz16_4 := C5z BK295; have hfz16_0 := blk_frozen BK295.out 0; have hfz16_1 := blk_frozen BK295.out 1; have hfz16_2 := blk_frozen BK295.out 2; have hfz16_3 := blk_frozen BK295.out 3; have hfz16_4 := blk_frozen BK295.out 4) | (go_at_call 68; (with_reducible refine (impl_DnRight.calls k _ _ l0_1 true _ ?side1 ?side2 A3.out).mono ?_); (case side1 => exact KCz (Kd.C_below HR0_1.out HB.out)); (case side2 => exact HC0_1.out); rintro e w17 ⟨rfl, hb⟩; have n0_ := BBz BK295 hb; have n1_ := Aside0.mk (below_step (HBb GE295) hb); clear BK295; clear HB; have BK295 := n0_; have HB := n1_; clear n0_ n1_; (try clear hb); (try clear hb2); (try clear hk); (try clear hi); have hcz18_0 := C1z BK295; have hcz18_1 := C2z BK295; have hcz18_2 := C3z BK295; have hcz18_3 := C4z BK295; have hcz18_4 := C5z BK295; have hfz18_0 := blk_frozen BK295.out 0; have hfz18_1 := blk_frozen BK295.out 1; have hfz18_2 := blk_frozen BK295.out 2; have hfz18_3 := blk_frozen BK295.out 3; have hfz18_4 := blk_frozen BK295.out 4) | (go_at_call 113; (with_reducible refine (impl_areNames.calls k _ _ l0_2 false _ ?side1 ?side2 A6.out).mono ?_); (case side1 => exact KCz (Kd.C_below HR0_2.out HB.out)); (case side2 => exact HC0_2.out); rintro e w19 ⟨rfl, hb⟩; have n0_ := BBz BK295 hb; have n1_ := Aside0.mk (below_step (HBb GE295) hb); clear BK295; clear HB; have BK295 := n0_; have HB := n1_; clear n0_ n1_; (try clear hb); (try clear hb2); (try clear hk); (try clear hi)))
  go_ret
  exact ⟨EZa, HBb GE295⟩
 rw [if_neg c2] at H
 have c2b0 : (a0_0.toList == ([42] : List UInt8)) = false := beq_eq_false_iff_ne.mpr c2
 have c2b1 : (a0_0.toList != ([42] : List UInt8)) = true := bne_iff_ne.mpr c2
 replace H := Option.bind_eq_some_iff.mp H
 obtain ⟨t299, A270, H⟩ := H
 replace H : (if t299 = true then ((impl_DnRight.f k l0_1).bind fun t300 => (if t300 = true then (if (l0_2.length : Int) ≤ 8 then ((impl_areNames.f k l0_2).bind fun t301 => (if t301 = true then ((impl_isRight.f a0_3).bind fun t302 => (some t302)) else (some false))) else (some false)) else (some false))) else (some false)) = some r := H
 have A27 := Aside0.mk A270
 clear A270
 by_cases c28 : t299 = true
 rotate_left
 ·replace c28 := Bool.eq_false_iff.mpr c28
  subst c28
  have H1 : (some false) = some r := by rw [if_neg (show ¬ (false = true) by decide)] at H; exact H
  clear H
  have H := H1
  clear H1
  obtain rfl := Option.some.inj H
  go_enter Tryz.func73, Tryz.ntmps73
  go_wp2_with (first | ((with_reducible refine gate_dst (N := 1) rfl ?_); (try (refine gate_guard (by rfl) ?_; dsimp only)); refine box_event ?hg (N := 1) ?hd (cs := #[.string a0_0, .slice A0_1 l0_1.length c0_1, .slice A0_2 l0_2.length c0_2, .int .i64 a0_3, .bool a0_4]) (t := 53) ?hr ?_; (case hd => rfl); (case hg => rfl); (case hr => first | (go_simp; done) | (go_simp; rfl)); intro gb295 hg w61 hbox hb; have n0_ := Aside0.mk (below_step HBa hb); have n1_ := Aside0.mk (hbox); have n2_ := BSz w hg HBa; have n3_ := BSz w hg HBa; clear HB; have HB := n0_; have BK295 := n1_; have GW295 := n2_; have GE295 := n3_; clear n0_ n1_ n2_ n3_; clear hb hbox hg; have hcz62_0 := C1z BK295; have hcz62_1 := C2z BK295; have hcz62_2 := C3z BK295; have hcz62_3 := C4z BK295; have hcz62_4 := C5z BK295; have hfz62_0 := blk_frozen BK295.out 0; have hfz62_1 := blk_frozen BK295.out 1; have hfz62_2 := blk_frozen BK295.out 2; have hfz62_3 := blk_frozen BK295.out 3; have hfz62_4 := blk_frozen BK295.out 4) | (go_at_call 53; (with_reducible refine (impl_NameRight.calls a0_0 false _ A27.out).mono ?_); rintro e w63 ⟨rfl, hb⟩; have n0_ := BBz BK295 hb; have n1_ := Aside0.mk (below_step (HBb GE295) hb); clear BK295; clear HB; have BK295 := n0_; have HB := n1_; clear n0_ n1_; (try clear hb); (try clear hb2); (try clear hk); (try clear hi)))
  go_ret
  exact ⟨EZa, HBb GE295⟩
 subst c28
 have H1 : ((impl_DnRight.f k l0_1).bind fun t300 => (if t300 = true then (if (l0_2.length : Int) ≤ 8 then ((impl_areNames.f k l0_2).bind fun t301 => (if t301 = true then ((impl_isRight.f a0_3).bind fun t302 => (some t302)) else (some false))) else (some false)) else (some false))) = some r := by rw [if_pos rfl] at H; exact H
 clear H
 have H := H1
 clear H1
 replace H := Option.bind_eq_some_iff.mp H
 obtain ⟨t300, A290, H⟩ := H
 replace H : (if t300 = true then (if (l0_2.length : Int) ≤ 8 then ((impl_areNames.f k l0_2).bind fun t301 => (if t301 = true then ((impl_isRight.f a0_3).bind fun t302 => (some t302)) else (some false))) else (some false)) else (some false)) = some r := H
 have A29 := Aside0.mk A290
 clear A290
 by_cases c30 : t300 = true
 rotate_left
 ·replace c30 := Bool.eq_false_iff.mpr c30
  subst c30
  have H1 : (some false) = some r := by rw [if_neg (show ¬ (false = true) by decide)] at H; exact H
  clear H
  have H := H1
  clear H1
  obtain rfl := Option.some.inj H
  go_enter Tryz.func73, Tryz.ntmps73
  go_wp2_with (first | ((with_reducible refine gate_dst (N := 1) rfl ?_); (try (refine gate_guard (by rfl) ?_; dsimp only)); refine box_event ?hg (N := 1) ?hd (cs := #[.string a0_0, .slice A0_1 l0_1.length c0_1, .slice A0_2 l0_2.length c0_2, .int .i64 a0_3, .bool a0_4]) (t := 53) ?hr ?_; (case hd => rfl); (case hg => rfl); (case hr => first | (go_simp; done) | (go_simp; rfl)); intro gb295 hg w56 hbox hb; have n0_ := Aside0.mk (below_step HBa hb); have n1_ := Aside0.mk (hbox); have n2_ := BSz w hg HBa; have n3_ := BSz w hg HBa; clear HB; have HB := n0_; have BK295 := n1_; have GW295 := n2_; have GE295 := n3_; clear n0_ n1_ n2_ n3_; clear hb hbox hg; have hcz57_0 := C1z BK295; have hcz57_1 := C2z BK295; have hcz57_2 := C3z BK295; have hcz57_3 := C4z BK295; have hcz57_4 := C5z BK295; have hfz57_0 := blk_frozen BK295.out 0; have hfz57_1 := blk_frozen BK295.out 1; have hfz57_2 := blk_frozen BK295.out 2; have hfz57_3 := blk_frozen BK295.out 3; have hfz57_4 := blk_frozen BK295.out 4) | (go_at_call 53; (with_reducible refine (impl_NameRight.calls a0_0 true _ A27.out).mono ?_); rintro e w58 ⟨rfl, hb⟩; have n0_ := BBz BK295 hb; have n1_ := Aside0.mk (below_step (HBb GE295) hb); clear BK295; clear HB; have BK295 := n0_; have HB := n1_; clear n0_ n1_; (try clear hb); (try clear hb2); (try clear hk); (try clear hi); have hcz59_0 := C1z BK295; have hcz59_1 := C2z BK295; have hcz59_2 := C3z BK295; have hcz59_3 := C4z BK295; have hcz59_4 := C5z BK295; have hfz59_0 := blk_frozen BK295.out 0; have hfz59_1 := blk_frozen BK295.out 1; have hfz59_2 := blk_frozen BK295.out 2; have hfz59_3 := blk_frozen BK295.out 3; have hfz59_4 := blk_frozen BK295.out 4) | (go_at_call 68; (with_reducible refine (impl_DnRight.calls k _ _ l0_1 false _ ?side1 ?side2 A29.out).mono ?_); (case side1 => exact KCz (Kd.C_below HR0_1.out HB.out)); (case side2 => exact HC0_1.out); rintro e w60 ⟨rfl, hb⟩; have n0_ := BBz BK295 hb; have n1_ := Aside0.mk (below_step (HBb GE295) hb); clear BK295; clear HB; have BK295 := n0_; have HB := n1_; clear n0_ n1_; (try clear hb); (try clear hb2); (try clear hk); (try clear hi)))
  go_ret
  exact ⟨EZa, HBb GE295⟩
 subst c30
 have H1 : (if (l0_2.length : Int) ≤ 8 then ((impl_areNames.f k l0_2).bind fun t301 => (if t301 = true then ((impl_isRight.f a0_3).bind fun t302 => (some t302)) else (some false))) else (some false)) = some r := by rw [if_pos rfl] at H; exact H
 clear H
 have H := H1
 clear H1
 by_cases c31 : (l0_2.length : Int) ≤ 8
 rotate_left
 ·rw [if_neg c31] at H
  have c31b0 : decide ((l0_2.length : Int) ≤ 8) = false := decide_eq_false c31
  have c31b1 : decide (l0_2.length ≤ 8) = false := decide_eq_false (by omega)
  clear c31
  obtain rfl := Option.some.inj H
  go_enter Tryz.func73, Tryz.ntmps73
  go_wp2_with (first | ((with_reducible refine gate_dst (N := 1) rfl ?_); (try (refine gate_guard (by rfl) ?_; dsimp only)); refine box_event ?hg (N := 1) ?hd (cs := #[.string a0_0, .slice A0_1 l0_1.length c0_1, .slice A0_2 l0_2.length c0_2, .int .i64 a0_3, .bool a0_4]) (t := 53) ?hr ?_; (case hd => rfl); (case hg => rfl); (case hr => first | (go_simp; done) | (go_simp; rfl)); intro gb295 hg w50 hbox hb; have n0_ := Aside0.mk (below_step HBa hb); have n1_ := Aside0.mk (hbox); have n2_ := BSz w hg HBa; have n3_ := BSz w hg HBa; clear HB; have HB := n0_; have BK295 := n1_; have GW295 := n2_; have GE295 := n3_; clear n0_ n1_ n2_ n3_; clear hb hbox hg; have hcz51_0 := C1z BK295; have hcz51_1 := C2z BK295; have hcz51_2 := C3z BK295; have hcz51_3 := C4z BK295; have hcz51_4 := C5z BK295; have hfz51_0 := blk_frozen BK295.out 0; have hfz51_1 := blk_frozen BK295.out 1; have hfz51_2 := blk_frozen BK295.out 2; have hfz51_3 := blk_frozen BK295.out 3; have hfz51_4 := blk_frozen BK295.out 4) | (go_at_call 53; (with_reducible refine (impl_NameRight.calls a0_0 true _ A27.out).mono ?_); rintro e w52 ⟨rfl, hb⟩; have n0_ := BBz BK295 hb; have n1_ := Aside0.mk (below_step (HBb GE295) hb); clear BK295; clear HB; have BK295 := n0_; have HB := n1_; clear n0_ n1_; (try clear hb); (try clear hb2); (try clear hk); (try clear hi); have hcz53_0 := C1z BK295; have hcz53_1 := C2z BK295; have hcz53_2 := C3z BK295; have hcz53_3 := C4z BK295; have hcz53_4 := C5z BK295; have hfz53_0 := blk_frozen BK295.out 0; have hfz53_1 := blk_frozen BK295.out 1; have hfz53_2 := blk_frozen BK295.out 2; have hfz53_3 := blk_frozen BK295.out 3; have hfz53_4 := blk_frozen BK295.out 4) | (go_at_call 68; (with_reducible refine (impl_DnRight.calls k _ _ l0_1 true _ ?side1 ?side2 A29.out).mono ?_); (case side1 => exact KCz (Kd.C_below HR0_1.out HB.out)); (case side2 => exact HC0_1.out); rintro e w54 ⟨rfl, hb⟩; have n0_ := BBz BK295 hb; have n1_ := Aside0.mk (below_step (HBb GE295) hb); clear BK295; clear HB; have BK295 := n0_; have HB := n1_; clear n0_ n1_; (try clear hb); (try clear hb2); (try clear hk); (try clear hi); have hcz55_0 := C1z BK295; have hcz55_1 := C2z BK295; have hcz55_2 := C3z BK295; have hcz55_3 := C4z BK295; have hcz55_4 := C5z BK295; have hfz55_0 := blk_frozen BK295.out 0; have hfz55_1 := blk_frozen BK295.out 1; have hfz55_2 := blk_frozen BK295.out 2; have hfz55_3 := blk_frozen BK295.out 3; have hfz55_4 := blk_frozen BK295.out 4))
  go_ret
  exact ⟨EZa, HBb GE295⟩
 rw [if_pos c31] at H
 have c31b0 : decide ((l0_2.length : Int) ≤ 8) = true := decide_eq_true c31
 have c31b1 : decide (l0_2.length ≤ 8) = true := decide_eq_true (by omega)
 clear c31
 replace H := Option.bind_eq_some_iff.mp H
 obtain ⟨t301, A320, H⟩ := H
 replace H : (if t301 = true then ((impl_isRight.f a0_3).bind fun t302 => (some t302)) else (some false)) = some r := H
 have A32 := Aside0.mk A320
 clear A320
 by_cases c33 : t301 = true
 ·subst c33
  have H1 : ((impl_isRight.f a0_3).bind fun t302 => (some t302)) = some r := by rw [if_pos rfl] at H; exact H
  clear H
  have H := H1
  clear H1
  replace H := Option.bind_eq_some_iff.mp H
  obtain ⟨t302, A340, H⟩ := H
  replace H : (some t302) = some r := H
  have A34 := Aside0.mk A340
  clear A340
  obtain rfl := Option.some.inj H
  go_enter Tryz.func73, Tryz.ntmps73
  go_wp2_with (first | ((with_reducible refine gate_dst (N := 1) rfl ?_); (try (refine gate_guard (by rfl) ?_; dsimp only)); refine box_event ?hg (N := 1) ?hd (cs := #[.string a0_0, .slice A0_1 l0_1.length c0_1, .slice A0_2 l0_2.length c0_2, .int .i64 a0_3, .bool a0_4]) (t := 53) ?hr ?_; (case hd => rfl); (case hg => rfl); (case hr => first | (go_simp; done) | (go_simp; rfl)); intro gb295 hg w35 hbox hb; have n0_ := Aside0.mk (below_step HBa hb); have n1_ := Aside0.mk (hbox); have n2_ := BSz w hg HBa; have n3_ := BSz w hg HBa; clear HB; have HB := n0_; have BK295 := n1_; have GW295 := n2_; have GE295 := n3_; clear n0_ n1_ n2_ n3_; clear hb hbox hg; have hcz36_0 := C1z BK295; have hcz36_1 := C2z BK295; have hcz36_2 := C3z BK295; have hcz36_3 := C4z BK295; have hcz36_4 := C5z BK295; have hfz36_0 := blk_frozen BK295.out 0; have hfz36_1 := blk_frozen BK295.out 1; have hfz36_2 := blk_frozen BK295.out 2; have hfz36_3 := blk_frozen BK295.out 3; have hfz36_4 := blk_frozen BK295.out 4) | (go_at_call 53; (with_reducible refine (impl_NameRight.calls a0_0 true _ A27.out).mono ?_); rintro e w37 ⟨rfl, hb⟩; have n0_ := BBz BK295 hb; have n1_ := Aside0.mk (below_step (HBb GE295) hb); clear BK295; clear HB; have BK295 := n0_; have HB := n1_; clear n0_ n1_; (try clear hb); (try clear hb2); (try clear hk); (try clear hi); have hcz38_0 := C1z BK295; have hcz38_1 := C2z BK295; have hcz38_2 := C3z BK295; have hcz38_3 := C4z BK295; have hcz38_4 := C5z BK295; have hfz38_0 := blk_frozen BK295.out 0; have hfz38_1 := blk_frozen BK295.out 1; have hfz38_2 := blk_frozen BK295.out 2; have hfz38_3 := blk_frozen BK295.out 3; have hfz38_4 := blk_frozen BK295.out 4) | (go_at_call 68; (with_reducible refine (impl_DnRight.calls k _ _ l0_1 true _ ?side1 ?side2 A29.out).mono ?_); (case side1 => exact KCz (Kd.C_below HR0_1.out HB.out)); (case side2 => exact HC0_1.out); rintro e w39 ⟨rfl, hb⟩; have n0_ := BBz BK295 hb; have n1_ := Aside0.mk (below_step (HBb GE295) hb); clear BK295; clear HB; have BK295 := n0_; have HB := n1_; clear n0_ n1_; (try clear hb); (try clear hb2); (try clear hk); (try clear hi); have hcz40_0 := C1z BK295; have hcz40_1 := C2z BK295; have hcz40_2 := C3z BK295; have hcz40_3 := C4z BK295; have hcz40_4 := C5z BK295; have hfz40_0 := blk_frozen BK295.out 0; have hfz40_1 := blk_frozen BK295.out 1; have hfz40_2 := blk_frozen BK295.out 2; have hfz40_3 := blk_frozen BK295.out 3; have hfz40_4 := blk_frozen BK295.out 4) | (go_at_call 113; (with_reducible refine (impl_areNames.calls k _ _ l0_2 true _ ?side1 ?side2 A32.out).mono ?_); (case side1 => exact KCz (Kd.C_below HR0_2.out HB.out)); (case side2 => exact HC0_2.out); rintro e w41 ⟨rfl, hb⟩; have n0_ := BBz BK295 hb; have n1_ := Aside0.mk (below_step (HBb GE295) hb); clear BK295; clear HB; have BK295 := n0_; have HB := n1_; clear n0_ n1_; (try clear hb); (try clear hb2); (try clear hk); (try clear hi); have hcz42_0 := C1z BK295; have hcz42_1 := C2z BK295; have hcz42_2 := C3z BK295; have hcz42_3 := C4z BK295; have hcz42_4 := C5z BK295; have hfz42_0 := blk_frozen BK295.out 0; have hfz42_1 := blk_frozen BK295.out 1; have hfz42_2 := blk_frozen BK295.out 2; have hfz42_3 := blk_frozen BK295.out 3; have hfz42_4 := blk_frozen BK295.out 4) | (go_at_call 69; (with_reducible refine (impl_isRight.calls a0_3 t302 _ A34.out).mono ?_); rintro e w' ⟨rfl, ⟨nd, rfl⟩⟩))
  go_ret
  exact ⟨EZa, HBb GE295⟩
 replace c33 := Bool.eq_false_iff.mpr c33
 subst c33
 have H1 : (some false) = some r := by rw [if_neg (show ¬ (false = true) by decide)] at H; exact H
 clear H
 have H := H1
 clear H1
 obtain rfl := Option.some.inj H
 go_enter Tryz.func73, Tryz.ntmps73
 go_wp2_with (first | ((with_reducible refine gate_dst (N := 1) rfl ?_); (try (refine gate_guard (by rfl) ?_; dsimp only)); refine box_event ?hg (N := 1) ?hd (cs := #[.string a0_0, .slice A0_1 l0_1.length c0_1, .slice A0_2 l0_2.length c0_2, .int .i64 a0_3, .bool a0_4]) (t := 53) ?hr ?_; (case hd => rfl); (case hg => rfl); (case hr => first | (go_simp; done) | (go_simp; rfl)); intro gb295 hg w43 hbox hb; have n0_ := Aside0.mk (below_step HBa hb); have n1_ := Aside0.mk (hbox); have n2_ := BSz w hg HBa; have n3_ := BSz w hg HBa; clear HB; have HB := n0_; have BK295 := n1_; have GW295 := n2_; have GE295 := n3_; clear n0_ n1_ n2_ n3_; clear hb hbox hg; have hcz44_0 := C1z BK295; have hcz44_1 := C2z BK295; have hcz44_2 := C3z BK295; have hcz44_3 := C4z BK295; have hcz44_4 := C5z BK295; have hfz44_0 := blk_frozen BK295.out 0; have hfz44_1 := blk_frozen BK295.out 1; have hfz44_2 := blk_frozen BK295.out 2; have hfz44_3 := blk_frozen BK295.out 3; have hfz44_4 := blk_frozen BK295.out 4) | (go_at_call 53; (with_reducible refine (impl_NameRight.calls a0_0 true _ A27.out).mono ?_); rintro e w45 ⟨rfl, hb⟩; have n0_ := BBz BK295 hb; have n1_ := Aside0.mk (below_step (HBb GE295) hb); clear BK295; clear HB; have BK295 := n0_; have HB := n1_; clear n0_ n1_; (try clear hb); (try clear hb2); (try clear hk); (try clear hi); have hcz46_0 := C1z BK295; have hcz46_1 := C2z BK295; have hcz46_2 := C3z BK295; have hcz46_3 := C4z BK295; have hcz46_4 := C5z BK295; have hfz46_0 := blk_frozen BK295.out 0; have hfz46_1 := blk_frozen BK295.out 1; have hfz46_2 := blk_frozen BK295.out 2; have hfz46_3 := blk_frozen BK295.out 3; have hfz46_4 := blk_frozen BK295.out 4) | (go_at_call 68; (with_reducible refine (impl_DnRight.calls k _ _ l0_1 true _ ?side1 ?side2 A29.out).mono ?_); (case side1 => exact KCz (Kd.C_below HR0_1.out HB.out)); (case side2 => exact HC0_1.out); rintro e w47 ⟨rfl, hb⟩; have n0_ := BBz BK295 hb; have n1_ := Aside0.mk (below_step (HBb GE295) hb); clear BK295; clear HB; have BK295 := n0_; have HB := n1_; clear n0_ n1_; (try clear hb); (try clear hb2); (try clear hk); (try clear hi); have hcz48_0 := C1z BK295; have hcz48_1 := C2z BK295; have hcz48_2 := C3z BK295; have hcz48_3 := C4z BK295; have hcz48_4 := C5z BK295; have hfz48_0 := blk_frozen BK295.out 0; have hfz48_1 := blk_frozen BK295.out 1; have hfz48_2 := blk_frozen BK295.out 2; have hfz48_3 := blk_frozen BK295.out 3; have hfz48_4 := blk_frozen BK295.out 4) | (go_at_call 113; (with_reducible refine (impl_areNames.calls k _ _ l0_2 false _ ?side1 ?side2 A32.out).mono ?_); (case side1 => exact KCz (Kd.C_below HR0_2.out HB.out)); (case side2 => exact HC0_2.out); rintro e w49 ⟨rfl, hb⟩; have n0_ := BBz BK295 hb; have n1_ := Aside0.mk (below_step (HBb GE295) hb); clear BK295; clear HB; have BK295 := n0_; have HB := n1_; clear n0_ n1_; (try clear hb); (try clear hb2); (try clear hk); (try clear hi)))
 go_ret
 exact ⟨EZa, HBb GE295⟩
def impl_AclRight_1.f (k : Nat) (a0_0 : ByteArray) (l0_1 : List (S98)) (l0_2 : List ByteArray) (a0_3 : Int) (a0_4 : Bool) : Option (Bool) := (impl_isRule.f k a0_0 l0_1 l0_2 a0_3 a0_4).bind fun t304 => (some (!t304))
theorem impl_AclRight_1.mono : ∀ a0 a1 a2 a3 a4 k, LeO (impl_AclRight_1.f k a0 a1 a2 a3 a4) (impl_AclRight_1.f (k + 1) a0 a1 a2 a3 a4) := by
 intro a0 a1 a2 a3 a4 k
 unfold impl_AclRight_1.f
 repeat' first
   | (with_reducible exact impl_isRule.mono _ _ _ _ _ _)
   | (with_reducible exact LeO.refl _)
   | (with_reducible exact LeO.none _)
   | (with_reducible refine LeO.ite ?_ ?_)
   | (with_reducible refine LeO.bind ?_ (fun _ => ?_))
   | exact impl_isRule.mono _ _ _ _ _ _
   | exact LeO.none _
   | refine LeO.ite ?_ ?_
   | refine LeO.bind ?_ (fun _ => ?_)
set_option maxHeartbeats 8000000 in
set_option maxRecDepth 100000 in
theorem impl_AclRight_1.calls (k : Nat) (a0_0 : ByteArray) (A0_1 : Option Addr) (c0_1 : Nat) (l0_1 : List (S98)) (A0_2 : Option Addr) (c0_2 : Nat) (l0_2 : List ByteArray) (a0_3 : Int) (a0_4 : Bool) (r : Bool) (w : World) (hr0_1 : Kd.C k98 w A0_1 l0_1.length l0_1) (hc0_1 : l0_1.length ≤ c0_1) (hr0_2 : Kd.C Kd.string w A0_2 l0_2.length l0_2) (hc0_2 : l0_2.length ≤ c0_2) (h : impl_AclRight_1.f k a0_0 l0_1 l0_2 a0_3 a0_4 = some r) :
  Calls Tryz.prog 72 #[.agg #[.string a0_0, .slice A0_1 l0_1.length c0_1, .slice A0_2 l0_2.length c0_2, .int .i64 a0_3, .bool a0_4]] w fun e w' => e = .returned (.bool r) ∧ Below w.heap.size w w' := by
 have hu53 := Tryz.underlying53
 have HR0_1 := Aside0.mk hr0_1
 have HC0_1 := Aside0.mk hc0_1
 clear hr0_1 hc0_1
 have HR0_2 := Aside0.mk hr0_2
 have HC0_2 := Aside0.mk hc0_2
 clear hr0_2 hc0_2
 have HB := Aside0.mk (Below.refl w.heap.size w)
 have H : ((impl_isRule.f k a0_0 l0_1 l0_2 a0_3 a0_4).bind fun t304 => (some (!t304))) = some r := h
 clear h
 replace H := Option.bind_eq_some_iff.mp H
 obtain ⟨t304, A20, H⟩ := H
 replace H : (some (!t304)) = some r := H
 have A2 := Aside0.mk A20
 clear A20
 obtain rfl := Option.some.inj H
 go_enter Tryz.func72, Tryz.ntmps72
 go_wp2_with (first | ((with_reducible refine gate_dst (N := 1) rfl ?_); refine box_event ?hg (N := 1) ?hd (cs := #[.string a0_0, .slice A0_1 l0_1.length c0_1, .slice A0_2 l0_2.length c0_2, .int .i64 a0_3, .bool a0_4]) (t := 53) ?hr ?_; (case hd => rfl); (case hg => rfl); (case hr => first | (go_simp; done) | (go_simp; rfl)); intro gb303 hg w3 hbox hb; have n0_ := Aside0.mk (below_step HBa hb); have n1_ := Aside0.mk (hbox); have n2_ := BSz w hg HBa; have n3_ := BSz w hg HBa; clear HB; have HB := n0_; have BK303 := n1_; have GW303 := n2_; have GE303 := n3_; clear n0_ n1_ n2_ n3_; clear hb hbox hg; have hcz4_0 := C1z BK303; have hcz4_1 := C2z BK303; have hcz4_2 := C3z BK303; have hcz4_3 := C4z BK303; have hcz4_4 := C5z BK303; have hfz4_0 := blk_frozen BK303.out 0; have hfz4_1 := blk_frozen BK303.out 1; have hfz4_2 := blk_frozen BK303.out 2; have hfz4_3 := blk_frozen BK303.out 3; have hfz4_4 := blk_frozen BK303.out 4) | ((with_reducible refine gate_callee (f := 73) rfl ?_); refine goesL_ (some 4) rfl rfl Tryz.func73 (by kernel_rfl) rfl #[.agg #[.string a0_0, .slice A0_1 l0_1.length c0_1, .slice A0_2 l0_2.length c0_2, .int .i64 a0_3, .bool a0_4]] rfl MPz ?_; (with_reducible refine (impl_isRule.calls k a0_0 _ _ l0_1 _ _ l0_2 a0_3 a0_4 t304 _ ?side1 ?side2 ?side3 ?side4 A2.out).mono ?_); (case side1 => exact KCz (Kd.C_below HR0_1.out HB.out)); (case side2 => exact HC0_1.out); (case side3 => exact KCz (Kd.C_below HR0_2.out HB.out)); (case side4 => exact HC0_2.out); rintro e w5 ⟨rfl, hb⟩; refine ⟨_, rfl, ?_⟩; have n0_ := BBz BK303 hb; have n1_ := Aside0.mk (below_step (HBb GE303) hb); clear BK303; clear HB; have BK303 := n0_; have HB := n1_; clear n0_ n1_; (try clear hb); (try clear hb2); (try clear hk); (try clear hi)))
 go_ret
 exact ⟨EZa, HBb GE303⟩
def impl_AclRight.ix (k : Nat) : List S53 → Int → Option Int
 | [], _ => some (-1)
 | x :: xs, i => (impl_AclRight_1.f k x.f0 x.f1 x.f2 x.f3 x.f4).bind fun b => if b = true then some i else impl_AclRight.ix k xs (i + 1)
def impl_AclRight.f (k : Nat) (l0 : List (S53)) : Option (Bool) := if (l0.length : Int) ≤ 10 then ((impl_AclRight.ix k l0 0).bind fun t => some (!(decide (t ≥ 0)))) else some false
theorem impl_AclRight.mono_ix (k : Nat) : ∀ (l : List S53) (i : Int), LeO (impl_AclRight.ix k l i) (impl_AclRight.ix (k + 1) l i)
 | [], _ => LeO.refl _
 | x :: xs, i => by
  simp only [impl_AclRight.ix]
  refine LeO.bind (impl_AclRight_1.mono _ _ _ _ _ _) (fun b => ?_)
  cases b
  ·exact impl_AclRight.mono_ix k xs (i + 1)
  ·exact LeO.refl _
theorem impl_AclRight.mono : ∀ a0 k, LeO (impl_AclRight.f k a0) (impl_AclRight.f (k + 1) a0) := by
 intro a0 k
 unfold impl_AclRight.f
 exact LeO.ite (LeO.bind (impl_AclRight.mono_ix k _ _) (fun _ => LeO.refl _)) (LeO.refl _)
theorem impl_AclRight.ix_ge (k : Nat) : ∀ (l : List S53) (i : Int) (r : Int), 0 ≤ i → impl_AclRight.ix k l i = some r → -1 ≤ r
 | [], i, r, h0, h => by simp only [impl_AclRight.ix, Option.some.injEq] at h; omega
 | x :: xs, i, r, h0, h => by
  simp only [impl_AclRight.ix] at h
  obtain ⟨b, _, h⟩ := Option.bind_eq_some_iff.1 h
  cases b
  ·exact impl_AclRight.ix_ge k xs (i + 1) r (by omega) h
  ·simp at h; omega
set_option maxHeartbeats 8000000 in
set_option maxRecDepth 100000 in
theorem impl_AclRight.index (k : Nat) (A0 : Option Addr) (c0 : Nat) (l0 : List (S53)) (r : Int) (w : World) (hr0 : Kd.C k53 w A0 l0.length l0) (h : impl_AclRight.ix k l0 0 = some r) :
  Calls Tryz.prog 99 #[.slice A0 l0.length c0, .func (.func 72) #[] #[]] w fun e w' => e = .returned (.int .i64 r) ∧ Below w.heap.size w w' := by
 have hu := Tryz.underlying53
 have HR0 := Aside0.mk hr0
 clear hr0
 have HB := Aside0.mk (Below.refl w.heap.size w)
 have H' := Aside0.mk h
 clear h
 go_enter Tryz.func99, Tryz.ntmps99
 go_wp2
 go_loopg [5, 8] l0.length (fun kq _ v8 w' => ∃ j : Nat, v8 = .int .i64 (j : Int) ∧ Aside0 (impl_AclRight.ix k (l0.drop j) (j : Int) = some r) ∧ Aside0 (l0.length - j ≤ kq) ∧ Aside0 (Below w.heap.size w w'))
 case atStart => exact ⟨0, rfl, H', ⟨by omega⟩, HB⟩
 case round =>
  clear H'
  obtain ⟨j, rfl, HA, HK, HB⟩ := hrel
  by_cases c1 : (j : Int) < (l0.length : Int)
  rotate_left
  ·have c1b0 : decide ((j : Int) < (l0.length : Int)) = false := decide_eq_false c1
   have c1b1 : decide (j < l0.length) = false := decide_eq_false (by omega)
   have H := HA.out
   rw [List.drop_of_length_le (by omega)] at H
   simp only [impl_AclRight.ix] at H
   obtain rfl := Option.some.inj H
   clear c1
   go_wp2
   go_ret
   exact ⟨rfl, HB.out⟩
  have c1b0 : decide ((j : Int) < (l0.length : Int)) = true := decide_eq_true c1
  have c1b1 : decide (j < l0.length) = true := decide_eq_true (by omega)
  have H := HA.out
  clear HA
  have hj : j < l0.length := by omega
  have p1 : 0 ≤ (j : Int) := by omega
  obtain ⟨ad1, B1, b1, B2, b2, e1, hx1_0, hx1_1, hx1_2, hx1_3, hx1_4, l1, g1, l2, g2⟩ := at_T53 HR0.out (j : Int) p1 c1
  cases e1
  replace hx1_0 := HXz HB hx1_0
  replace hx1_1 := HXz HB hx1_1
  replace hx1_2 := HXz HB hx1_2
  replace hx1_3 := HXz HB hx1_3
  replace hx1_4 := HXz HB hx1_4
  simp only [Int.toNat_natCast] at hx1_0 hx1_1 hx1_2 hx1_3 hx1_4
  have G1 := Aside0.mk g1
  have G2 := Aside0.mk g2
  have L1 := Aside0.mk l1
  have L2 := Aside0.mk l2
  clear g1 g2 l1 l2
  have hel : l0.drop j = rd_T53 l0 (j : Int) :: l0.drop (j + 1) := by
   rw [List.drop_eq_getElem_cons hj]
   congr 1
   unfold rd_T53
   rw [List.getD_eq_getElem?_getD, show (j : Int).toNat = j from rfl, List.getElem?_eq_getElem hj]; rfl
  rw [hel] at H
  simp only [impl_AclRight.ix] at H
  obtain ⟨b, Ab0, H⟩ := Option.bind_eq_some_iff.1 H
  have Ab := Aside0.mk Ab0
  clear Ab0 hel
  have c1i := eq_true c1
  cases b with
  | false =>
   simp only [Bool.false_eq_true, if_false] at H
   have HN := Aside0.mk H
   clear H
   have HJ := Aside0.mk hj
   clear hj c1
   go_wp2_with (go_at_call 72; refine (impl_AclRight_1.calls k _ _ _ _ _ _ _ _ _ false _ ?s1 L1.out ?s2 L2.out Ab.out).mono ?_; (case s1 => exact KCz (Kd.C_below G1.out HB.out)); (case s2 => exact KCz (Kd.C_below G2.out HB.out)); rintro e w5 ⟨rfl, hb⟩; have n0_ := Aside0.mk (below_step HB.out hb); clear HB; have HB := n0_; clear n0_ hb)
   go_roundg (l0.length - (j + 1))
   case measure => have := HK.out; have := HJ.out; omega
   case rel => exact ⟨j + 1, by have hb := HR0.out.2.1; have := HJ.out; first | rfl | go_num | (congr 1; unfold wrap64; omega), by have h2 := HN.out; rw [show (j : Int) + 1 = ((j + 1 : Nat) : Int) by omega] at h2; exact ⟨h2⟩, ⟨Nat.le_refl _⟩, HB⟩
  | true =>
   simp only [if_true] at H
   obtain rfl := Option.some.inj H
   clear hj c1
   go_wp2_with (go_at_call 72; refine (impl_AclRight_1.calls k _ _ _ _ _ _ _ _ _ true _ ?s1 L1.out ?s2 L2.out Ab.out).mono ?_; (case s1 => exact KCz (Kd.C_below G1.out HB.out)); (case s2 => exact KCz (Kd.C_below G2.out HB.out)); rintro e w5 ⟨rfl, hb⟩; have n0_ := Aside0.mk (below_step HB.out hb); clear HB; have HB := n0_; clear n0_ hb)
   go_ret
   exact ⟨rfl, HB.out⟩
set_option maxHeartbeats 8000000 in
set_option maxRecDepth 100000 in
theorem impl_AclRight.contains (k : Nat) (A0 : Option Addr) (c0 : Nat) (l0 : List (S53)) (r : Int) (w : World) (hr0 : Kd.C k53 w A0 l0.length l0) (h : impl_AclRight.ix k l0 0 = some r) :
  Calls Tryz.prog 71 #[.slice A0 l0.length c0, .func (.func 72) #[] #[]] w fun e w' => e = .returned (.bool (decide (0 ≤ r))) ∧ Below w.heap.size w w' := by
 have hc := impl_AclRight.index k A0 c0 l0 r w hr0 h
 clear hr0 h
 go_enter Tryz.func71, Tryz.ntmps71
 go_wp2_with (go_at_call 99; refine hc.mono ?_; rintro e w' ⟨rfl, hb⟩)
 go_ret
 exact ⟨rfl, hb⟩
set_option maxHeartbeats 8000000 in
set_option maxRecDepth 100000 in
theorem impl_AclRight.calls (k : Nat) (A0 : Option Addr) (c0 : Nat) (l0 : List (S53)) (r : Bool) (w : World) (hr0 : Kd.C k53 w A0 l0.length l0) (hc0 : l0.length ≤ c0) (h : impl_AclRight.f k l0 = some r) :
  Calls Tryz.prog 21 #[.slice A0 l0.length c0] w fun e w' => e = .returned (.bool r) ∧ Below w.heap.size w w' := by
 unfold impl_AclRight.f at h
 by_cases c : (l0.length : Int) ≤ 10
 ·rw [if_pos c] at h
  obtain ⟨t, At, h⟩ := Option.bind_eq_some_iff.1 h
  obtain rfl := Option.some.inj h
  have cb0 : decide ((l0.length : Int) ≤ 10) = true := decide_eq_true c
  have cb1 : decide (l0.length ≤ 10) = true := decide_eq_true (by omega)
  have hc := impl_AclRight.contains k A0 c0 l0 t w hr0 At
  clear c hr0 hc0 At h
  go_enter Tryz.func21, Tryz.ntmps21
  go_wp2_with (go_at_call 71; refine hc.mono ?_; rintro e w' ⟨rfl, hb⟩)
  go_ret
  exact ⟨rfl, hb⟩
 rw [if_neg c] at h
 obtain rfl := Option.some.inj h
 have cb0 : decide ((l0.length : Int) ≤ 10) = false := decide_eq_false c
 have cb1 : decide (l0.length ≤ 10) = false := decide_eq_false (by omega)
 clear c hr0 hc0 h
 go_enter Tryz.func21, Tryz.ntmps21
 go_wp2
 go_ret
 exact ⟨rfl, Below.refl _ _⟩
def impl_size_string.f (l0 : List ByteArray) : Option (Int) := some (l0.length : Int)
set_option maxHeartbeats 8000000 in
set_option maxRecDepth 100000 in
theorem impl_size_string.calls (A0 : Option Addr) (c0 : Nat) (l0 : List ByteArray) (r : Int) (w : World) (hr0 : Kd.C Kd.string w A0 l0.length l0) (hc0 : l0.length ≤ c0) (h : impl_size_string.f l0 = some r) :
  Calls Tryz.prog 131 #[.slice A0 l0.length c0] w fun e w' => e = .returned (.int .i64 r) ∧ Drawn0 w w' := by
 have HR0 := Aside0.mk hr0
 have HC0 := Aside0.mk hc0
 clear hr0 hc0
 have H : (some (l0.length : Int)) = some r := h
 clear h
 obtain rfl := Option.some.inj H
 go_enter Tryz.func131, Tryz.ntmps131
 go_wp2
 go_ret
 exact ⟨EZb, DRz⟩
def strings_Compare.f (a0 : ByteArray) (a1 : ByteArray) : Option (Int) := some (Lib.compareBytes a0.data.toList a1.data.toList)
theorem strings_Compare.calls (a0 : ByteArray) (a1 : ByteArray) (r : Int) (w : World) (h : strings_Compare.f a0 a1 = some r) :
  Calls Tryz.prog 165 #[.string a0, .string a1] w fun e w' => e = .returned (.int .i64 r) ∧ Drawn0 w w' := by
 obtain rfl := Option.some.inj h
 refine (show Calls Tryz.prog 165 _ _ _ from Any.strings_Compare Tryz.lays106 a0 a1 w).mono ?_
 rintro e w' ⟨he, rfl⟩
 exact ⟨he, Drawn0.refl _⟩
def impl_byNorm.f (k : Nat) (a0 : ByteArray) (a1 : ByteArray) : Option (Int) := (impl_Norm.f k a0).bind fun t305 => ((impl_Norm.f k a1).bind fun t306 => ((strings_Compare.f t305 t306).bind fun t307 => (some t307)))
theorem impl_byNorm.mono : ∀ a0 a1 k, LeO (impl_byNorm.f k a0 a1) (impl_byNorm.f (k + 1) a0 a1) := by
 intro a0 a1 k
 unfold impl_byNorm.f
 repeat' first
   | (with_reducible exact impl_Norm.mono _ _)
   | (with_reducible exact LeO.refl _)
   | (with_reducible exact LeO.none _)
   | (with_reducible refine LeO.ite ?_ ?_)
   | (with_reducible refine LeO.bind ?_ (fun _ => ?_))
   | exact impl_Norm.mono _ _
   | exact LeO.none _
   | refine LeO.ite ?_ ?_
   | refine LeO.bind ?_ (fun _ => ?_)
set_option maxHeartbeats 8000000 in
set_option maxRecDepth 100000 in
theorem impl_byNorm.calls (k : Nat) (a0 : ByteArray) (a1 : ByteArray) (r : Int) (w : World) (h : impl_byNorm.f k a0 a1 = some r) :
  Calls Tryz.prog 132 #[.string a0, .string a1] w fun e w' => e = .returned (.int .i64 r) ∧ Below w.heap.size w w' := by
 have HB := Aside0.mk (Below.refl w.heap.size w)
 have H : ((impl_Norm.f k a0).bind fun t305 => ((impl_Norm.f k a1).bind fun t306 => ((strings_Compare.f t305 t306).bind fun t307 => (some t307)))) = some r := h
 clear h
 replace H := Option.bind_eq_some_iff.mp H
 obtain ⟨t305, A30, H⟩ := H
 replace H : ((impl_Norm.f k a1).bind fun t306 => ((strings_Compare.f t305 t306).bind fun t307 => (some t307))) = some r := H
 have A3 := Aside0.mk A30
 clear A30
 replace H := Option.bind_eq_some_iff.mp H
 obtain ⟨t306, A40, H⟩ := H
 replace H : ((strings_Compare.f t305 t306).bind fun t307 => (some t307)) = some r := H
 have A4 := Aside0.mk A40
 clear A40
 replace H := Option.bind_eq_some_iff.mp H
 obtain ⟨t307, A50, H⟩ := H
 replace H : (some t307) = some r := H
 have A5 := Aside0.mk A50
 clear A50
 obtain rfl := Option.some.inj H
 go_enter Tryz.func132, Tryz.ntmps132
 go_wp2_with (first | ((with_reducible refine gate_callee (f := 152) rfl ?_); refine goesL_ (some 6) rfl rfl Tryz.func152 (by kernel_rfl) rfl #[.string a0] rfl MPz ?_; (with_reducible refine (impl_Norm.calls k a0 t305 _ A3.out).mono ?_); rintro e w6 ⟨rfl, hb⟩; refine ⟨_, rfl, ?_⟩; have n0_ := Aside0.mk (below_step HBa hb); clear HB; have HB := n0_; clear n0_; (try clear hb); (try clear hb2); (try clear hk); (try clear hi)) | ((with_reducible refine gate_callee (f := 152) rfl ?_); refine goesL_ (some 8) rfl rfl Tryz.func152 (by kernel_rfl) rfl #[.string a1] rfl MPz ?_; (with_reducible refine (impl_Norm.calls k a1 t306 _ A4.out).mono ?_); rintro e w7 ⟨rfl, hb⟩; refine ⟨_, rfl, ?_⟩; have n0_ := Aside0.mk (below_step HBa hb); clear HB; have HB := n0_; clear n0_; (try clear hb); (try clear hb2); (try clear hk); (try clear hi)) | ((with_reducible refine gate_callee (f := 165) rfl ?_); refine goesL_ (some 9) rfl rfl Tryz.func165 (by kernel_rfl) rfl #[.string t305, .string t306] rfl MPz ?_; (with_reducible refine (strings_Compare.calls t305 t306 t307 _ A5.out).mono ?_); rintro e w' ⟨rfl, ⟨nd, rfl⟩⟩; refine ⟨_, rfl, ?_⟩))
 go_ret
 exact ⟨EZa, HBa⟩
end Go.Proofs.YtgkjlfimjnhbbaaGreatDoor.PFnExactMayChange
