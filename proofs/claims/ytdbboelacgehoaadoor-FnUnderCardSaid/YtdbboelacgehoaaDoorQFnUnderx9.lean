-- Laid by this session's own program out of the translation; Lean checks it.
import Derived.Test.YtdbboelacgehoaaDoorQFnUnderx0
import Derived.Test.YtdbboelacgehoaaDoorQFnUnderx3
import Derived.Test.YtdbboelacgehoaaDoorQFnUnderx5
import Derived.Test.YtdbboelacgehoaaDoorQFnUnderx7
import Derived.Test.YtdbboelacgehoaaDoorQFnUnderx8
namespace Go.Proofs.YtdbboelacgehoaaDoor.PFnUnder
open Go.RowKit Go.Proofs.YtdbboelacgehoaaDoorW.PrintWords Go.Proofs.YtdbboelacgehoaaDoorW.PrintLast Go.Proofs.YtdbboelacgehoaaDoorW.PrintMore
attribute [local go_sem] max2_int min2_int max_two min_two max_three min_three max_four min_four   -- for this text's walks alone
set_option linter.unusedVariables false
set_option linter.unusedSimpArgs false
mutual
def laws_FnUnder.j0 : Nat → List Int → List Int → Bool → Option (Bool)
 | 0, _, _, _ => none
 | k + 1, x0, x1, x18 => if x18 = true then (some true) else ((spec_DrawDnUnder.f k x0).bind fun bt331 => ((spec_DrawDnSame.f k x1).bind fun bt337 => ((impl_DnSame.f k bt337.1 bt337.2).bind fun t343 => ((impl_DnUnder.f k bt331.1 bt331.2).bind fun t344 => ((spec_DnUnder.f k bt331.1 bt331.2).bind fun t345 => (if (t344 != t345) = true then (laws_FnUnder.j1 k bt331.1 bt337.1 bt337.2 t343 true) else ((spec_DnSame.f k bt337.1 bt337.2).bind fun t346 => (if (t343 != t346) = true then (laws_FnUnder.j1 k bt331.1 bt337.1 bt337.2 t343 true) else ((impl_DnKey.f k bt337.1).bind fun t347 => ((spec_DnKey.f k bt337.1).bind fun t348 => (laws_FnUnder.j1 k bt331.1 bt337.1 bt337.2 t343 (t347.toList != t348.toList))))))))))))
def laws_FnUnder.j1 : Nat → List (S42) → List (S42) → List (S42) → Bool → Bool → Option (Bool)
 | 0, _, _, _, _, _ => none
 | k + 1, x5, x7, x8, x9, x52 => if x52 = true then (some false) else ((spec_DnRight.f k x7).bind fun t349 => (if t349 = true then ((spec_DnRight.f k x8).bind fun t350 => (if t350 = true then ((impl_DnKey.f k x7).bind fun t351 => ((impl_DnKey.f k x8).bind fun t352 => (if (x9 != (t351.toList == t352.toList)) = true then (laws_FnUnder.j2 k x5 true) else ((impl_DnUnder.f k x7 x8).bind fun t353 => (if t353 = true then ((impl_DnUnder.f k x8 x7).bind fun t354 => (laws_FnUnder.j2 k x5 (x9 != t354))) else (laws_FnUnder.j2 k x5 (x9 != false))))))) else (laws_FnUnder.j2 k x5 false))) else (laws_FnUnder.j2 k x5 false)))
def laws_FnUnder.j2 : Nat → List (S42) → Bool → Option (Bool)
 | 0, _, _ => none
 | k + 1, x5, x79 => if x79 = true then (some false) else (laws_FnUnder.l0 k x5 0)
def laws_FnUnder.l0 : Nat → List (S42) → Int → Option (Bool)
 | 0, _, _ => none
 | k + 1, x5, x10 => if x10 ≤ (x5.length : Int) then ((spec_DnRight.f k x5).bind fun t355 => (laws_FnUnder.j4 k x5 x10 t355)) else (laws_FnUnder.j4 k x5 x10 false)
def laws_FnUnder.j4 : Nat → List (S42) → Int → Bool → Option (Bool)
 | 0, _, _, _ => none
 | k + 1, x5, x10, x87 => if x87 = true then (if 0 ≤ x10 then (if x10 ≤ (x5.length : Int) then ((impl_DnUnder.f k x5 (x5.drop (x10 : Int).toNat)).bind fun t360 => (if t360 = true then (laws_FnUnder.l0 k x5 (wrap64 (x10 + 1))) else (some false))) else (none)) else (none)) else (some true)
end
def laws_FnUnder.f (k : Nat) (l0 : List Int) (l1 : List Int) : Option (Bool) := if (l0.length : Int) > 1048576 then (laws_FnUnder.j0 k l0 l1 true) else (laws_FnUnder.j0 k l0 l1 (decide ((l1.length : Int) > 1048576)))
theorem laws_FnUnder.mono_l : ∀ k, (∀ y0 y1 y2, LeO (laws_FnUnder.j0 k y0 y1 y2) (laws_FnUnder.j0 (k + 1) y0 y1 y2)) ∧ (∀ y0 y1 y2 y3 y4, LeO (laws_FnUnder.j1 k y0 y1 y2 y3 y4) (laws_FnUnder.j1 (k + 1) y0 y1 y2 y3 y4)) ∧ (∀ y0 y1, LeO (laws_FnUnder.j2 k y0 y1) (laws_FnUnder.j2 (k + 1) y0 y1)) ∧ (∀ y0 y1, LeO (laws_FnUnder.l0 k y0 y1) (laws_FnUnder.l0 (k + 1) y0 y1)) ∧ (∀ y0 y1 y2, LeO (laws_FnUnder.j4 k y0 y1 y2) (laws_FnUnder.j4 (k + 1) y0 y1 y2))
 | 0 => ⟨fun _ _ _ r h => by simp [laws_FnUnder.j0] at h, fun _ _ _ _ _ r h => by simp [laws_FnUnder.j1] at h, fun _ _ r h => by simp [laws_FnUnder.j2] at h, fun _ _ r h => by simp [laws_FnUnder.l0] at h, fun _ _ _ r h => by simp [laws_FnUnder.j4] at h⟩
 | k + 1 => by
  obtain ⟨ih0, ih1, ih2, ih3, ih4⟩ := laws_FnUnder.mono_l k
  refine ⟨?_, ?_, ?_, ?_, ?_⟩
  ·intro y0 y1 y2
   unfold laws_FnUnder.j0
   repeat' first
   | (with_reducible exact ih0 _ _ _)
   | (with_reducible exact ih1 _ _ _ _ _)
   | (with_reducible exact ih2 _ _)
   | (with_reducible exact ih3 _ _)
   | (with_reducible exact ih4 _ _ _)
   | (with_reducible exact impl_DnKey.mono _ _)
   | (with_reducible exact impl_DnSame.mono _ _ _)
   | (with_reducible exact impl_DnUnder.mono _ _ _)
   | (with_reducible exact spec_DnKey.mono _ _)
   | (with_reducible exact spec_DnRight.mono _ _)
   | (with_reducible exact spec_DnSame.mono _ _ _)
   | (with_reducible exact spec_DnUnder.mono _ _ _)
   | (with_reducible exact spec_DrawDnSame.mono _ _)
   | (with_reducible exact spec_DrawDnUnder.mono _ _)
   | (with_reducible exact LeO.refl _)
   | (with_reducible exact LeO.none _)
   | (with_reducible refine LeO.ite ?_ ?_)
   | (with_reducible refine LeO.bind ?_ (fun _ => ?_))
   | exact ih0 _ _ _
   | exact ih1 _ _ _ _ _
   | exact ih2 _ _
   | exact ih3 _ _
   | exact ih4 _ _ _
   | exact impl_DnKey.mono _ _
   | exact impl_DnSame.mono _ _ _
   | exact impl_DnUnder.mono _ _ _
   | exact spec_DnKey.mono _ _
   | exact spec_DnRight.mono _ _
   | exact spec_DnSame.mono _ _ _
   | exact spec_DnUnder.mono _ _ _
   | exact spec_DrawDnSame.mono _ _
   | exact spec_DrawDnUnder.mono _ _
   | exact LeO.none _
   | refine LeO.ite ?_ ?_
   | refine LeO.bind ?_ (fun _ => ?_)
  ·intro y0 y1 y2 y3 y4
   unfold laws_FnUnder.j1
   repeat' first
   | (with_reducible exact ih0 _ _ _)
   | (with_reducible exact ih1 _ _ _ _ _)
   | (with_reducible exact ih2 _ _)
   | (with_reducible exact ih3 _ _)
   | (with_reducible exact ih4 _ _ _)
   | (with_reducible exact impl_DnKey.mono _ _)
   | (with_reducible exact impl_DnSame.mono _ _ _)
   | (with_reducible exact impl_DnUnder.mono _ _ _)
   | (with_reducible exact spec_DnKey.mono _ _)
   | (with_reducible exact spec_DnRight.mono _ _)
   | (with_reducible exact spec_DnSame.mono _ _ _)
   | (with_reducible exact spec_DnUnder.mono _ _ _)
   | (with_reducible exact spec_DrawDnSame.mono _ _)
   | (with_reducible exact spec_DrawDnUnder.mono _ _)
   | (with_reducible exact LeO.refl _)
   | (with_reducible exact LeO.none _)
   | (with_reducible refine LeO.ite ?_ ?_)
   | (with_reducible refine LeO.bind ?_ (fun _ => ?_))
   | exact ih0 _ _ _
   | exact ih1 _ _ _ _ _
   | exact ih2 _ _
   | exact ih3 _ _
   | exact ih4 _ _ _
   | exact impl_DnKey.mono _ _
   | exact impl_DnSame.mono _ _ _
   | exact impl_DnUnder.mono _ _ _
   | exact spec_DnKey.mono _ _
   | exact spec_DnRight.mono _ _
   | exact spec_DnSame.mono _ _ _
   | exact spec_DnUnder.mono _ _ _
   | exact spec_DrawDnSame.mono _ _
   | exact spec_DrawDnUnder.mono _ _
   | exact LeO.none _
   | refine LeO.ite ?_ ?_
   | refine LeO.bind ?_ (fun _ => ?_)
  ·intro y0 y1
   unfold laws_FnUnder.j2
   repeat' first
   | (with_reducible exact ih0 _ _ _)
   | (with_reducible exact ih1 _ _ _ _ _)
   | (with_reducible exact ih2 _ _)
   | (with_reducible exact ih3 _ _)
   | (with_reducible exact ih4 _ _ _)
   | (with_reducible exact impl_DnKey.mono _ _)
   | (with_reducible exact impl_DnSame.mono _ _ _)
   | (with_reducible exact impl_DnUnder.mono _ _ _)
   | (with_reducible exact spec_DnKey.mono _ _)
   | (with_reducible exact spec_DnRight.mono _ _)
   | (with_reducible exact spec_DnSame.mono _ _ _)
   | (with_reducible exact spec_DnUnder.mono _ _ _)
   | (with_reducible exact spec_DrawDnSame.mono _ _)
   | (with_reducible exact spec_DrawDnUnder.mono _ _)
   | (with_reducible exact LeO.refl _)
   | (with_reducible exact LeO.none _)
   | (with_reducible refine LeO.ite ?_ ?_)
   | (with_reducible refine LeO.bind ?_ (fun _ => ?_))
   | exact ih0 _ _ _
   | exact ih1 _ _ _ _ _
   | exact ih2 _ _
   | exact ih3 _ _
   | exact ih4 _ _ _
   | exact impl_DnKey.mono _ _
   | exact impl_DnSame.mono _ _ _
   | exact impl_DnUnder.mono _ _ _
   | exact spec_DnKey.mono _ _
   | exact spec_DnRight.mono _ _
   | exact spec_DnSame.mono _ _ _
   | exact spec_DnUnder.mono _ _ _
   | exact spec_DrawDnSame.mono _ _
   | exact spec_DrawDnUnder.mono _ _
   | exact LeO.none _
   | refine LeO.ite ?_ ?_
   | refine LeO.bind ?_ (fun _ => ?_)
  ·intro y0 y1
   unfold laws_FnUnder.l0
   repeat' first
   | (with_reducible exact ih0 _ _ _)
   | (with_reducible exact ih1 _ _ _ _ _)
   | (with_reducible exact ih2 _ _)
   | (with_reducible exact ih3 _ _)
   | (with_reducible exact ih4 _ _ _)
   | (with_reducible exact impl_DnKey.mono _ _)
   | (with_reducible exact impl_DnSame.mono _ _ _)
   | (with_reducible exact impl_DnUnder.mono _ _ _)
   | (with_reducible exact spec_DnKey.mono _ _)
   | (with_reducible exact spec_DnRight.mono _ _)
   | (with_reducible exact spec_DnSame.mono _ _ _)
   | (with_reducible exact spec_DnUnder.mono _ _ _)
   | (with_reducible exact spec_DrawDnSame.mono _ _)
   | (with_reducible exact spec_DrawDnUnder.mono _ _)
   | (with_reducible exact LeO.refl _)
   | (with_reducible exact LeO.none _)
   | (with_reducible refine LeO.ite ?_ ?_)
   | (with_reducible refine LeO.bind ?_ (fun _ => ?_))
   | exact ih0 _ _ _
   | exact ih1 _ _ _ _ _
   | exact ih2 _ _
   | exact ih3 _ _
   | exact ih4 _ _ _
   | exact impl_DnKey.mono _ _
   | exact impl_DnSame.mono _ _ _
   | exact impl_DnUnder.mono _ _ _
   | exact spec_DnKey.mono _ _
   | exact spec_DnRight.mono _ _
   | exact spec_DnSame.mono _ _ _
   | exact spec_DnUnder.mono _ _ _
   | exact spec_DrawDnSame.mono _ _
   | exact spec_DrawDnUnder.mono _ _
   | exact LeO.none _
   | refine LeO.ite ?_ ?_
   | refine LeO.bind ?_ (fun _ => ?_)
  ·intro y0 y1 y2
   unfold laws_FnUnder.j4
   repeat' first
   | (with_reducible exact ih0 _ _ _)
   | (with_reducible exact ih1 _ _ _ _ _)
   | (with_reducible exact ih2 _ _)
   | (with_reducible exact ih3 _ _)
   | (with_reducible exact ih4 _ _ _)
   | (with_reducible exact impl_DnKey.mono _ _)
   | (with_reducible exact impl_DnSame.mono _ _ _)
   | (with_reducible exact impl_DnUnder.mono _ _ _)
   | (with_reducible exact spec_DnKey.mono _ _)
   | (with_reducible exact spec_DnRight.mono _ _)
   | (with_reducible exact spec_DnSame.mono _ _ _)
   | (with_reducible exact spec_DnUnder.mono _ _ _)
   | (with_reducible exact spec_DrawDnSame.mono _ _)
   | (with_reducible exact spec_DrawDnUnder.mono _ _)
   | (with_reducible exact LeO.refl _)
   | (with_reducible exact LeO.none _)
   | (with_reducible refine LeO.ite ?_ ?_)
   | (with_reducible refine LeO.bind ?_ (fun _ => ?_))
   | exact ih0 _ _ _
   | exact ih1 _ _ _ _ _
   | exact ih2 _ _
   | exact ih3 _ _
   | exact ih4 _ _ _
   | exact impl_DnKey.mono _ _
   | exact impl_DnSame.mono _ _ _
   | exact impl_DnUnder.mono _ _ _
   | exact spec_DnKey.mono _ _
   | exact spec_DnRight.mono _ _
   | exact spec_DnSame.mono _ _ _
   | exact spec_DnUnder.mono _ _ _
   | exact spec_DrawDnSame.mono _ _
   | exact spec_DrawDnUnder.mono _ _
   | exact LeO.none _
   | refine LeO.ite ?_ ?_
   | refine LeO.bind ?_ (fun _ => ?_)
theorem laws_FnUnder.mono : ∀ a0 a1 k, LeO (laws_FnUnder.f k a0 a1) (laws_FnUnder.f (k + 1) a0 a1) := by
 intro a0 a1 k
 obtain ⟨ih0, ih1, ih2, ih3, ih4⟩ := laws_FnUnder.mono_l k
 unfold laws_FnUnder.f
 repeat' first
   | (with_reducible exact ih0 _ _ _)
   | (with_reducible exact ih1 _ _ _ _ _)
   | (with_reducible exact ih2 _ _)
   | (with_reducible exact ih3 _ _)
   | (with_reducible exact ih4 _ _ _)
   | (with_reducible exact impl_DnKey.mono _ _)
   | (with_reducible exact impl_DnSame.mono _ _ _)
   | (with_reducible exact impl_DnUnder.mono _ _ _)
   | (with_reducible exact spec_DnKey.mono _ _)
   | (with_reducible exact spec_DnRight.mono _ _)
   | (with_reducible exact spec_DnSame.mono _ _ _)
   | (with_reducible exact spec_DnUnder.mono _ _ _)
   | (with_reducible exact spec_DrawDnSame.mono _ _)
   | (with_reducible exact spec_DrawDnUnder.mono _ _)
   | (with_reducible exact LeO.refl _)
   | (with_reducible exact LeO.none _)
   | (with_reducible refine LeO.ite ?_ ?_)
   | (with_reducible refine LeO.bind ?_ (fun _ => ?_))
   | exact ih0 _ _ _
   | exact ih1 _ _ _ _ _
   | exact ih2 _ _
   | exact ih3 _ _
   | exact ih4 _ _ _
   | exact impl_DnKey.mono _ _
   | exact impl_DnSame.mono _ _ _
   | exact impl_DnUnder.mono _ _ _
   | exact spec_DnKey.mono _ _
   | exact spec_DnRight.mono _ _
   | exact spec_DnSame.mono _ _ _
   | exact spec_DnUnder.mono _ _ _
   | exact spec_DrawDnSame.mono _ _
   | exact spec_DrawDnUnder.mono _ _
   | exact LeO.none _
   | refine LeO.ite ?_ ?_
   | refine LeO.bind ?_ (fun _ => ?_)
set_option maxHeartbeats 8000000 in
set_option maxRecDepth 100000 in
theorem laws_FnUnder.calls (k : Nat) (A0 : Option Addr) (c0 : Nat) (l0 : List Int) (A1 : Option Addr) (c1 : Nat) (l1 : List Int) (r : Bool) (w : World) (hr0 : Kd.C (Kd.int .u8) w A0 l0.length l0) (hc0 : l0.length ≤ c0) (hr1 : Kd.C (Kd.int .u8) w A1 l1.length l1) (hc1 : l1.length ≤ c1) (h : laws_FnUnder.f k l0 l1 = some r) :
  Calls Tryd.prog 5 #[.slice A0 l0.length c0, .slice A1 l1.length c1] w fun e w' => e = .returned (.bool r) ∧ Below w.heap.size w w' := by
 have HR0 := Aside0.mk hr0
 have HC0 := Aside0.mk hc0
 clear hr0 hc0
 have HR1 := Aside0.mk hr1
 have HC1 := Aside0.mk hc1
 clear hr1 hc1
 have HB := Aside0.mk (Below.refl w.heap.size w)
 have H : (if (l0.length : Int) > 1048576 then (laws_FnUnder.j0 k l0 l1 true) else (laws_FnUnder.j0 k l0 l1 (decide ((l1.length : Int) > 1048576)))) = some r := h
 clear h
 have HC3 := Aside0.mk H
 clear H
 go_enter Tryd.func5, Tryd.ntmps5
 go_upto_region 1 with (fail)
 go_cut [18] (fun v18 wc => ∃ (kq : Nat) (x18_2 : Bool), v18 = .bool x18_2 ∧ Aside0 (laws_FnUnder.j0 kq l0 l1 x18_2 = some r) ∧ Aside0 (kq ≤ k) ∧ Aside0 (Below w.heap.size w wc))
 case first =>
  have H := HC3.out
  clear HC3
  by_cases c4 : (l0.length : Int) > 1048576
  ·rw [if_pos c4] at H
   have c4b0 : decide (1048576 < (l0.length : Int)) = true := decide_eq_true c4
   have c4b1 : decide (1048576 < l0.length) = true := decide_eq_true (by omega)
   clear c4
   (first | rw [c4b0] | rw [c4v0] | (simp only [i64_w, i32_w]; rw [c4b0]) | (simp only [i64_w, i32_w]; rw [c4v0]) | skip)
   have H' := Aside0.mk H
   clear H
   go_wp2
   go_meet
   case rel => exact ⟨_, (true), EZc, H', ⟨by first | omega | exact Nat.le_refl _⟩, ⟨HBa⟩⟩
  ·rw [if_neg c4] at H
   have c4b0 : decide (1048576 < (l0.length : Int)) = false := decide_eq_false c4
   have c4b1 : decide (1048576 < l0.length) = false := decide_eq_false (by omega)
   clear c4
   (first | rw [c4b0] | rw [c4v0] | (simp only [i64_w, i32_w]; rw [c4b0]) | (simp only [i64_w, i32_w]; rw [c4v0]) | skip)
   have H' := Aside0.mk H
   clear H
   go_wp2
   go_meet
   case rel => exact ⟨_, (decide ((l1.length : Int) > 1048576)), EZc, H', ⟨by first | omega | exact Nat.le_refl _⟩, ⟨HBa⟩⟩
 case rest =>
  clear HC3
  try clear c1
  try clear p2
  try clear c4
  try clear c4b0
  try clear c4b1
  obtain ⟨kq, x18_2, rfl, HA, HJ2, HB⟩ := hcut
  cases kq with
  | zero => exact absurd HA.out (by simp [laws_FnUnder.j0])
  | succ kj2 =>
   have H := HA.out
   clear HA
   simp only [laws_FnUnder.j0] at H
   by_cases c5 : x18_2 = true
   ·subst c5
    have H1 : (some true) = some r := by rw [if_pos rfl] at H; exact H
    clear H
    have H := H1
    clear H1
    obtain rfl := Option.some.inj H
    go_wp2
    go_ret
    exact ⟨EZa, HBa⟩
   ·replace c5 := Bool.eq_false_iff.mpr c5
    subst c5
    have H1 : ((spec_DrawDnUnder.f kj2 l0).bind fun bt331 => ((spec_DrawDnSame.f kj2 l1).bind fun bt337 => ((impl_DnSame.f kj2 bt337.1 bt337.2).bind fun t343 => ((impl_DnUnder.f kj2 bt331.1 bt331.2).bind fun t344 => ((spec_DnUnder.f kj2 bt331.1 bt331.2).bind fun t345 => (if (t344 != t345) = true then (laws_FnUnder.j1 kj2 bt331.1 bt337.1 bt337.2 t343 true) else ((spec_DnSame.f kj2 bt337.1 bt337.2).bind fun t346 => (if (t343 != t346) = true then (laws_FnUnder.j1 kj2 bt331.1 bt337.1 bt337.2 t343 true) else ((impl_DnKey.f kj2 bt337.1).bind fun t347 => ((spec_DnKey.f kj2 bt337.1).bind fun t348 => (laws_FnUnder.j1 kj2 bt331.1 bt337.1 bt337.2 t343 (t347.toList != t348.toList)))))))))))) = some r := by rw [if_neg (show ¬ (false = true) by decide)] at H; exact H
    clear H
    have H := H1
    clear H1
    replace H := Option.bind_eq_some_iff.mp H
    obtain ⟨⟨t331, t332⟩, A60, H⟩ := H
    replace H : ((spec_DrawDnSame.f kj2 l1).bind fun bt337 => ((impl_DnSame.f kj2 bt337.1 bt337.2).bind fun t343 => ((impl_DnUnder.f kj2 t331 t332).bind fun t344 => ((spec_DnUnder.f kj2 t331 t332).bind fun t345 => (if (t344 != t345) = true then (laws_FnUnder.j1 kj2 t331 bt337.1 bt337.2 t343 true) else ((spec_DnSame.f kj2 bt337.1 bt337.2).bind fun t346 => (if (t343 != t346) = true then (laws_FnUnder.j1 kj2 t331 bt337.1 bt337.2 t343 true) else ((impl_DnKey.f kj2 bt337.1).bind fun t347 => ((spec_DnKey.f kj2 bt337.1).bind fun t348 => (laws_FnUnder.j1 kj2 t331 bt337.1 bt337.2 t343 (t347.toList != t348.toList))))))))))) = some r := H
    have A6 := Aside0.mk A60
    clear A60
    replace H := Option.bind_eq_some_iff.mp H
    obtain ⟨⟨t337, t338⟩, A70, H⟩ := H
    replace H : ((impl_DnSame.f kj2 t337 t338).bind fun t343 => ((impl_DnUnder.f kj2 t331 t332).bind fun t344 => ((spec_DnUnder.f kj2 t331 t332).bind fun t345 => (if (t344 != t345) = true then (laws_FnUnder.j1 kj2 t331 t337 t338 t343 true) else ((spec_DnSame.f kj2 t337 t338).bind fun t346 => (if (t343 != t346) = true then (laws_FnUnder.j1 kj2 t331 t337 t338 t343 true) else ((impl_DnKey.f kj2 t337).bind fun t347 => ((spec_DnKey.f kj2 t337).bind fun t348 => (laws_FnUnder.j1 kj2 t331 t337 t338 t343 (t347.toList != t348.toList)))))))))) = some r := H
    have A7 := Aside0.mk A70
    clear A70
    replace H := Option.bind_eq_some_iff.mp H
    obtain ⟨t343, A80, H⟩ := H
    replace H : ((impl_DnUnder.f kj2 t331 t332).bind fun t344 => ((spec_DnUnder.f kj2 t331 t332).bind fun t345 => (if (t344 != t345) = true then (laws_FnUnder.j1 kj2 t331 t337 t338 t343 true) else ((spec_DnSame.f kj2 t337 t338).bind fun t346 => (if (t343 != t346) = true then (laws_FnUnder.j1 kj2 t331 t337 t338 t343 true) else ((impl_DnKey.f kj2 t337).bind fun t347 => ((spec_DnKey.f kj2 t337).bind fun t348 => (laws_FnUnder.j1 kj2 t331 t337 t338 t343 (t347.toList != t348.toList))))))))) = some r := H
    have A8 := Aside0.mk A80
    clear A80
    have HC9 := Aside0.mk H
    clear H
    go_upto_region 6 with (first | ((with_reducible refine gate_callee (f := 25) rfl ?_); refine goesL_ (some 21) rfl rfl Tryd.func25 (by kernel_rfl) rfl #[.slice A0 l0.length c0] rfl MPz ?_; (with_reducible refine (spec_DrawDnUnder.calls kj2 _ _ l0 t331 t332 _ ?side1 ?side2 A6.out).mono ?_); (case side1 => repeat (first | exact (Kd.C_below HR0.out HB.out) | (with_reducible refine Kd.C_alloc ?_ _) | (with_reducible refine Kd.C_drewN ?_ _) | (with_reducible refine Kd.C_drew ?_))); (case side2 => exact HC0.out); rintro e w10 ⟨v333, v335, rfl, ho0, ho1, hb⟩; refine ⟨_, rfl, ?_⟩; have n0_ := Aside0.mk (Kd.R_lower ho0 (below_size HBa)); have n1_ := Aside0.mk (Kd.R_lower ho1 (below_size HBa)); have n2_ := Aside0.mk (below_step HBa hb); clear HB; have HO334 := n0_; have HO336 := n1_; have HB := n2_; clear n0_ n1_ n2_; (try clear hb); (try clear hb2); (try clear hk); (try clear hi); (try clear ho0); (try clear ho1)) | ((with_reducible refine gate_callee (f := 26) rfl ?_); refine goesL_ (some 26) rfl rfl Tryd.func26 (by kernel_rfl) rfl #[.slice A1 l1.length c1] rfl MPz ?_; (with_reducible refine (spec_DrawDnSame.calls kj2 _ _ l1 t337 t338 _ ?side1 ?side2 A7.out).mono ?_); (case side1 => repeat (first | exact (Kd.C_below HR1.out HB.out) | (with_reducible refine Kd.C_alloc ?_ _) | (with_reducible refine Kd.C_drewN ?_ _) | (with_reducible refine Kd.C_drew ?_))); (case side2 => exact HC1.out); rintro e w11 ⟨v339, v341, rfl, ho0, ho1, hb⟩; refine ⟨_, rfl, ?_⟩; have n0_ := Aside0.mk (Kd.R_mono (Kd.R_told (Kd.R_told (Kd.R_old (by (with_reducible repeat (first | apply Kd.R_alloc | apply Kd.R_drewN | apply Kd.R_drew)); exact HO334.out) hb) (Kd.R_base ho0)) (Kd.R_base ho1)) (fun _ h_ => h_.1)); have n1_ := Aside0.mk (Kd.R_mono (Kd.R_told (Kd.R_told (Kd.R_old (by (with_reducible repeat (first | apply Kd.R_alloc | apply Kd.R_drewN | apply Kd.R_drew)); exact HO336.out) hb) (Kd.R_base ho0)) (Kd.R_base ho1)) (fun _ h_ => h_.1)); have n2_ := Aside0.mk (Kd.R_lower (Kd.R_new' (Kd.R_new' ho0 (Kd.R_lt (by (with_reducible repeat (first | apply Kd.R_alloc | apply Kd.R_drewN | apply Kd.R_drew)); exact HO334.out))) (Kd.R_lt (by (with_reducible repeat (first | apply Kd.R_alloc | apply Kd.R_drewN | apply Kd.R_drew)); exact HO336.out))) (below_size HBa)); have n3_ := Aside0.mk (Kd.R_lower (Kd.R_new' (Kd.R_new' ho1 (Kd.R_lt (by (with_reducible repeat (first | apply Kd.R_alloc | apply Kd.R_drewN | apply Kd.R_drew)); exact HO334.out))) (Kd.R_lt (by (with_reducible repeat (first | apply Kd.R_alloc | apply Kd.R_drewN | apply Kd.R_drew)); exact HO336.out))) (below_size HBa)); have n4_ := Aside0.mk (below_step HBa hb); clear HO334; clear HO336; clear HB; have HO334 := n0_; have HO336 := n1_; have HO340 := n2_; have HO342 := n3_; have HB := n4_; clear n0_ n1_ n2_ n3_ n4_; (try clear hb); (try clear hb2); (try clear hk); (try clear hi); (try clear ho0); (try clear ho1); obtain ⟨Ao12, co12, eo12⟩ := Kd.R_slice HO340.out; subst eo12; obtain ⟨Ao13, co13, eo13⟩ := Kd.R_slice HO342.out; subst eo13) | ((with_reducible refine gate_callee (f := 27) rfl ?_); refine goesL_ (some 31) rfl rfl Tryd.func27 (by kernel_rfl) rfl #[.slice Ao12 t337.length co12, .slice Ao13 t338.length co13] rfl MPz ?_; (with_reducible refine (impl_DnSame.calls kj2 _ _ t337 _ _ t338 t343 _ ?side1 ?side2 ?side3 ?side4 A8.out).mono ?_); (case side1 => repeat (first | exact (Kd.R_reads' HO340.out).2.2 | (with_reducible refine Kd.C_alloc ?_ _) | (with_reducible refine Kd.C_drewN ?_ _) | (with_reducible refine Kd.C_drew ?_))); (case side2 => exact (Kd.R_reads' HO340.out).2.1); (case side3 => repeat (first | exact (Kd.R_reads' HO342.out).2.2 | (with_reducible refine Kd.C_alloc ?_ _) | (with_reducible refine Kd.C_drewN ?_ _) | (with_reducible refine Kd.C_drew ?_))); (case side4 => exact (Kd.R_reads' HO342.out).2.1); rintro e w14 ⟨rfl, hb⟩; refine ⟨_, rfl, ?_⟩; have n0_ := Aside0.mk (Kd.R_below (by (with_reducible repeat (first | apply Kd.R_alloc | apply Kd.R_drewN | apply Kd.R_drew)); exact HO334.out) hb); have n1_ := Aside0.mk (Kd.R_below (by (with_reducible repeat (first | apply Kd.R_alloc | apply Kd.R_drewN | apply Kd.R_drew)); exact HO336.out) hb); have n2_ := Aside0.mk (Kd.R_below (by (with_reducible repeat (first | apply Kd.R_alloc | apply Kd.R_drewN | apply Kd.R_drew)); exact HO340.out) hb); have n3_ := Aside0.mk (Kd.R_below (by (with_reducible repeat (first | apply Kd.R_alloc | apply Kd.R_drewN | apply Kd.R_drew)); exact HO342.out) hb); have n4_ := Aside0.mk (below_step HBa hb); clear HO334; clear HO336; clear HO340; clear HO342; clear HB; have HO334 := n0_; have HO336 := n1_; have HO340 := n2_; have HO342 := n3_; have HB := n4_; clear n0_ n1_ n2_ n3_ n4_; (try clear hb); (try clear hb2); (try clear hk); (try clear hi)))
    (try simp only [Act.put, List.setIfInBounds_toArray, List.set_cons_zero, List.set_cons_succ])
    go_cut [52] (fun v52 wc => ∃ (kq : Nat) (x52_8 : Bool), v52 = .bool x52_8 ∧ Aside0 (laws_FnUnder.j1 kq t331 t337 t338 t343 x52_8 = some r) ∧ Aside0 (kq ≤ kj2) ∧ Aside0 (Kd.R k42 42 wc w.heap.size (fun k_ => some k_ ≠ ((.slice Ao12 t337.length co12) : Value).ownBlock ∧ some k_ ≠ ((.slice Ao13 t338.length co13) : Value).ownBlock) v333 t331) ∧ Aside0 (Kd.R k42 42 wc w.heap.size (fun k_ => some k_ ≠ (v333 : Value).ownBlock ∧ some k_ ≠ ((.slice Ao13 t338.length co13) : Value).ownBlock) (.slice Ao12 t337.length co12) t337) ∧ Aside0 (Kd.R k42 42 wc w.heap.size (fun k_ => some k_ ≠ (v333 : Value).ownBlock ∧ some k_ ≠ ((.slice Ao12 t337.length co12) : Value).ownBlock) (.slice Ao13 t338.length co13) t338) ∧ Aside0 (Below w.heap.size w wc))
    case first =>
     have H := HC9.out
     clear HC9
     replace H := Option.bind_eq_some_iff.mp H
     obtain ⟨t344, A150, H⟩ := H
     replace H : ((spec_DnUnder.f kj2 t331 t332).bind fun t345 => (if (t344 != t345) = true then (laws_FnUnder.j1 kj2 t331 t337 t338 t343 true) else ((spec_DnSame.f kj2 t337 t338).bind fun t346 => (if (t343 != t346) = true then (laws_FnUnder.j1 kj2 t331 t337 t338 t343 true) else ((impl_DnKey.f kj2 t337).bind fun t347 => ((spec_DnKey.f kj2 t337).bind fun t348 => (laws_FnUnder.j1 kj2 t331 t337 t338 t343 (t347.toList != t348.toList)))))))) = some r := H
     have A15 := Aside0.mk A150
     clear A150
     replace H := Option.bind_eq_some_iff.mp H
     obtain ⟨t345, A160, H⟩ := H
     replace H : (if (t344 != t345) = true then (laws_FnUnder.j1 kj2 t331 t337 t338 t343 true) else ((spec_DnSame.f kj2 t337 t338).bind fun t346 => (if (t343 != t346) = true then (laws_FnUnder.j1 kj2 t331 t337 t338 t343 true) else ((impl_DnKey.f kj2 t337).bind fun t347 => ((spec_DnKey.f kj2 t337).bind fun t348 => (laws_FnUnder.j1 kj2 t331 t337 t338 t343 (t347.toList != t348.toList))))))) = some r := H
     have A16 := Aside0.mk A160
     clear A160
     by_cases c17 : (t344 != t345) = true
     ·rw [if_pos c17] at H
      have c17b0 : (t344 != t345) = true := c17
      (try (have c17b1 : decide (t344 = t345) = false := by simpa using c17))
      (try (have c17b2 : (t344 == t345) = false := by simpa using c17))
      (try (have c17b3 : ¬ (t344 = t345) := by simpa using c17))
      clear c17
      (first | rw [c17b0] | rw [c17v0] | (simp only [i64_w, i32_w]; rw [c17b0]) | (simp only [i64_w, i32_w]; rw [c17v0]) | skip)
      have H' := Aside0.mk H
      clear H
      obtain ⟨Ao18, co18, eo18⟩ := Kd.R_slice HO334.out
      subst eo18
      obtain ⟨Ao19, co19, eo19⟩ := Kd.R_slice HO336.out
      subst eo19
      go_wp2_with (first | ((with_reducible refine gate_callee (f := 28) rfl ?_); refine goesL_ (some 34) rfl rfl Tryd.func28 (by kernel_rfl) rfl #[.slice Ao18 t331.length co18, .slice Ao19 t332.length co19] rfl MPz ?_; (with_reducible refine (impl_DnUnder.calls kj2 _ _ t331 _ _ t332 t344 _ ?side1 ?side2 ?side3 ?side4 A15.out).mono ?_); (case side1 => repeat (first | exact (Kd.R_reads' HO334.out).2.2 | (with_reducible refine Kd.C_alloc ?_ _) | (with_reducible refine Kd.C_drewN ?_ _) | (with_reducible refine Kd.C_drew ?_))); (case side2 => exact (Kd.R_reads' HO334.out).2.1); (case side3 => repeat (first | exact (Kd.R_reads' HO336.out).2.2 | (with_reducible refine Kd.C_alloc ?_ _) | (with_reducible refine Kd.C_drewN ?_ _) | (with_reducible refine Kd.C_drew ?_))); (case side4 => exact (Kd.R_reads' HO336.out).2.1); rintro e w20 ⟨rfl, hb⟩; refine ⟨_, rfl, ?_⟩; have n0_ := Aside0.mk (Kd.R_below (by (with_reducible repeat (first | apply Kd.R_alloc | apply Kd.R_drewN | apply Kd.R_drew)); exact HO334.out) hb); have n1_ := Aside0.mk (Kd.R_below (by (with_reducible repeat (first | apply Kd.R_alloc | apply Kd.R_drewN | apply Kd.R_drew)); exact HO336.out) hb); have n2_ := Aside0.mk (Kd.R_below (by (with_reducible repeat (first | apply Kd.R_alloc | apply Kd.R_drewN | apply Kd.R_drew)); exact HO340.out) hb); have n3_ := Aside0.mk (Kd.R_below (by (with_reducible repeat (first | apply Kd.R_alloc | apply Kd.R_drewN | apply Kd.R_drew)); exact HO342.out) hb); have n4_ := Aside0.mk (below_step HBa hb); clear HO334; clear HO336; clear HO340; clear HO342; clear HB; have HO334 := n0_; have HO336 := n1_; have HO340 := n2_; have HO342 := n3_; have HB := n4_; clear n0_ n1_ n2_ n3_ n4_; (try clear hb); (try clear hb2); (try clear hk); (try clear hi)) | ((with_reducible refine gate_callee (f := 29) rfl ?_); refine goesL_ (some 37) rfl rfl Tryd.func29 (by kernel_rfl) rfl #[.slice Ao18 t331.length co18, .slice Ao19 t332.length co19] rfl MPz ?_; (with_reducible refine (spec_DnUnder.calls kj2 _ _ t331 _ _ t332 t345 _ ?side1 ?side2 ?side3 ?side4 A16.out).mono ?_); (case side1 => repeat (first | exact (Kd.R_reads' HO334.out).2.2 | (with_reducible refine Kd.C_alloc ?_ _) | (with_reducible refine Kd.C_drewN ?_ _) | (with_reducible refine Kd.C_drew ?_))); (case side2 => exact (Kd.R_reads' HO334.out).2.1); (case side3 => repeat (first | exact (Kd.R_reads' HO336.out).2.2 | (with_reducible refine Kd.C_alloc ?_ _) | (with_reducible refine Kd.C_drewN ?_ _) | (with_reducible refine Kd.C_drew ?_))); (case side4 => exact (Kd.R_reads' HO336.out).2.1); rintro e w21 ⟨rfl, hb⟩; refine ⟨_, rfl, ?_⟩; have n0_ := Aside0.mk (Kd.R_below (by (with_reducible repeat (first | apply Kd.R_alloc | apply Kd.R_drewN | apply Kd.R_drew)); exact HO334.out) hb); have n1_ := Aside0.mk (Kd.R_below (by (with_reducible repeat (first | apply Kd.R_alloc | apply Kd.R_drewN | apply Kd.R_drew)); exact HO336.out) hb); have n2_ := Aside0.mk (Kd.R_below (by (with_reducible repeat (first | apply Kd.R_alloc | apply Kd.R_drewN | apply Kd.R_drew)); exact HO340.out) hb); have n3_ := Aside0.mk (Kd.R_below (by (with_reducible repeat (first | apply Kd.R_alloc | apply Kd.R_drewN | apply Kd.R_drew)); exact HO342.out) hb); have n4_ := Aside0.mk (below_step HBa hb); clear HO334; clear HO336; clear HO340; clear HO342; clear HB; have HO334 := n0_; have HO336 := n1_; have HO340 := n2_; have HO342 := n3_; have HB := n4_; clear n0_ n1_ n2_ n3_ n4_; (try clear hb); (try clear hb2); (try clear hk); (try clear hi)))
      go_meet
      case rel => exact ⟨_, (true), EZc, H', ⟨by have := HJ2.out; first | omega | exact Nat.le_refl _⟩, ⟨by (with_reducible repeat (first | apply Kd.R_alloc | apply Kd.R_drewN | apply Kd.R_drew)); exact Kd.R_mono HO334.out (fun _ hk => ⟨hk.1.2, hk.2⟩)⟩, ⟨by (with_reducible repeat (first | apply Kd.R_alloc | apply Kd.R_drewN | apply Kd.R_drew)); exact Kd.R_mono HO340.out (fun _ hk => ⟨hk.1.2, hk.1.1⟩)⟩, ⟨by (with_reducible repeat (first | apply Kd.R_alloc | apply Kd.R_drewN | apply Kd.R_drew)); exact Kd.R_mono HO342.out (fun _ hk => ⟨hk.1.2, hk.1.1⟩)⟩, ⟨HBa⟩⟩
     ·rw [if_neg c17] at H
      have c17b0 : (t344 != t345) = false := by simpa using c17
      (try (have c17b1 : decide (t344 = t345) = true := by simpa using c17))
      (try (have c17b2 : (t344 == t345) = true := by simpa using c17))
      clear c17
      (first | rw [c17b0] | rw [c17v0] | (simp only [i64_w, i32_w]; rw [c17b0]) | (simp only [i64_w, i32_w]; rw [c17v0]) | skip)
      replace H := Option.bind_eq_some_iff.mp H
      obtain ⟨t346, A220, H⟩ := H
      replace H : (if (t343 != t346) = true then (laws_FnUnder.j1 kj2 t331 t337 t338 t343 true) else ((impl_DnKey.f kj2 t337).bind fun t347 => ((spec_DnKey.f kj2 t337).bind fun t348 => (laws_FnUnder.j1 kj2 t331 t337 t338 t343 (t347.toList != t348.toList))))) = some r := H
      have A22 := Aside0.mk A220
      clear A220
      by_cases c23 : (t343 != t346) = true
      ·rw [if_pos c23] at H
       have c23b0 : (t343 != t346) = true := c23
       (try (have c23b1 : decide (t343 = t346) = false := by simpa using c23))
       (try (have c23b2 : (t343 == t346) = false := by simpa using c23))
       (try (have c23b3 : ¬ (t343 = t346) := by simpa using c23))
       clear c23
       have H' := Aside0.mk H
       clear H
       obtain ⟨Ao24, co24, eo24⟩ := Kd.R_slice HO334.out
       subst eo24
       obtain ⟨Ao25, co25, eo25⟩ := Kd.R_slice HO336.out
       subst eo25
       go_wp2_with (first | ((with_reducible refine gate_callee (f := 28) rfl ?_); refine goesL_ (some 34) rfl rfl Tryd.func28 (by kernel_rfl) rfl #[.slice Ao24 t331.length co24, .slice Ao25 t332.length co25] rfl MPz ?_; (with_reducible refine (impl_DnUnder.calls kj2 _ _ t331 _ _ t332 t344 _ ?side1 ?side2 ?side3 ?side4 A15.out).mono ?_); (case side1 => repeat (first | exact (Kd.R_reads' HO334.out).2.2 | (with_reducible refine Kd.C_alloc ?_ _) | (with_reducible refine Kd.C_drewN ?_ _) | (with_reducible refine Kd.C_drew ?_))); (case side2 => exact (Kd.R_reads' HO334.out).2.1); (case side3 => repeat (first | exact (Kd.R_reads' HO336.out).2.2 | (with_reducible refine Kd.C_alloc ?_ _) | (with_reducible refine Kd.C_drewN ?_ _) | (with_reducible refine Kd.C_drew ?_))); (case side4 => exact (Kd.R_reads' HO336.out).2.1); rintro e w26 ⟨rfl, hb⟩; refine ⟨_, rfl, ?_⟩; have n0_ := Aside0.mk (Kd.R_below (by (with_reducible repeat (first | apply Kd.R_alloc | apply Kd.R_drewN | apply Kd.R_drew)); exact HO334.out) hb); have n1_ := Aside0.mk (Kd.R_below (by (with_reducible repeat (first | apply Kd.R_alloc | apply Kd.R_drewN | apply Kd.R_drew)); exact HO336.out) hb); have n2_ := Aside0.mk (Kd.R_below (by (with_reducible repeat (first | apply Kd.R_alloc | apply Kd.R_drewN | apply Kd.R_drew)); exact HO340.out) hb); have n3_ := Aside0.mk (Kd.R_below (by (with_reducible repeat (first | apply Kd.R_alloc | apply Kd.R_drewN | apply Kd.R_drew)); exact HO342.out) hb); have n4_ := Aside0.mk (below_step HBa hb); clear HO334; clear HO336; clear HO340; clear HO342; clear HB; have HO334 := n0_; have HO336 := n1_; have HO340 := n2_; have HO342 := n3_; have HB := n4_; clear n0_ n1_ n2_ n3_ n4_; (try clear hb); (try clear hb2); (try clear hk); (try clear hi)) | ((with_reducible refine gate_callee (f := 29) rfl ?_); refine goesL_ (some 37) rfl rfl Tryd.func29 (by kernel_rfl) rfl #[.slice Ao24 t331.length co24, .slice Ao25 t332.length co25] rfl MPz ?_; (with_reducible refine (spec_DnUnder.calls kj2 _ _ t331 _ _ t332 t345 _ ?side1 ?side2 ?side3 ?side4 A16.out).mono ?_); (case side1 => repeat (first | exact (Kd.R_reads' HO334.out).2.2 | (with_reducible refine Kd.C_alloc ?_ _) | (with_reducible refine Kd.C_drewN ?_ _) | (with_reducible refine Kd.C_drew ?_))); (case side2 => exact (Kd.R_reads' HO334.out).2.1); (case side3 => repeat (first | exact (Kd.R_reads' HO336.out).2.2 | (with_reducible refine Kd.C_alloc ?_ _) | (with_reducible refine Kd.C_drewN ?_ _) | (with_reducible refine Kd.C_drew ?_))); (case side4 => exact (Kd.R_reads' HO336.out).2.1); rintro e w27 ⟨rfl, hb⟩; refine ⟨_, rfl, ?_⟩; have n0_ := Aside0.mk (Kd.R_below (by (with_reducible repeat (first | apply Kd.R_alloc | apply Kd.R_drewN | apply Kd.R_drew)); exact HO334.out) hb); have n1_ := Aside0.mk (Kd.R_below (by (with_reducible repeat (first | apply Kd.R_alloc | apply Kd.R_drewN | apply Kd.R_drew)); exact HO336.out) hb); have n2_ := Aside0.mk (Kd.R_below (by (with_reducible repeat (first | apply Kd.R_alloc | apply Kd.R_drewN | apply Kd.R_drew)); exact HO340.out) hb); have n3_ := Aside0.mk (Kd.R_below (by (with_reducible repeat (first | apply Kd.R_alloc | apply Kd.R_drewN | apply Kd.R_drew)); exact HO342.out) hb); have n4_ := Aside0.mk (below_step HBa hb); clear HO334; clear HO336; clear HO340; clear HO342; clear HB; have HO334 := n0_; have HO336 := n1_; have HO340 := n2_; have HO342 := n3_; have HB := n4_; clear n0_ n1_ n2_ n3_ n4_; (try clear hb); (try clear hb2); (try clear hk); (try clear hi)) | (go_at_call 30; (with_reducible refine (spec_DnSame.calls kj2 _ _ t337 _ _ t338 t346 _ ?side1 ?side2 ?side3 ?side4 A22.out).mono ?_); (case side1 => repeat (first | exact (Kd.R_reads' HO340.out).2.2 | (with_reducible refine Kd.C_alloc ?_ _) | (with_reducible refine Kd.C_drewN ?_ _) | (with_reducible refine Kd.C_drew ?_))); (case side2 => exact (Kd.R_reads' HO340.out).2.1); (case side3 => repeat (first | exact (Kd.R_reads' HO342.out).2.2 | (with_reducible refine Kd.C_alloc ?_ _) | (with_reducible refine Kd.C_drewN ?_ _) | (with_reducible refine Kd.C_drew ?_))); (case side4 => exact (Kd.R_reads' HO342.out).2.1); rintro e w28 ⟨rfl, hb⟩; have n0_ := Aside0.mk (Kd.R_below (by (with_reducible repeat (first | apply Kd.R_alloc | apply Kd.R_drewN | apply Kd.R_drew)); exact HO334.out) hb); have n1_ := Aside0.mk (Kd.R_below (by (with_reducible repeat (first | apply Kd.R_alloc | apply Kd.R_drewN | apply Kd.R_drew)); exact HO336.out) hb); have n2_ := Aside0.mk (Kd.R_below (by (with_reducible repeat (first | apply Kd.R_alloc | apply Kd.R_drewN | apply Kd.R_drew)); exact HO340.out) hb); have n3_ := Aside0.mk (Kd.R_below (by (with_reducible repeat (first | apply Kd.R_alloc | apply Kd.R_drewN | apply Kd.R_drew)); exact HO342.out) hb); have n4_ := Aside0.mk (below_step HBa hb); clear HO334; clear HO336; clear HO340; clear HO342; clear HB; have HO334 := n0_; have HO336 := n1_; have HO340 := n2_; have HO342 := n3_; have HB := n4_; clear n0_ n1_ n2_ n3_ n4_; (try clear hb); (try clear hb2); (try clear hk); (try clear hi)))
       go_meet
       case rel => exact ⟨_, (true), EZc, H', ⟨by have := HJ2.out; first | omega | exact Nat.le_refl _⟩, ⟨by (with_reducible repeat (first | apply Kd.R_alloc | apply Kd.R_drewN | apply Kd.R_drew)); exact Kd.R_mono HO334.out (fun _ hk => ⟨hk.1.2, hk.2⟩)⟩, ⟨by (with_reducible repeat (first | apply Kd.R_alloc | apply Kd.R_drewN | apply Kd.R_drew)); exact Kd.R_mono HO340.out (fun _ hk => ⟨hk.1.2, hk.1.1⟩)⟩, ⟨by (with_reducible repeat (first | apply Kd.R_alloc | apply Kd.R_drewN | apply Kd.R_drew)); exact Kd.R_mono HO342.out (fun _ hk => ⟨hk.1.2, hk.1.1⟩)⟩, ⟨HBa⟩⟩
      ·rw [if_neg c23] at H
       have c23b0 : (t343 != t346) = false := by simpa using c23
       (try (have c23b1 : decide (t343 = t346) = true := by simpa using c23))
       (try (have c23b2 : (t343 == t346) = true := by simpa using c23))
       clear c23
       replace H := Option.bind_eq_some_iff.mp H
       obtain ⟨t347, A290, H⟩ := H
       replace H : ((spec_DnKey.f kj2 t337).bind fun t348 => (laws_FnUnder.j1 kj2 t331 t337 t338 t343 (t347.toList != t348.toList))) = some r := H
       have A29 := Aside0.mk A290
       clear A290
       replace H := Option.bind_eq_some_iff.mp H
       obtain ⟨t348, A300, H⟩ := H
       replace H : (laws_FnUnder.j1 kj2 t331 t337 t338 t343 (t347.toList != t348.toList)) = some r := H
       have A30 := Aside0.mk A300
       clear A300
       have H' := Aside0.mk H
       clear H
       obtain ⟨Ao31, co31, eo31⟩ := Kd.R_slice HO334.out
       subst eo31
       obtain ⟨Ao32, co32, eo32⟩ := Kd.R_slice HO336.out
       subst eo32
       go_wp2_with (first | ((with_reducible refine gate_callee (f := 28) rfl ?_); refine goesL_ (some 34) rfl rfl Tryd.func28 (by kernel_rfl) rfl #[.slice Ao31 t331.length co31, .slice Ao32 t332.length co32] rfl MPz ?_; (with_reducible refine (impl_DnUnder.calls kj2 _ _ t331 _ _ t332 t344 _ ?side1 ?side2 ?side3 ?side4 A15.out).mono ?_); (case side1 => repeat (first | exact (Kd.R_reads' HO334.out).2.2 | (with_reducible refine Kd.C_alloc ?_ _) | (with_reducible refine Kd.C_drewN ?_ _) | (with_reducible refine Kd.C_drew ?_))); (case side2 => exact (Kd.R_reads' HO334.out).2.1); (case side3 => repeat (first | exact (Kd.R_reads' HO336.out).2.2 | (with_reducible refine Kd.C_alloc ?_ _) | (with_reducible refine Kd.C_drewN ?_ _) | (with_reducible refine Kd.C_drew ?_))); (case side4 => exact (Kd.R_reads' HO336.out).2.1); rintro e w33 ⟨rfl, hb⟩; refine ⟨_, rfl, ?_⟩; have n0_ := Aside0.mk (Kd.R_below (by (with_reducible repeat (first | apply Kd.R_alloc | apply Kd.R_drewN | apply Kd.R_drew)); exact HO334.out) hb); have n1_ := Aside0.mk (Kd.R_below (by (with_reducible repeat (first | apply Kd.R_alloc | apply Kd.R_drewN | apply Kd.R_drew)); exact HO336.out) hb); have n2_ := Aside0.mk (Kd.R_below (by (with_reducible repeat (first | apply Kd.R_alloc | apply Kd.R_drewN | apply Kd.R_drew)); exact HO340.out) hb); have n3_ := Aside0.mk (Kd.R_below (by (with_reducible repeat (first | apply Kd.R_alloc | apply Kd.R_drewN | apply Kd.R_drew)); exact HO342.out) hb); have n4_ := Aside0.mk (below_step HBa hb); clear HO334; clear HO336; clear HO340; clear HO342; clear HB; have HO334 := n0_; have HO336 := n1_; have HO340 := n2_; have HO342 := n3_; have HB := n4_; clear n0_ n1_ n2_ n3_ n4_; (try clear hb); (try clear hb2); (try clear hk); (try clear hi)) | ((with_reducible refine gate_callee (f := 29) rfl ?_); refine goesL_ (some 37) rfl rfl Tryd.func29 (by kernel_rfl) rfl #[.slice Ao31 t331.length co31, .slice Ao32 t332.length co32] rfl MPz ?_; (with_reducible refine (spec_DnUnder.calls kj2 _ _ t331 _ _ t332 t345 _ ?side1 ?side2 ?side3 ?side4 A16.out).mono ?_); (case side1 => repeat (first | exact (Kd.R_reads' HO334.out).2.2 | (with_reducible refine Kd.C_alloc ?_ _) | (with_reducible refine Kd.C_drewN ?_ _) | (with_reducible refine Kd.C_drew ?_))); (case side2 => exact (Kd.R_reads' HO334.out).2.1); (case side3 => repeat (first | exact (Kd.R_reads' HO336.out).2.2 | (with_reducible refine Kd.C_alloc ?_ _) | (with_reducible refine Kd.C_drewN ?_ _) | (with_reducible refine Kd.C_drew ?_))); (case side4 => exact (Kd.R_reads' HO336.out).2.1); rintro e w34 ⟨rfl, hb⟩; refine ⟨_, rfl, ?_⟩; have n0_ := Aside0.mk (Kd.R_below (by (with_reducible repeat (first | apply Kd.R_alloc | apply Kd.R_drewN | apply Kd.R_drew)); exact HO334.out) hb); have n1_ := Aside0.mk (Kd.R_below (by (with_reducible repeat (first | apply Kd.R_alloc | apply Kd.R_drewN | apply Kd.R_drew)); exact HO336.out) hb); have n2_ := Aside0.mk (Kd.R_below (by (with_reducible repeat (first | apply Kd.R_alloc | apply Kd.R_drewN | apply Kd.R_drew)); exact HO340.out) hb); have n3_ := Aside0.mk (Kd.R_below (by (with_reducible repeat (first | apply Kd.R_alloc | apply Kd.R_drewN | apply Kd.R_drew)); exact HO342.out) hb); have n4_ := Aside0.mk (below_step HBa hb); clear HO334; clear HO336; clear HO340; clear HO342; clear HB; have HO334 := n0_; have HO336 := n1_; have HO340 := n2_; have HO342 := n3_; have HB := n4_; clear n0_ n1_ n2_ n3_ n4_; (try clear hb); (try clear hb2); (try clear hk); (try clear hi)) | (go_at_call 30; (with_reducible refine (spec_DnSame.calls kj2 _ _ t337 _ _ t338 t346 _ ?side1 ?side2 ?side3 ?side4 A22.out).mono ?_); (case side1 => repeat (first | exact (Kd.R_reads' HO340.out).2.2 | (with_reducible refine Kd.C_alloc ?_ _) | (with_reducible refine Kd.C_drewN ?_ _) | (with_reducible refine Kd.C_drew ?_))); (case side2 => exact (Kd.R_reads' HO340.out).2.1); (case side3 => repeat (first | exact (Kd.R_reads' HO342.out).2.2 | (with_reducible refine Kd.C_alloc ?_ _) | (with_reducible refine Kd.C_drewN ?_ _) | (with_reducible refine Kd.C_drew ?_))); (case side4 => exact (Kd.R_reads' HO342.out).2.1); rintro e w35 ⟨rfl, hb⟩; have n0_ := Aside0.mk (Kd.R_below (by (with_reducible repeat (first | apply Kd.R_alloc | apply Kd.R_drewN | apply Kd.R_drew)); exact HO334.out) hb); have n1_ := Aside0.mk (Kd.R_below (by (with_reducible repeat (first | apply Kd.R_alloc | apply Kd.R_drewN | apply Kd.R_drew)); exact HO336.out) hb); have n2_ := Aside0.mk (Kd.R_below (by (with_reducible repeat (first | apply Kd.R_alloc | apply Kd.R_drewN | apply Kd.R_drew)); exact HO340.out) hb); have n3_ := Aside0.mk (Kd.R_below (by (with_reducible repeat (first | apply Kd.R_alloc | apply Kd.R_drewN | apply Kd.R_drew)); exact HO342.out) hb); have n4_ := Aside0.mk (below_step HBa hb); clear HO334; clear HO336; clear HO340; clear HO342; clear HB; have HO334 := n0_; have HO336 := n1_; have HO340 := n2_; have HO342 := n3_; have HB := n4_; clear n0_ n1_ n2_ n3_ n4_; (try clear hb); (try clear hb2); (try clear hk); (try clear hi)) | (go_at_call 31; (with_reducible refine (impl_DnKey.calls kj2 _ _ t337 t347 _ ?side1 ?side2 A29.out).mono ?_); (case side1 => repeat (first | exact (Kd.R_reads' HO340.out).2.2 | (with_reducible refine Kd.C_alloc ?_ _) | (with_reducible refine Kd.C_drewN ?_ _) | (with_reducible refine Kd.C_drew ?_))); (case side2 => exact (Kd.R_reads' HO340.out).2.1); rintro e w36 ⟨rfl, hb⟩; have n0_ := Aside0.mk (Kd.R_below (by (with_reducible repeat (first | apply Kd.R_alloc | apply Kd.R_drewN | apply Kd.R_drew)); exact HO334.out) hb); have n1_ := Aside0.mk (Kd.R_below (by (with_reducible repeat (first | apply Kd.R_alloc | apply Kd.R_drewN | apply Kd.R_drew)); exact HO336.out) hb); have n2_ := Aside0.mk (Kd.R_below (by (with_reducible repeat (first | apply Kd.R_alloc | apply Kd.R_drewN | apply Kd.R_drew)); exact HO340.out) hb); have n3_ := Aside0.mk (Kd.R_below (by (with_reducible repeat (first | apply Kd.R_alloc | apply Kd.R_drewN | apply Kd.R_drew)); exact HO342.out) hb); have n4_ := Aside0.mk (below_step HBa hb); clear HO334; clear HO336; clear HO340; clear HO342; clear HB; have HO334 := n0_; have HO336 := n1_; have HO340 := n2_; have HO342 := n3_; have HB := n4_; clear n0_ n1_ n2_ n3_ n4_; (try clear hb); (try clear hb2); (try clear hk); (try clear hi)) | (go_at_call 32; (with_reducible refine (spec_DnKey.calls kj2 _ _ t337 t348 _ ?side1 ?side2 A30.out).mono ?_); (case side1 => repeat (first | exact (Kd.R_reads' HO340.out).2.2 | (with_reducible refine Kd.C_alloc ?_ _) | (with_reducible refine Kd.C_drewN ?_ _) | (with_reducible refine Kd.C_drew ?_))); (case side2 => exact (Kd.R_reads' HO340.out).2.1); rintro e w37 ⟨rfl, hb⟩; have n0_ := Aside0.mk (Kd.R_below (by (with_reducible repeat (first | apply Kd.R_alloc | apply Kd.R_drewN | apply Kd.R_drew)); exact HO334.out) hb); have n1_ := Aside0.mk (Kd.R_below (by (with_reducible repeat (first | apply Kd.R_alloc | apply Kd.R_drewN | apply Kd.R_drew)); exact HO336.out) hb); have n2_ := Aside0.mk (Kd.R_below (by (with_reducible repeat (first | apply Kd.R_alloc | apply Kd.R_drewN | apply Kd.R_drew)); exact HO340.out) hb); have n3_ := Aside0.mk (Kd.R_below (by (with_reducible repeat (first | apply Kd.R_alloc | apply Kd.R_drewN | apply Kd.R_drew)); exact HO342.out) hb); have n4_ := Aside0.mk (below_step HBa hb); clear HO334; clear HO336; clear HO340; clear HO342; clear HB; have HO334 := n0_; have HO336 := n1_; have HO340 := n2_; have HO342 := n3_; have HB := n4_; clear n0_ n1_ n2_ n3_ n4_; (try clear hb); (try clear hb2); (try clear hk); (try clear hi)))
       go_meet
       case rel => exact ⟨_, ((t347.toList != t348.toList)), EZc, H', ⟨by have := HJ2.out; first | omega | exact Nat.le_refl _⟩, ⟨by (with_reducible repeat (first | apply Kd.R_alloc | apply Kd.R_drewN | apply Kd.R_drew)); exact Kd.R_mono HO334.out (fun _ hk => ⟨hk.1.2, hk.2⟩)⟩, ⟨by (with_reducible repeat (first | apply Kd.R_alloc | apply Kd.R_drewN | apply Kd.R_drew)); exact Kd.R_mono HO340.out (fun _ hk => ⟨hk.1.2, hk.1.1⟩)⟩, ⟨by (with_reducible repeat (first | apply Kd.R_alloc | apply Kd.R_drewN | apply Kd.R_drew)); exact Kd.R_mono HO342.out (fun _ hk => ⟨hk.1.2, hk.1.1⟩)⟩, ⟨HBa⟩⟩
    case rest =>
     clear HC9
     try clear c1
     try clear c2
     try clear p2
     try clear c4
     try clear c4b0
     try clear c4b1
     try clear c5
     try clear c17
     try clear c17b0
     try clear c17b1
     try clear c17b2
     try clear c23
     try clear c23b0
     try clear c23b1
     try clear c23b2
     try clear c25
     try clear c26
     try clear c27
     try clear c28
     try clear c29
     try clear p2
     obtain ⟨kq, x52_8, rfl, HA, HJ8, HO_5, HO_7, HO_8, HB⟩ := hcut
     cases kq with
     | zero => exact absurd HA.out (by simp [laws_FnUnder.j1])
     | succ kj8 =>
      have H := HA.out
      clear HA
      simp only [laws_FnUnder.j1] at H
      by_cases c38 : x52_8 = true
      ·subst c38
       have H1 : (some false) = some r := by rw [if_pos rfl] at H; exact H
       clear H
       have H := H1
       clear H1
       obtain rfl := Option.some.inj H
       go_wp2
       go_ret
       exact ⟨EZa, HBa⟩
      ·replace c38 := Bool.eq_false_iff.mpr c38
       subst c38
       have H1 : ((spec_DnRight.f kj8 t337).bind fun t349 => (if t349 = true then ((spec_DnRight.f kj8 t338).bind fun t350 => (if t350 = true then ((impl_DnKey.f kj8 t337).bind fun t351 => ((impl_DnKey.f kj8 t338).bind fun t352 => (if (t343 != (t351.toList == t352.toList)) = true then (laws_FnUnder.j2 kj8 t331 true) else ((impl_DnUnder.f kj8 t337 t338).bind fun t353 => (if t353 = true then ((impl_DnUnder.f kj8 t338 t337).bind fun t354 => (laws_FnUnder.j2 kj8 t331 (t343 != t354))) else (laws_FnUnder.j2 kj8 t331 (t343 != false))))))) else (laws_FnUnder.j2 kj8 t331 false))) else (laws_FnUnder.j2 kj8 t331 false))) = some r := by rw [if_neg (show ¬ (false = true) by decide)] at H; exact H
       clear H
       have H := H1
       clear H1
       have HC39 := Aside0.mk H
       clear H
       go_upto_region 8 with (fail)
       go_cut [79] (fun v79 wc => ∃ (kq : Nat) (x79_38 : Bool), v79 = .bool x79_38 ∧ Aside0 (laws_FnUnder.j2 kq t331 x79_38 = some r) ∧ Aside0 (kq ≤ kj8) ∧ Aside0 (Kd.R k42 42 wc w.heap.size (fun _ => True) v333 t331) ∧ Aside0 (Below w.heap.size w wc))
       case first =>
        have H := HC39.out
        clear HC39
        replace H := Option.bind_eq_some_iff.mp H
        obtain ⟨t349, A400, H⟩ := H
        replace H : (if t349 = true then ((spec_DnRight.f kj8 t338).bind fun t350 => (if t350 = true then ((impl_DnKey.f kj8 t337).bind fun t351 => ((impl_DnKey.f kj8 t338).bind fun t352 => (if (t343 != (t351.toList == t352.toList)) = true then (laws_FnUnder.j2 kj8 t331 true) else ((impl_DnUnder.f kj8 t337 t338).bind fun t353 => (if t353 = true then ((impl_DnUnder.f kj8 t338 t337).bind fun t354 => (laws_FnUnder.j2 kj8 t331 (t343 != t354))) else (laws_FnUnder.j2 kj8 t331 (t343 != false))))))) else (laws_FnUnder.j2 kj8 t331 false))) else (laws_FnUnder.j2 kj8 t331 false)) = some r := H
        have A40 := Aside0.mk A400
        clear A400
        by_cases c41 : t349 = true
        ·subst c41
         have H1 : ((spec_DnRight.f kj8 t338).bind fun t350 => (if t350 = true then ((impl_DnKey.f kj8 t337).bind fun t351 => ((impl_DnKey.f kj8 t338).bind fun t352 => (if (t343 != (t351.toList == t352.toList)) = true then (laws_FnUnder.j2 kj8 t331 true) else ((impl_DnUnder.f kj8 t337 t338).bind fun t353 => (if t353 = true then ((impl_DnUnder.f kj8 t338 t337).bind fun t354 => (laws_FnUnder.j2 kj8 t331 (t343 != t354))) else (laws_FnUnder.j2 kj8 t331 (t343 != false))))))) else (laws_FnUnder.j2 kj8 t331 false))) = some r := by rw [if_pos rfl] at H; exact H
         clear H
         have H := H1
         clear H1
         replace H := Option.bind_eq_some_iff.mp H
         obtain ⟨t350, A420, H⟩ := H
         replace H : (if t350 = true then ((impl_DnKey.f kj8 t337).bind fun t351 => ((impl_DnKey.f kj8 t338).bind fun t352 => (if (t343 != (t351.toList == t352.toList)) = true then (laws_FnUnder.j2 kj8 t331 true) else ((impl_DnUnder.f kj8 t337 t338).bind fun t353 => (if t353 = true then ((impl_DnUnder.f kj8 t338 t337).bind fun t354 => (laws_FnUnder.j2 kj8 t331 (t343 != t354))) else (laws_FnUnder.j2 kj8 t331 (t343 != false))))))) else (laws_FnUnder.j2 kj8 t331 false)) = some r := H
         have A42 := Aside0.mk A420
         clear A420
         by_cases c43 : t350 = true
         ·subst c43
          have H1 : ((impl_DnKey.f kj8 t337).bind fun t351 => ((impl_DnKey.f kj8 t338).bind fun t352 => (if (t343 != (t351.toList == t352.toList)) = true then (laws_FnUnder.j2 kj8 t331 true) else ((impl_DnUnder.f kj8 t337 t338).bind fun t353 => (if t353 = true then ((impl_DnUnder.f kj8 t338 t337).bind fun t354 => (laws_FnUnder.j2 kj8 t331 (t343 != t354))) else (laws_FnUnder.j2 kj8 t331 (t343 != false))))))) = some r := by rw [if_pos rfl] at H; exact H
          clear H
          have H := H1
          clear H1
          replace H := Option.bind_eq_some_iff.mp H
          obtain ⟨t351, A440, H⟩ := H
          replace H : ((impl_DnKey.f kj8 t338).bind fun t352 => (if (t343 != (t351.toList == t352.toList)) = true then (laws_FnUnder.j2 kj8 t331 true) else ((impl_DnUnder.f kj8 t337 t338).bind fun t353 => (if t353 = true then ((impl_DnUnder.f kj8 t338 t337).bind fun t354 => (laws_FnUnder.j2 kj8 t331 (t343 != t354))) else (laws_FnUnder.j2 kj8 t331 (t343 != false)))))) = some r := H
          have A44 := Aside0.mk A440
          clear A440
          replace H := Option.bind_eq_some_iff.mp H
          obtain ⟨t352, A450, H⟩ := H
          replace H : (if (t343 != (t351.toList == t352.toList)) = true then (laws_FnUnder.j2 kj8 t331 true) else ((impl_DnUnder.f kj8 t337 t338).bind fun t353 => (if t353 = true then ((impl_DnUnder.f kj8 t338 t337).bind fun t354 => (laws_FnUnder.j2 kj8 t331 (t343 != t354))) else (laws_FnUnder.j2 kj8 t331 (t343 != false))))) = some r := H
          have A45 := Aside0.mk A450
          clear A450
          by_cases c46 : (t343 != (t351.toList == t352.toList)) = true
          ·rw [if_pos c46] at H
           have c46b0 : (t343 != (t351.toList == t352.toList)) = true := c46
           (try (have c46b1 : decide (t343 = (t351.toList == t352.toList)) = false := by simpa using c46))
           (try (have c46b2 : (t343 == (t351.toList == t352.toList)) = false := by simpa using c46))
           (try (have c46b3 : ¬ (t343 = (t351.toList == t352.toList)) := by simpa using c46))
           clear c46
           (first | rw [c46b0] | rw [c46v0] | (simp only [i64_w, i32_w]; rw [c46b0]) | (simp only [i64_w, i32_w]; rw [c46v0]) | skip)
           have H' := Aside0.mk H
           clear H
           go_wp2_with (first | ((with_reducible refine gate_callee (f := 33) rfl ?_); refine goesL_ (some 54) rfl rfl Tryd.func33 (by kernel_rfl) rfl #[.slice Ao12 t337.length co12] rfl MPz ?_; (with_reducible refine (spec_DnRight.calls kj8 _ _ t337 true _ ?side1 ?side2 A40.out).mono ?_); (case side1 => repeat (first | exact (Kd.R_reads' HO_7.out).2.2 | (with_reducible refine Kd.C_alloc ?_ _) | (with_reducible refine Kd.C_drewN ?_ _) | (with_reducible refine Kd.C_drew ?_))); (case side2 => exact (Kd.R_reads' HO_7.out).2.1); rintro e w47 ⟨rfl, hb⟩; refine ⟨_, rfl, ?_⟩; have n0_ := Aside0.mk (Kd.R_below (by (with_reducible repeat (first | apply Kd.R_alloc | apply Kd.R_drewN | apply Kd.R_drew)); exact HO_5.out) hb); have n1_ := Aside0.mk (Kd.R_below (by (with_reducible repeat (first | apply Kd.R_alloc | apply Kd.R_drewN | apply Kd.R_drew)); exact HO_7.out) hb); have n2_ := Aside0.mk (Kd.R_below (by (with_reducible repeat (first | apply Kd.R_alloc | apply Kd.R_drewN | apply Kd.R_drew)); exact HO_8.out) hb); have n3_ := Aside0.mk (below_step HBa hb); clear HO_5; clear HO_7; clear HO_8; clear HB; have HO_5 := n0_; have HO_7 := n1_; have HO_8 := n2_; have HB := n3_; clear n0_ n1_ n2_ n3_; (try clear hb); (try clear hb2); (try clear hk); (try clear hi)) | (go_at_call 33; (with_reducible refine (spec_DnRight.calls kj8 _ _ t338 true _ ?side1 ?side2 A42.out).mono ?_); (case side1 => repeat (first | exact (Kd.R_reads' HO_8.out).2.2 | (with_reducible refine Kd.C_alloc ?_ _) | (with_reducible refine Kd.C_drewN ?_ _) | (with_reducible refine Kd.C_drew ?_))); (case side2 => exact (Kd.R_reads' HO_8.out).2.1); rintro e w48 ⟨rfl, hb⟩; have n0_ := Aside0.mk (Kd.R_below (by (with_reducible repeat (first | apply Kd.R_alloc | apply Kd.R_drewN | apply Kd.R_drew)); exact HO_5.out) hb); have n1_ := Aside0.mk (Kd.R_below (by (with_reducible repeat (first | apply Kd.R_alloc | apply Kd.R_drewN | apply Kd.R_drew)); exact HO_7.out) hb); have n2_ := Aside0.mk (Kd.R_below (by (with_reducible repeat (first | apply Kd.R_alloc | apply Kd.R_drewN | apply Kd.R_drew)); exact HO_8.out) hb); have n3_ := Aside0.mk (below_step HBa hb); clear HO_5; clear HO_7; clear HO_8; clear HB; have HO_5 := n0_; have HO_7 := n1_; have HO_8 := n2_; have HB := n3_; clear n0_ n1_ n2_ n3_; (try clear hb); (try clear hb2); (try clear hk); (try clear hi)) | (go_at_call 31; (with_reducible refine (impl_DnKey.calls kj8 _ _ t337 t351 _ ?side1 ?side2 A44.out).mono ?_); (case side1 => repeat (first | exact (Kd.R_reads' HO_7.out).2.2 | (with_reducible refine Kd.C_alloc ?_ _) | (with_reducible refine Kd.C_drewN ?_ _) | (with_reducible refine Kd.C_drew ?_))); (case side2 => exact (Kd.R_reads' HO_7.out).2.1); rintro e w49 ⟨rfl, hb⟩; have n0_ := Aside0.mk (Kd.R_below (by (with_reducible repeat (first | apply Kd.R_alloc | apply Kd.R_drewN | apply Kd.R_drew)); exact HO_5.out) hb); have n1_ := Aside0.mk (Kd.R_below (by (with_reducible repeat (first | apply Kd.R_alloc | apply Kd.R_drewN | apply Kd.R_drew)); exact HO_7.out) hb); have n2_ := Aside0.mk (Kd.R_below (by (with_reducible repeat (first | apply Kd.R_alloc | apply Kd.R_drewN | apply Kd.R_drew)); exact HO_8.out) hb); have n3_ := Aside0.mk (below_step HBa hb); clear HO_5; clear HO_7; clear HO_8; clear HB; have HO_5 := n0_; have HO_7 := n1_; have HO_8 := n2_; have HB := n3_; clear n0_ n1_ n2_ n3_; (try clear hb); (try clear hb2); (try clear hk); (try clear hi)) | (go_at_call 31; (with_reducible refine (impl_DnKey.calls kj8 _ _ t338 t352 _ ?side1 ?side2 A45.out).mono ?_); (case side1 => repeat (first | exact (Kd.R_reads' HO_8.out).2.2 | (with_reducible refine Kd.C_alloc ?_ _) | (with_reducible refine Kd.C_drewN ?_ _) | (with_reducible refine Kd.C_drew ?_))); (case side2 => exact (Kd.R_reads' HO_8.out).2.1); rintro e w50 ⟨rfl, hb⟩; have n0_ := Aside0.mk (Kd.R_below (by (with_reducible repeat (first | apply Kd.R_alloc | apply Kd.R_drewN | apply Kd.R_drew)); exact HO_5.out) hb); have n1_ := Aside0.mk (Kd.R_below (by (with_reducible repeat (first | apply Kd.R_alloc | apply Kd.R_drewN | apply Kd.R_drew)); exact HO_7.out) hb); have n2_ := Aside0.mk (Kd.R_below (by (with_reducible repeat (first | apply Kd.R_alloc | apply Kd.R_drewN | apply Kd.R_drew)); exact HO_8.out) hb); have n3_ := Aside0.mk (below_step HBa hb); clear HO_5; clear HO_7; clear HO_8; clear HB; have HO_5 := n0_; have HO_7 := n1_; have HO_8 := n2_; have HB := n3_; clear n0_ n1_ n2_ n3_; (try clear hb); (try clear hb2); (try clear hk); (try clear hi)))
           go_meet
           case rel => exact ⟨_, (true), EZc, H', ⟨by have := HJ2.out; have := HJ8.out; first | omega | exact Nat.le_refl _⟩, ⟨by (with_reducible repeat (first | apply Kd.R_alloc | apply Kd.R_drewN | apply Kd.R_drew)); exact Kd.R_mono HO_5.out (fun _ hk => trivial)⟩, ⟨HBa⟩⟩
          ·rw [if_neg c46] at H
           have c46b0 : (t343 != (t351.toList == t352.toList)) = false := by simpa using c46
           (try (have c46b1 : decide (t343 = (t351.toList == t352.toList)) = true := by simpa using c46))
           (try (have c46b2 : (t343 == (t351.toList == t352.toList)) = true := by simpa using c46))
           clear c46
           (first | rw [c46b0] | rw [c46v0] | (simp only [i64_w, i32_w]; rw [c46b0]) | (simp only [i64_w, i32_w]; rw [c46v0]) | skip)
           replace H := Option.bind_eq_some_iff.mp H
           obtain ⟨t353, A510, H⟩ := H
           replace H : (if t353 = true then ((impl_DnUnder.f kj8 t338 t337).bind fun t354 => (laws_FnUnder.j2 kj8 t331 (t343 != t354))) else (laws_FnUnder.j2 kj8 t331 (t343 != false))) = some r := H
           have A51 := Aside0.mk A510
           clear A510
           by_cases c52 : t353 = true
           ·subst c52
            have H1 : ((impl_DnUnder.f kj8 t338 t337).bind fun t354 => (laws_FnUnder.j2 kj8 t331 (t343 != t354))) = some r := by rw [if_pos rfl] at H; exact H
            clear H
            have H := H1
            clear H1
            replace H := Option.bind_eq_some_iff.mp H
            obtain ⟨t354, A530, H⟩ := H
            replace H : (laws_FnUnder.j2 kj8 t331 (t343 != t354)) = some r := H
            have A53 := Aside0.mk A530
            clear A530
            have H' := Aside0.mk H
            clear H
            go_wp2_with (first | ((with_reducible refine gate_callee (f := 33) rfl ?_); refine goesL_ (some 54) rfl rfl Tryd.func33 (by kernel_rfl) rfl #[.slice Ao12 t337.length co12] rfl MPz ?_; (with_reducible refine (spec_DnRight.calls kj8 _ _ t337 true _ ?side1 ?side2 A40.out).mono ?_); (case side1 => repeat (first | exact (Kd.R_reads' HO_7.out).2.2 | (with_reducible refine Kd.C_alloc ?_ _) | (with_reducible refine Kd.C_drewN ?_ _) | (with_reducible refine Kd.C_drew ?_))); (case side2 => exact (Kd.R_reads' HO_7.out).2.1); rintro e w54 ⟨rfl, hb⟩; refine ⟨_, rfl, ?_⟩; have n0_ := Aside0.mk (Kd.R_below (by (with_reducible repeat (first | apply Kd.R_alloc | apply Kd.R_drewN | apply Kd.R_drew)); exact HO_5.out) hb); have n1_ := Aside0.mk (Kd.R_below (by (with_reducible repeat (first | apply Kd.R_alloc | apply Kd.R_drewN | apply Kd.R_drew)); exact HO_7.out) hb); have n2_ := Aside0.mk (Kd.R_below (by (with_reducible repeat (first | apply Kd.R_alloc | apply Kd.R_drewN | apply Kd.R_drew)); exact HO_8.out) hb); have n3_ := Aside0.mk (below_step HBa hb); clear HO_5; clear HO_7; clear HO_8; clear HB; have HO_5 := n0_; have HO_7 := n1_; have HO_8 := n2_; have HB := n3_; clear n0_ n1_ n2_ n3_; (try clear hb); (try clear hb2); (try clear hk); (try clear hi)) | (go_at_call 33; (with_reducible refine (spec_DnRight.calls kj8 _ _ t338 true _ ?side1 ?side2 A42.out).mono ?_); (case side1 => repeat (first | exact (Kd.R_reads' HO_8.out).2.2 | (with_reducible refine Kd.C_alloc ?_ _) | (with_reducible refine Kd.C_drewN ?_ _) | (with_reducible refine Kd.C_drew ?_))); (case side2 => exact (Kd.R_reads' HO_8.out).2.1); rintro e w55 ⟨rfl, hb⟩; have n0_ := Aside0.mk (Kd.R_below (by (with_reducible repeat (first | apply Kd.R_alloc | apply Kd.R_drewN | apply Kd.R_drew)); exact HO_5.out) hb); have n1_ := Aside0.mk (Kd.R_below (by (with_reducible repeat (first | apply Kd.R_alloc | apply Kd.R_drewN | apply Kd.R_drew)); exact HO_7.out) hb); have n2_ := Aside0.mk (Kd.R_below (by (with_reducible repeat (first | apply Kd.R_alloc | apply Kd.R_drewN | apply Kd.R_drew)); exact HO_8.out) hb); have n3_ := Aside0.mk (below_step HBa hb); clear HO_5; clear HO_7; clear HO_8; clear HB; have HO_5 := n0_; have HO_7 := n1_; have HO_8 := n2_; have HB := n3_; clear n0_ n1_ n2_ n3_; (try clear hb); (try clear hb2); (try clear hk); (try clear hi)) | (go_at_call 31; (with_reducible refine (impl_DnKey.calls kj8 _ _ t337 t351 _ ?side1 ?side2 A44.out).mono ?_); (case side1 => repeat (first | exact (Kd.R_reads' HO_7.out).2.2 | (with_reducible refine Kd.C_alloc ?_ _) | (with_reducible refine Kd.C_drewN ?_ _) | (with_reducible refine Kd.C_drew ?_))); (case side2 => exact (Kd.R_reads' HO_7.out).2.1); rintro e w56 ⟨rfl, hb⟩; have n0_ := Aside0.mk (Kd.R_below (by (with_reducible repeat (first | apply Kd.R_alloc | apply Kd.R_drewN | apply Kd.R_drew)); exact HO_5.out) hb); have n1_ := Aside0.mk (Kd.R_below (by (with_reducible repeat (first | apply Kd.R_alloc | apply Kd.R_drewN | apply Kd.R_drew)); exact HO_7.out) hb); have n2_ := Aside0.mk (Kd.R_below (by (with_reducible repeat (first | apply Kd.R_alloc | apply Kd.R_drewN | apply Kd.R_drew)); exact HO_8.out) hb); have n3_ := Aside0.mk (below_step HBa hb); clear HO_5; clear HO_7; clear HO_8; clear HB; have HO_5 := n0_; have HO_7 := n1_; have HO_8 := n2_; have HB := n3_; clear n0_ n1_ n2_ n3_; (try clear hb); (try clear hb2); (try clear hk); (try clear hi)) | (go_at_call 31; (with_reducible refine (impl_DnKey.calls kj8 _ _ t338 t352 _ ?side1 ?side2 A45.out).mono ?_); (case side1 => repeat (first | exact (Kd.R_reads' HO_8.out).2.2 | (with_reducible refine Kd.C_alloc ?_ _) | (with_reducible refine Kd.C_drewN ?_ _) | (with_reducible refine Kd.C_drew ?_))); (case side2 => exact (Kd.R_reads' HO_8.out).2.1); rintro e w57 ⟨rfl, hb⟩; have n0_ := Aside0.mk (Kd.R_below (by (with_reducible repeat (first | apply Kd.R_alloc | apply Kd.R_drewN | apply Kd.R_drew)); exact HO_5.out) hb); have n1_ := Aside0.mk (Kd.R_below (by (with_reducible repeat (first | apply Kd.R_alloc | apply Kd.R_drewN | apply Kd.R_drew)); exact HO_7.out) hb); have n2_ := Aside0.mk (Kd.R_below (by (with_reducible repeat (first | apply Kd.R_alloc | apply Kd.R_drewN | apply Kd.R_drew)); exact HO_8.out) hb); have n3_ := Aside0.mk (below_step HBa hb); clear HO_5; clear HO_7; clear HO_8; clear HB; have HO_5 := n0_; have HO_7 := n1_; have HO_8 := n2_; have HB := n3_; clear n0_ n1_ n2_ n3_; (try clear hb); (try clear hb2); (try clear hk); (try clear hi)) | (go_at_call 28; (with_reducible refine (impl_DnUnder.calls kj8 _ _ t337 _ _ t338 true _ ?side1 ?side2 ?side3 ?side4 A51.out).mono ?_); (case side1 => repeat (first | exact (Kd.R_reads' HO_7.out).2.2 | (with_reducible refine Kd.C_alloc ?_ _) | (with_reducible refine Kd.C_drewN ?_ _) | (with_reducible refine Kd.C_drew ?_))); (case side2 => exact (Kd.R_reads' HO_7.out).2.1); (case side3 => repeat (first | exact (Kd.R_reads' HO_8.out).2.2 | (with_reducible refine Kd.C_alloc ?_ _) | (with_reducible refine Kd.C_drewN ?_ _) | (with_reducible refine Kd.C_drew ?_))); (case side4 => exact (Kd.R_reads' HO_8.out).2.1); rintro e w58 ⟨rfl, hb⟩; have n0_ := Aside0.mk (Kd.R_below (by (with_reducible repeat (first | apply Kd.R_alloc | apply Kd.R_drewN | apply Kd.R_drew)); exact HO_5.out) hb); have n1_ := Aside0.mk (Kd.R_below (by (with_reducible repeat (first | apply Kd.R_alloc | apply Kd.R_drewN | apply Kd.R_drew)); exact HO_7.out) hb); have n2_ := Aside0.mk (Kd.R_below (by (with_reducible repeat (first | apply Kd.R_alloc | apply Kd.R_drewN | apply Kd.R_drew)); exact HO_8.out) hb); have n3_ := Aside0.mk (below_step HBa hb); clear HO_5; clear HO_7; clear HO_8; clear HB; have HO_5 := n0_; have HO_7 := n1_; have HO_8 := n2_; have HB := n3_; clear n0_ n1_ n2_ n3_; (try clear hb); (try clear hb2); (try clear hk); (try clear hi)) | (go_at_call 28; (with_reducible refine (impl_DnUnder.calls kj8 _ _ t338 _ _ t337 t354 _ ?side1 ?side2 ?side3 ?side4 A53.out).mono ?_); (case side1 => repeat (first | exact (Kd.R_reads' HO_8.out).2.2 | (with_reducible refine Kd.C_alloc ?_ _) | (with_reducible refine Kd.C_drewN ?_ _) | (with_reducible refine Kd.C_drew ?_))); (case side2 => exact (Kd.R_reads' HO_8.out).2.1); (case side3 => repeat (first | exact (Kd.R_reads' HO_7.out).2.2 | (with_reducible refine Kd.C_alloc ?_ _) | (with_reducible refine Kd.C_drewN ?_ _) | (with_reducible refine Kd.C_drew ?_))); (case side4 => exact (Kd.R_reads' HO_7.out).2.1); rintro e w59 ⟨rfl, hb⟩; have n0_ := Aside0.mk (Kd.R_below (by (with_reducible repeat (first | apply Kd.R_alloc | apply Kd.R_drewN | apply Kd.R_drew)); exact HO_5.out) hb); have n1_ := Aside0.mk (Kd.R_below (by (with_reducible repeat (first | apply Kd.R_alloc | apply Kd.R_drewN | apply Kd.R_drew)); exact HO_7.out) hb); have n2_ := Aside0.mk (Kd.R_below (by (with_reducible repeat (first | apply Kd.R_alloc | apply Kd.R_drewN | apply Kd.R_drew)); exact HO_8.out) hb); have n3_ := Aside0.mk (below_step HBa hb); clear HO_5; clear HO_7; clear HO_8; clear HB; have HO_5 := n0_; have HO_7 := n1_; have HO_8 := n2_; have HB := n3_; clear n0_ n1_ n2_ n3_; (try clear hb); (try clear hb2); (try clear hk); (try clear hi)))
            go_meet
            case rel => exact ⟨_, ((t343 != t354)), EZc, H', ⟨by have := HJ2.out; have := HJ8.out; first | omega | exact Nat.le_refl _⟩, ⟨by (with_reducible repeat (first | apply Kd.R_alloc | apply Kd.R_drewN | apply Kd.R_drew)); exact Kd.R_mono HO_5.out (fun _ hk => trivial)⟩, ⟨HBa⟩⟩
           ·replace c52 := Bool.eq_false_iff.mpr c52
            subst c52
            have H1 : (laws_FnUnder.j2 kj8 t331 (t343 != false)) = some r := by rw [if_neg (show ¬ (false = true) by decide)] at H; exact H
            clear H
            have H := H1
            clear H1
            have H' := Aside0.mk H
            clear H
            go_wp2_with (first | ((with_reducible refine gate_callee (f := 33) rfl ?_); refine goesL_ (some 54) rfl rfl Tryd.func33 (by kernel_rfl) rfl #[.slice Ao12 t337.length co12] rfl MPz ?_; (with_reducible refine (spec_DnRight.calls kj8 _ _ t337 true _ ?side1 ?side2 A40.out).mono ?_); (case side1 => repeat (first | exact (Kd.R_reads' HO_7.out).2.2 | (with_reducible refine Kd.C_alloc ?_ _) | (with_reducible refine Kd.C_drewN ?_ _) | (with_reducible refine Kd.C_drew ?_))); (case side2 => exact (Kd.R_reads' HO_7.out).2.1); rintro e w60 ⟨rfl, hb⟩; refine ⟨_, rfl, ?_⟩; have n0_ := Aside0.mk (Kd.R_below (by (with_reducible repeat (first | apply Kd.R_alloc | apply Kd.R_drewN | apply Kd.R_drew)); exact HO_5.out) hb); have n1_ := Aside0.mk (Kd.R_below (by (with_reducible repeat (first | apply Kd.R_alloc | apply Kd.R_drewN | apply Kd.R_drew)); exact HO_7.out) hb); have n2_ := Aside0.mk (Kd.R_below (by (with_reducible repeat (first | apply Kd.R_alloc | apply Kd.R_drewN | apply Kd.R_drew)); exact HO_8.out) hb); have n3_ := Aside0.mk (below_step HBa hb); clear HO_5; clear HO_7; clear HO_8; clear HB; have HO_5 := n0_; have HO_7 := n1_; have HO_8 := n2_; have HB := n3_; clear n0_ n1_ n2_ n3_; (try clear hb); (try clear hb2); (try clear hk); (try clear hi)) | (go_at_call 33; (with_reducible refine (spec_DnRight.calls kj8 _ _ t338 true _ ?side1 ?side2 A42.out).mono ?_); (case side1 => repeat (first | exact (Kd.R_reads' HO_8.out).2.2 | (with_reducible refine Kd.C_alloc ?_ _) | (with_reducible refine Kd.C_drewN ?_ _) | (with_reducible refine Kd.C_drew ?_))); (case side2 => exact (Kd.R_reads' HO_8.out).2.1); rintro e w61 ⟨rfl, hb⟩; have n0_ := Aside0.mk (Kd.R_below (by (with_reducible repeat (first | apply Kd.R_alloc | apply Kd.R_drewN | apply Kd.R_drew)); exact HO_5.out) hb); have n1_ := Aside0.mk (Kd.R_below (by (with_reducible repeat (first | apply Kd.R_alloc | apply Kd.R_drewN | apply Kd.R_drew)); exact HO_7.out) hb); have n2_ := Aside0.mk (Kd.R_below (by (with_reducible repeat (first | apply Kd.R_alloc | apply Kd.R_drewN | apply Kd.R_drew)); exact HO_8.out) hb); have n3_ := Aside0.mk (below_step HBa hb); clear HO_5; clear HO_7; clear HO_8; clear HB; have HO_5 := n0_; have HO_7 := n1_; have HO_8 := n2_; have HB := n3_; clear n0_ n1_ n2_ n3_; (try clear hb); (try clear hb2); (try clear hk); (try clear hi)) | (go_at_call 31; (with_reducible refine (impl_DnKey.calls kj8 _ _ t337 t351 _ ?side1 ?side2 A44.out).mono ?_); (case side1 => repeat (first | exact (Kd.R_reads' HO_7.out).2.2 | (with_reducible refine Kd.C_alloc ?_ _) | (with_reducible refine Kd.C_drewN ?_ _) | (with_reducible refine Kd.C_drew ?_))); (case side2 => exact (Kd.R_reads' HO_7.out).2.1); rintro e w62 ⟨rfl, hb⟩; have n0_ := Aside0.mk (Kd.R_below (by (with_reducible repeat (first | apply Kd.R_alloc | apply Kd.R_drewN | apply Kd.R_drew)); exact HO_5.out) hb); have n1_ := Aside0.mk (Kd.R_below (by (with_reducible repeat (first | apply Kd.R_alloc | apply Kd.R_drewN | apply Kd.R_drew)); exact HO_7.out) hb); have n2_ := Aside0.mk (Kd.R_below (by (with_reducible repeat (first | apply Kd.R_alloc | apply Kd.R_drewN | apply Kd.R_drew)); exact HO_8.out) hb); have n3_ := Aside0.mk (below_step HBa hb); clear HO_5; clear HO_7; clear HO_8; clear HB; have HO_5 := n0_; have HO_7 := n1_; have HO_8 := n2_; have HB := n3_; clear n0_ n1_ n2_ n3_; (try clear hb); (try clear hb2); (try clear hk); (try clear hi)) | (go_at_call 31; (with_reducible refine (impl_DnKey.calls kj8 _ _ t338 t352 _ ?side1 ?side2 A45.out).mono ?_); (case side1 => repeat (first | exact (Kd.R_reads' HO_8.out).2.2 | (with_reducible refine Kd.C_alloc ?_ _) | (with_reducible refine Kd.C_drewN ?_ _) | (with_reducible refine Kd.C_drew ?_))); (case side2 => exact (Kd.R_reads' HO_8.out).2.1); rintro e w63 ⟨rfl, hb⟩; have n0_ := Aside0.mk (Kd.R_below (by (with_reducible repeat (first | apply Kd.R_alloc | apply Kd.R_drewN | apply Kd.R_drew)); exact HO_5.out) hb); have n1_ := Aside0.mk (Kd.R_below (by (with_reducible repeat (first | apply Kd.R_alloc | apply Kd.R_drewN | apply Kd.R_drew)); exact HO_7.out) hb); have n2_ := Aside0.mk (Kd.R_below (by (with_reducible repeat (first | apply Kd.R_alloc | apply Kd.R_drewN | apply Kd.R_drew)); exact HO_8.out) hb); have n3_ := Aside0.mk (below_step HBa hb); clear HO_5; clear HO_7; clear HO_8; clear HB; have HO_5 := n0_; have HO_7 := n1_; have HO_8 := n2_; have HB := n3_; clear n0_ n1_ n2_ n3_; (try clear hb); (try clear hb2); (try clear hk); (try clear hi)) | (go_at_call 28; (with_reducible refine (impl_DnUnder.calls kj8 _ _ t337 _ _ t338 false _ ?side1 ?side2 ?side3 ?side4 A51.out).mono ?_); (case side1 => repeat (first | exact (Kd.R_reads' HO_7.out).2.2 | (with_reducible refine Kd.C_alloc ?_ _) | (with_reducible refine Kd.C_drewN ?_ _) | (with_reducible refine Kd.C_drew ?_))); (case side2 => exact (Kd.R_reads' HO_7.out).2.1); (case side3 => repeat (first | exact (Kd.R_reads' HO_8.out).2.2 | (with_reducible refine Kd.C_alloc ?_ _) | (with_reducible refine Kd.C_drewN ?_ _) | (with_reducible refine Kd.C_drew ?_))); (case side4 => exact (Kd.R_reads' HO_8.out).2.1); rintro e w64 ⟨rfl, hb⟩; have n0_ := Aside0.mk (Kd.R_below (by (with_reducible repeat (first | apply Kd.R_alloc | apply Kd.R_drewN | apply Kd.R_drew)); exact HO_5.out) hb); have n1_ := Aside0.mk (Kd.R_below (by (with_reducible repeat (first | apply Kd.R_alloc | apply Kd.R_drewN | apply Kd.R_drew)); exact HO_7.out) hb); have n2_ := Aside0.mk (Kd.R_below (by (with_reducible repeat (first | apply Kd.R_alloc | apply Kd.R_drewN | apply Kd.R_drew)); exact HO_8.out) hb); have n3_ := Aside0.mk (below_step HBa hb); clear HO_5; clear HO_7; clear HO_8; clear HB; have HO_5 := n0_; have HO_7 := n1_; have HO_8 := n2_; have HB := n3_; clear n0_ n1_ n2_ n3_; (try clear hb); (try clear hb2); (try clear hk); (try clear hi)))
            go_meet
            case rel => exact ⟨_, ((t343 != false)), EZc, H', ⟨by have := HJ2.out; have := HJ8.out; first | omega | exact Nat.le_refl _⟩, ⟨by (with_reducible repeat (first | apply Kd.R_alloc | apply Kd.R_drewN | apply Kd.R_drew)); exact Kd.R_mono HO_5.out (fun _ hk => trivial)⟩, ⟨HBa⟩⟩
         ·replace c43 := Bool.eq_false_iff.mpr c43
          subst c43
          have H1 : (laws_FnUnder.j2 kj8 t331 false) = some r := by rw [if_neg (show ¬ (false = true) by decide)] at H; exact H
          clear H
          have H := H1
          clear H1
          have H' := Aside0.mk H
          clear H
          go_wp2_with (first | ((with_reducible refine gate_callee (f := 33) rfl ?_); refine goesL_ (some 54) rfl rfl Tryd.func33 (by kernel_rfl) rfl #[.slice Ao12 t337.length co12] rfl MPz ?_; (with_reducible refine (spec_DnRight.calls kj8 _ _ t337 true _ ?side1 ?side2 A40.out).mono ?_); (case side1 => repeat (first | exact (Kd.R_reads' HO_7.out).2.2 | (with_reducible refine Kd.C_alloc ?_ _) | (with_reducible refine Kd.C_drewN ?_ _) | (with_reducible refine Kd.C_drew ?_))); (case side2 => exact (Kd.R_reads' HO_7.out).2.1); rintro e w65 ⟨rfl, hb⟩; refine ⟨_, rfl, ?_⟩; have n0_ := Aside0.mk (Kd.R_below (by (with_reducible repeat (first | apply Kd.R_alloc | apply Kd.R_drewN | apply Kd.R_drew)); exact HO_5.out) hb); have n1_ := Aside0.mk (Kd.R_below (by (with_reducible repeat (first | apply Kd.R_alloc | apply Kd.R_drewN | apply Kd.R_drew)); exact HO_7.out) hb); have n2_ := Aside0.mk (Kd.R_below (by (with_reducible repeat (first | apply Kd.R_alloc | apply Kd.R_drewN | apply Kd.R_drew)); exact HO_8.out) hb); have n3_ := Aside0.mk (below_step HBa hb); clear HO_5; clear HO_7; clear HO_8; clear HB; have HO_5 := n0_; have HO_7 := n1_; have HO_8 := n2_; have HB := n3_; clear n0_ n1_ n2_ n3_; (try clear hb); (try clear hb2); (try clear hk); (try clear hi)) | (go_at_call 33; (with_reducible refine (spec_DnRight.calls kj8 _ _ t338 false _ ?side1 ?side2 A42.out).mono ?_); (case side1 => repeat (first | exact (Kd.R_reads' HO_8.out).2.2 | (with_reducible refine Kd.C_alloc ?_ _) | (with_reducible refine Kd.C_drewN ?_ _) | (with_reducible refine Kd.C_drew ?_))); (case side2 => exact (Kd.R_reads' HO_8.out).2.1); rintro e w66 ⟨rfl, hb⟩; have n0_ := Aside0.mk (Kd.R_below (by (with_reducible repeat (first | apply Kd.R_alloc | apply Kd.R_drewN | apply Kd.R_drew)); exact HO_5.out) hb); have n1_ := Aside0.mk (Kd.R_below (by (with_reducible repeat (first | apply Kd.R_alloc | apply Kd.R_drewN | apply Kd.R_drew)); exact HO_7.out) hb); have n2_ := Aside0.mk (Kd.R_below (by (with_reducible repeat (first | apply Kd.R_alloc | apply Kd.R_drewN | apply Kd.R_drew)); exact HO_8.out) hb); have n3_ := Aside0.mk (below_step HBa hb); clear HO_5; clear HO_7; clear HO_8; clear HB; have HO_5 := n0_; have HO_7 := n1_; have HO_8 := n2_; have HB := n3_; clear n0_ n1_ n2_ n3_; (try clear hb); (try clear hb2); (try clear hk); (try clear hi)))
          go_meet
          case rel => exact ⟨_, (false), EZc, H', ⟨by have := HJ2.out; have := HJ8.out; first | omega | exact Nat.le_refl _⟩, ⟨by (with_reducible repeat (first | apply Kd.R_alloc | apply Kd.R_drewN | apply Kd.R_drew)); exact Kd.R_mono HO_5.out (fun _ hk => trivial)⟩, ⟨HBa⟩⟩
        ·replace c41 := Bool.eq_false_iff.mpr c41
         subst c41
         have H1 : (laws_FnUnder.j2 kj8 t331 false) = some r := by rw [if_neg (show ¬ (false = true) by decide)] at H; exact H
         clear H
         have H := H1
         clear H1
         have H' := Aside0.mk H
         clear H
         go_wp2_with (first | ((with_reducible refine gate_callee (f := 33) rfl ?_); refine goesL_ (some 54) rfl rfl Tryd.func33 (by kernel_rfl) rfl #[.slice Ao12 t337.length co12] rfl MPz ?_; (with_reducible refine (spec_DnRight.calls kj8 _ _ t337 false _ ?side1 ?side2 A40.out).mono ?_); (case side1 => repeat (first | exact (Kd.R_reads' HO_7.out).2.2 | (with_reducible refine Kd.C_alloc ?_ _) | (with_reducible refine Kd.C_drewN ?_ _) | (with_reducible refine Kd.C_drew ?_))); (case side2 => exact (Kd.R_reads' HO_7.out).2.1); rintro e w67 ⟨rfl, hb⟩; refine ⟨_, rfl, ?_⟩; have n0_ := Aside0.mk (Kd.R_below (by (with_reducible repeat (first | apply Kd.R_alloc | apply Kd.R_drewN | apply Kd.R_drew)); exact HO_5.out) hb); have n1_ := Aside0.mk (Kd.R_below (by (with_reducible repeat (first | apply Kd.R_alloc | apply Kd.R_drewN | apply Kd.R_drew)); exact HO_7.out) hb); have n2_ := Aside0.mk (Kd.R_below (by (with_reducible repeat (first | apply Kd.R_alloc | apply Kd.R_drewN | apply Kd.R_drew)); exact HO_8.out) hb); have n3_ := Aside0.mk (below_step HBa hb); clear HO_5; clear HO_7; clear HO_8; clear HB; have HO_5 := n0_; have HO_7 := n1_; have HO_8 := n2_; have HB := n3_; clear n0_ n1_ n2_ n3_; (try clear hb); (try clear hb2); (try clear hk); (try clear hi)))
         go_meet
         case rel => exact ⟨_, (false), EZc, H', ⟨by have := HJ2.out; have := HJ8.out; first | omega | exact Nat.le_refl _⟩, ⟨by (with_reducible repeat (first | apply Kd.R_alloc | apply Kd.R_drewN | apply Kd.R_drew)); exact Kd.R_mono HO_5.out (fun _ hk => trivial)⟩, ⟨HBa⟩⟩
       case rest =>
        clear HC39
        try clear c1
        try clear c2
        try clear p2
        try clear c3
        try clear c4
        try clear c4b0
        try clear c4b1
        try clear c5
        try clear c17
        try clear c17b0
        try clear c17b1
        try clear c17b2
        try clear c23
        try clear c23b0
        try clear c23b1
        try clear c23b2
        try clear c25
        try clear c26
        try clear c27
        try clear c28
        try clear c29
        try clear c33
        try clear c38
        try clear c41
        try clear c43
        try clear c46
        try clear c46b0
        try clear c46b1
        try clear c46b2
        try clear c52
        try clear p2
        obtain ⟨kq, x79_38, rfl, HA, HJ38, HO_5, HB⟩ := hcut
        cases kq with
        | zero => exact absurd HA.out (by simp [laws_FnUnder.j2])
        | succ kj38 =>
         have H := HA.out
         clear HA
         simp only [laws_FnUnder.j2] at H
         by_cases c68 : x79_38 = true
         ·subst c68
          have H1 : (some false) = some r := by rw [if_pos rfl] at H; exact H
          clear H
          have H := H1
          clear H1
          obtain rfl := Option.some.inj H
          go_wp2
          go_ret
          exact ⟨EZa, HBa⟩
         ·replace c68 := Bool.eq_false_iff.mpr c68
          subst c68
          have H1 : (laws_FnUnder.l0 kj38 t331 0) = some r := by rw [if_neg (show ¬ (false = true) by decide)] at H; exact H
          clear H
          have H := H1
          clear H1
          have H' := Aside0.mk H
          clear H
          go_wp2
          go_loopg [10] kj38 (fun kq v10 w' => ∃ (x10_4 : Int), v10 = .int .i64 x10_4 ∧ Aside0 (laws_FnUnder.l0 kq t331 x10_4 = some r) ∧ Aside0 (kq ≤ kj38) ∧ Aside0 (Kd.R k42 42 w' w.heap.size (fun _ => True) v333 t331) ∧ Aside0 (Below w.heap.size w w'))
          case atStart => exact ⟨(0), EZc, H', ⟨Nat.le_refl _⟩, ⟨by (with_reducible repeat (first | apply Kd.R_alloc | apply Kd.R_drewN | apply Kd.R_drew)); exact HO_5.out⟩, ⟨HBa⟩⟩
          case round =>
           clear H'
           try clear c1
           try clear c2
           try clear p2
           try clear c3
           try clear c4
           try clear c4b0
           try clear c4b1
           try clear c5
           try clear c6
           try clear c17
           try clear c17b0
           try clear c17b1
           try clear c17b2
           try clear c23
           try clear c23b0
           try clear c23b1
           try clear c23b2
           try clear c25
           try clear c26
           try clear c27
           try clear c28
           try clear c29
           try clear c33
           try clear c38
           try clear c41
           try clear c43
           try clear c46
           try clear c46b0
           try clear c46b1
           try clear c46b2
           try clear c52
           try clear c68
           try clear p2
           obtain ⟨x10_4, rfl, HA, HK4, HO_5, HB⟩ := hrel
           cases gk with
           | zero => exact absurd HA.out (by simp [laws_FnUnder.l0])
           | succ k4 =>
            have H := HA.out
            clear HA
            simp only [laws_FnUnder.l0] at H
            have HC69 := Aside0.mk H
            clear H
            go_upto_region 11 with (fail)
            go_cut [87] (fun v87 wc => ∃ (kq : Nat) (x87_68 : Bool), v87 = .bool x87_68 ∧ Aside0 (laws_FnUnder.j4 kq t331 x10_4 x87_68 = some r) ∧ Aside0 (kq ≤ k4) ∧ Aside0 (Kd.R k42 42 wc w.heap.size (fun _ => True) v333 t331) ∧ Aside0 (Below w.heap.size w wc))
            case first =>
             have H := HC69.out
             clear HC69
             by_cases c70 : x10_4 ≤ (t331.length : Int)
             ·rw [if_pos c70] at H
              have c70b0 : decide (x10_4 ≤ (t331.length : Int)) = true := decide_eq_true c70
              clear c70
              (first | rw [c70b0] | rw [c70v0] | (simp only [i64_w, i32_w]; rw [c70b0]) | (simp only [i64_w, i32_w]; rw [c70v0]) | skip)
              replace H := Option.bind_eq_some_iff.mp H
              obtain ⟨t355, A710, H⟩ := H
              replace H : (laws_FnUnder.j4 k4 t331 x10_4 t355) = some r := H
              have A71 := Aside0.mk A710
              clear A710
              have H' := Aside0.mk H
              clear H
              obtain ⟨Ao72, co72, eo72⟩ := Kd.R_slice HO_5.out
              subst eo72
              go_wp2_with (first | (go_at_call 33; (with_reducible refine (spec_DnRight.calls k4 _ _ t331 t355 _ ?side1 ?side2 A71.out).mono ?_); (case side1 => repeat (first | exact (Kd.R_reads' HO_5.out).2.2 | (with_reducible refine Kd.C_alloc ?_ _) | (with_reducible refine Kd.C_drewN ?_ _) | (with_reducible refine Kd.C_drew ?_))); (case side2 => exact (Kd.R_reads' HO_5.out).2.1); rintro e w73 ⟨rfl, hb⟩; have n0_ := Aside0.mk (Kd.R_below (by (with_reducible repeat (first | apply Kd.R_alloc | apply Kd.R_drewN | apply Kd.R_drew)); exact HO_5.out) hb); have n1_ := Aside0.mk (below_step HBa hb); clear HO_5; clear HB; have HO_5 := n0_; have HB := n1_; clear n0_ n1_; (try clear hb); (try clear hb2); (try clear hk); (try clear hi)))
              go_meet
              case rel => exact ⟨_, (t355), EZc, H', ⟨by have := HJ2.out; have := HJ8.out; have := HJ38.out; have := HK4.out; first | omega | exact Nat.le_refl _⟩, ⟨by (with_reducible repeat (first | apply Kd.R_alloc | apply Kd.R_drewN | apply Kd.R_drew)); exact HO_5.out⟩, ⟨HBa⟩⟩
             ·rw [if_neg c70] at H
              have c70b0 : decide (x10_4 ≤ (t331.length : Int)) = false := decide_eq_false c70
              clear c70
              (first | rw [c70b0] | rw [c70v0] | (simp only [i64_w, i32_w]; rw [c70b0]) | (simp only [i64_w, i32_w]; rw [c70v0]) | skip)
              have H' := Aside0.mk H
              clear H
              obtain ⟨Ao74, co74, eo74⟩ := Kd.R_slice HO_5.out
              subst eo74
              go_wp2
              go_meet
              case rel => exact ⟨_, (false), EZc, H', ⟨by have := HJ2.out; have := HJ8.out; have := HJ38.out; have := HK4.out; first | omega | exact Nat.le_refl _⟩, ⟨by (with_reducible repeat (first | apply Kd.R_alloc | apply Kd.R_drewN | apply Kd.R_drew)); exact HO_5.out⟩, ⟨HBa⟩⟩
            case rest =>
             clear HC69
             try clear c1
             try clear c2
             try clear p2
             try clear c3
             try clear c4
             try clear c4b0
             try clear c4b1
             try clear c5
             try clear c6
             try clear c7
             try clear c17
             try clear c17b0
             try clear c17b1
             try clear c17b2
             try clear c23
             try clear c23b0
             try clear c23b1
             try clear c23b2
             try clear c25
             try clear c26
             try clear c27
             try clear c28
             try clear c29
             try clear c33
             try clear c38
             try clear c41
             try clear c43
             try clear c46
             try clear c46b0
             try clear c46b1
             try clear c46b2
             try clear c52
             try clear c68
             try clear c70
             try clear c70b0
             try clear p2
             obtain ⟨kq, x87_68, rfl, HA, HJ68, HO_5, HB⟩ := hcut
             cases kq with
             | zero => exact absurd HA.out (by simp [laws_FnUnder.j4])
             | succ kj68 =>
              have H := HA.out
              clear HA
              simp only [laws_FnUnder.j4] at H
              by_cases c75 : x87_68 = true
              ·subst c75
               have H1 : (if 0 ≤ x10_4 then (if x10_4 ≤ (t331.length : Int) then ((impl_DnUnder.f kj68 t331 (t331.drop (x10_4 : Int).toNat)).bind fun t360 => (if t360 = true then (laws_FnUnder.l0 kj68 t331 (wrap64 (x10_4 + 1))) else (some false))) else (none)) else (none)) = some r := by rw [if_pos rfl] at H; exact H
               clear H
               have H := H1
               clear H1
               by_cases c76 : 0 ≤ x10_4
               ·rw [if_pos c76] at H
                have c76b0 := eq_true c76
                have c76b1 : decide (0 ≤ x10_4) = true := decide_eq_true c76
                clear c76
                by_cases c77 : x10_4 ≤ (t331.length : Int)
                ·rw [if_pos c77] at H
                 have c77b0 := eq_true c77
                 have c77b1 : decide (x10_4 ≤ (t331.length : Int)) = true := decide_eq_true c77
                 clear c77
                 obtain ⟨y356, hy356⟩ : ∃ y_ : List (S42), y_ = (t331.drop (x10_4 : Int).toNat) := ⟨_, rfl⟩
                 replace H : ((impl_DnUnder.f kj68 t331 y356).bind fun t360 => (if t360 = true then (laws_FnUnder.l0 kj68 t331 (wrap64 (x10_4 + 1))) else (some false))) = some r := by first | (rw [hy356]; with_reducible exact H) | (have H2_ := (Option.bind_some _ _).symm.trans H; rw [hy356]; with_reducible exact H2_) | (have H2_ := (Option.bind_some _ _).symm.trans H; with_reducible exact H2_) | with_reducible exact H | (rw [hy356]; exact H) | exact H
                 have Ny356 := Aside0.mk hy356
                 clear hy356
                 replace H := Option.bind_eq_some_iff.mp H
                 obtain ⟨t360, A780, H⟩ := H
                 replace H : (if t360 = true then (laws_FnUnder.l0 kj68 t331 (wrap64 (x10_4 + 1))) else (some false)) = some r := H
                 have A78 := Aside0.mk A780
                 clear A780
                 by_cases c79 : t360 = true
                 ·subst c79
                  have H1 : (laws_FnUnder.l0 kj68 t331 (wrap64 (x10_4 + 1))) = some r := by rw [if_pos rfl] at H; exact H
                  clear H
                  have H := H1
                  clear H1
                  have H' := Aside0.mk H
                  clear H
                  obtain ⟨Ao81, co81, eo81⟩ := Kd.R_slice HO_5.out
                  subst eo81
                  have q80 : (x10_4 : Int) ≤ ((t331.length : Int) : Int) := ODz
                  obtain ⟨i080, hi080, _, hsz80, _⟩ := info_parts info42
                  have hroom80 : t331.length ≤ co81 := (Kd.R_reads' HO_5.out).2.1
                  have hC80 : Kd.C k42 _ Ao81 t331.length t331 := (Kd.R_reads' HO_5.out).2.2
                  have q080 : (0 : Int) ≤ (x10_4 : Int) := ODz
                  have hcut80 := cut_from (P := Tryd.prog) 32 42 .i64 Tryd.underlying32 hi080 2 hsz80 Ao81 t331.length co81 x10_4 q080 q80
                  have hr80 := Kd.C_drop (m := (x10_4 : Int).toNat) (c := co81) hC80 (by omega) hroom80
                  obtain ⟨A80, hA80⟩ : ∃ A1, A1 = (if co81 = (x10_4 : Int).toNat then Ao81 else (Ao81 : Option Addr).map (·.add ((x10_4 : Int).toNat * 2))) := ⟨_, rfl⟩
                  obtain ⟨c80, hc80⟩ : ∃ c1, c1 = co81 - (x10_4 : Int).toNat := ⟨_, rfl⟩
                  have hy80 : y356.length = t331.length - (x10_4 : Int).toNat := (by rw [Ny356.out, List.length_drop] <;> omega)
                  rw [show (t331).drop (x10_4 : Int).toNat = y356 from Ny356.out.symm] at hr80
                  replace hr80 : Kd.C k42 _ A80 y356.length y356 := (by rw [hA80]; exact hr80)
                  rw [← hy80, ← hA80, ← hc80] at hcut80
                  have HR359 := Aside0.mk hr80
                  have HC359 := Aside0.mk (show y356.length ≤ c80 from by rw [hy80, hc80]; exact Nat.sub_le_sub_right hroom80 _)
                  clear hr80 hC80 hroom80 hi080 hsz80 hc80
                  have KY80 := Aside0.mk hy80
                  have KA80 := Aside0.mk hA80
                  clear hy80 hA80
                  have KL80 := Aside0.mk (show (x10_4 : Int).toNat ≤ t331.length from by omega)
                  replace q80 := eq_true q80
                  go_wp2_with (first | ((with_reducible refine gate_callee (f := 28) rfl ?_); refine goesL_ (some 94) rfl rfl Tryd.func28 (by kernel_rfl) rfl #[.slice Ao81 t331.length co81, .slice A80 y356.length c80] rfl MPz ?_; (with_reducible refine (impl_DnUnder.calls kj68 _ _ t331 _ _ y356 true _ ?side1 ?side2 ?side3 ?side4 A78.out).mono ?_); (case side1 => repeat (first | exact (Kd.R_reads' HO_5.out).2.2 | (with_reducible refine Kd.C_alloc ?_ _) | (with_reducible refine Kd.C_drewN ?_ _) | (with_reducible refine Kd.C_drew ?_))); (case side2 => exact (Kd.R_reads' HO_5.out).2.1); (case side3 => repeat (first | exact (by repeat (first | (with_reducible exact HR359.out) | (with_reducible refine Kd.C_alloc ?_ _) | (with_reducible refine Kd.C_drewN ?_ _) | (with_reducible refine Kd.C_drew ?_) | exact HR359.out)) | (with_reducible refine Kd.C_alloc ?_ _) | (with_reducible refine Kd.C_drewN ?_ _) | (with_reducible refine Kd.C_drew ?_))); (case side4 => exact HC359.out); rintro e w82 ⟨rfl, hb⟩; refine ⟨_, rfl, ?_⟩; have n0_ := Aside0.mk (Kd.R_below (by (with_reducible repeat (first | apply Kd.R_alloc | apply Kd.R_drewN | apply Kd.R_drew)); exact HO_5.out) hb); have n1_ := Aside0.mk (Kd.C_below (by repeat (first | (with_reducible exact HR359.out) | (with_reducible refine Kd.C_alloc ?_ _) | (with_reducible refine Kd.C_drewN ?_ _) | (with_reducible refine Kd.C_drew ?_) | exact HR359.out)) hb); have n2_ := Aside0.mk (below_step HBa hb); clear HO_5; clear HR359; clear HB; have HO_5 := n0_; have HR359 := n1_; have HB := n2_; clear n0_ n1_ n2_; (try clear hb); (try clear hb2); (try clear hk); (try clear hi)))
                  go_roundg kj68
                  case measure => have := HJ2.out; have := HJ8.out; have := HJ38.out; have := HK4.out; have := HJ68.out; omega
                  case rel => exact ⟨(wrap64 (x10_4 + 1)), EZc, H', ⟨by have := HJ2.out; have := HJ8.out; have := HJ38.out; have := HK4.out; have := HJ68.out; omega⟩, ⟨by (with_reducible repeat (first | apply Kd.R_alloc | apply Kd.R_drewN | apply Kd.R_drew)); exact HO_5.out⟩, ⟨HBa⟩⟩
                 ·replace c79 := Bool.eq_false_iff.mpr c79
                  subst c79
                  have H1 : (some false) = some r := by rw [if_neg (show ¬ (false = true) by decide)] at H; exact H
                  clear H
                  have H := H1
                  clear H1
                  obtain rfl := Option.some.inj H
                  obtain ⟨Ao84, co84, eo84⟩ := Kd.R_slice HO_5.out
                  subst eo84
                  have q83 : (x10_4 : Int) ≤ ((t331.length : Int) : Int) := ODz
                  obtain ⟨i083, hi083, _, hsz83, _⟩ := info_parts info42
                  have hroom83 : t331.length ≤ co84 := (Kd.R_reads' HO_5.out).2.1
                  have hC83 : Kd.C k42 _ Ao84 t331.length t331 := (Kd.R_reads' HO_5.out).2.2
                  have q083 : (0 : Int) ≤ (x10_4 : Int) := ODz
                  have hcut83 := cut_from (P := Tryd.prog) 32 42 .i64 Tryd.underlying32 hi083 2 hsz83 Ao84 t331.length co84 x10_4 q083 q83
                  have hr83 := Kd.C_drop (m := (x10_4 : Int).toNat) (c := co84) hC83 (by omega) hroom83
                  obtain ⟨A83, hA83⟩ : ∃ A1, A1 = (if co84 = (x10_4 : Int).toNat then Ao84 else (Ao84 : Option Addr).map (·.add ((x10_4 : Int).toNat * 2))) := ⟨_, rfl⟩
                  obtain ⟨c83, hc83⟩ : ∃ c1, c1 = co84 - (x10_4 : Int).toNat := ⟨_, rfl⟩
                  have hy83 : y356.length = t331.length - (x10_4 : Int).toNat := (by rw [Ny356.out, List.length_drop] <;> omega)
                  rw [show (t331).drop (x10_4 : Int).toNat = y356 from Ny356.out.symm] at hr83
                  replace hr83 : Kd.C k42 _ A83 y356.length y356 := (by rw [hA83]; exact hr83)
                  rw [← hy83, ← hA83, ← hc83] at hcut83
                  have HR359 := Aside0.mk hr83
                  have HC359 := Aside0.mk (show y356.length ≤ c83 from by rw [hy83, hc83]; exact Nat.sub_le_sub_right hroom83 _)
                  clear hr83 hC83 hroom83 hi083 hsz83 hc83
                  have KY83 := Aside0.mk hy83
                  have KA83 := Aside0.mk hA83
                  clear hy83 hA83
                  have KL83 := Aside0.mk (show (x10_4 : Int).toNat ≤ t331.length from by omega)
                  replace q83 := eq_true q83
                  go_wp2_with (first | ((with_reducible refine gate_callee (f := 28) rfl ?_); refine goesL_ (some 94) rfl rfl Tryd.func28 (by kernel_rfl) rfl #[.slice Ao84 t331.length co84, .slice A83 y356.length c83] rfl MPz ?_; (with_reducible refine (impl_DnUnder.calls kj68 _ _ t331 _ _ y356 false _ ?side1 ?side2 ?side3 ?side4 A78.out).mono ?_); (case side1 => repeat (first | exact (Kd.R_reads' HO_5.out).2.2 | (with_reducible refine Kd.C_alloc ?_ _) | (with_reducible refine Kd.C_drewN ?_ _) | (with_reducible refine Kd.C_drew ?_))); (case side2 => exact (Kd.R_reads' HO_5.out).2.1); (case side3 => repeat (first | exact (by repeat (first | (with_reducible exact HR359.out) | (with_reducible refine Kd.C_alloc ?_ _) | (with_reducible refine Kd.C_drewN ?_ _) | (with_reducible refine Kd.C_drew ?_) | exact HR359.out)) | (with_reducible refine Kd.C_alloc ?_ _) | (with_reducible refine Kd.C_drewN ?_ _) | (with_reducible refine Kd.C_drew ?_))); (case side4 => exact HC359.out); rintro e w85 ⟨rfl, hb⟩; refine ⟨_, rfl, ?_⟩; have n0_ := Aside0.mk (Kd.R_below (by (with_reducible repeat (first | apply Kd.R_alloc | apply Kd.R_drewN | apply Kd.R_drew)); exact HO_5.out) hb); have n1_ := Aside0.mk (Kd.C_below (by repeat (first | (with_reducible exact HR359.out) | (with_reducible refine Kd.C_alloc ?_ _) | (with_reducible refine Kd.C_drewN ?_ _) | (with_reducible refine Kd.C_drew ?_) | exact HR359.out)) hb); have n2_ := Aside0.mk (below_step HBa hb); clear HO_5; clear HR359; clear HB; have HO_5 := n0_; have HR359 := n1_; have HB := n2_; clear n0_ n1_ n2_; (try clear hb); (try clear hb2); (try clear hk); (try clear hi)))
                  go_ret
                  exact ⟨EZa, HBa⟩
                ·rw [if_neg c77] at H
                 exact absurd H (by simp)
               ·rw [if_neg c76] at H
                exact absurd H (by simp)
              ·replace c75 := Bool.eq_false_iff.mpr c75
               subst c75
               have H1 : (some true) = some r := by rw [if_neg (show ¬ (false = true) by decide)] at H; exact H
               clear H
               have H := H1
               clear H1
               obtain rfl := Option.some.inj H
               go_wp2
               go_ret
               exact ⟨EZa, HBa⟩
def laws_FnUnder.Pure : Prop := ∀ (l0 : List Int) (l1 : List Int), (l0.length * 1 ≤ 140737488351232 ∧ ∀ y_ ∈ l0, (Lit.int .u8 y_).wf = true) → (l1.length * 1 ≤ 140737488351232 ∧ ∀ y_ ∈ l1, (Lit.int .u8 y_).wf = true) → ∃ k, laws_FnUnder.f k l0 l1 = some true
end Go.Proofs.YtdbboelacgehoaaDoor.PFnUnder
