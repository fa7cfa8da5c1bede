-- Laid by this session's own program out of the translation; Lean checks it.
import Derived.Test.YtmkeigielncpjaaGreatDoorQFnFilterx0
import Derived.Test.YtmkeigielncpjaaGreatDoorQFnFilterx6
namespace Go.Proofs.YtmkeigielncpjaaGreatDoor.PFnFilter
open Go.RowKit Go.Proofs.YtmkeigielncpjaaGreatDoorW.PrintWords Go.Proofs.YtmkeigielncpjaaGreatDoorW.PrintLast Go.Proofs.YtmkeigielncpjaaGreatDoorW.PrintMore
attribute [local go_sem] max2_int min2_int max_two min_two max_three min_three max_four min_four   -- for this text's walks alone
set_option linter.unusedVariables false
set_option linter.unusedSimpArgs false
mutual
def Qs.j0 : Nat → List (S64) → Int → ByteArray → Int → ByteArray → ByteArray → Int → Option (ByteArray × Int)
 | 0, _, _, _, _, _, _, _ => none
 | k + 1, x0, x1, x8, x166000, x166001, x166002, x166003 => Qs.l0 k x0 x1 x8 x166003
def Qs.l0 : Nat → List (S64) → Int → ByteArray → Int → Option (ByteArray × Int)
 | 0, _, _, _, _ => none
 | k + 1, x0, x1, x8, x9 => if x9 > 0 then ((Qs.f k x0 x1).bind fun bt167 => (if x8.size + bt167.1.size ≤ 9223372036854775807 then (Qs.l0 k x0 bt167.2 (x8 ++ bt167.1) (wrap64 (x9 - 1))) else (none))) else (if x8.size + 1 ≤ 9223372036854775807 then (some (x8 ++ (⟨#[41]⟩ : ByteArray), x1)) else (none))
def Qs.f : Nat → List (S64) → Int → Option (ByteArray × Int)
 | 0, _, _ => none
 | k + 1, l0, a1 => if 0 ≤ a1 then (if a1 < (l0.length : Int) then ((Qm.f k ((rd_T64 l0 a1).f2)).bind fun t166 => (if ((rd_T64 l0 a1).f0) = 1 then (Qs.j0 k l0 (wrap64 (a1 + 1)) (⟨#[40, 38]⟩ : ByteArray) ((rd_T64 l0 a1).f0) ((rd_T64 l0 a1).f1) ((rd_T64 l0 a1).f2) ((rd_T64 l0 a1).f3)) else (if ((rd_T64 l0 a1).f0) = 2 then (Qs.j0 k l0 (wrap64 (a1 + 1)) (⟨#[40, 124]⟩ : ByteArray) ((rd_T64 l0 a1).f0) ((rd_T64 l0 a1).f1) ((rd_T64 l0 a1).f2) ((rd_T64 l0 a1).f3)) else (if ((rd_T64 l0 a1).f0) = 3 then (Qs.j0 k l0 (wrap64 (a1 + 1)) (⟨#[40, 33]⟩ : ByteArray) ((rd_T64 l0 a1).f0) ((rd_T64 l0 a1).f1) ((rd_T64 l0 a1).f2) ((rd_T64 l0 a1).f3)) else (if ((rd_T64 l0 a1).f0) = 4 then (if 1 + ((rd_T64 l0 a1).f1).size ≤ 9223372036854775807 then (if ((⟨#[40]⟩ : ByteArray) ++ ((rd_T64 l0 a1).f1)).size + 1 ≤ 9223372036854775807 then (if (((⟨#[40]⟩ : ByteArray) ++ ((rd_T64 l0 a1).f1)) ++ (⟨#[61]⟩ : ByteArray)).size + t166.size ≤ 9223372036854775807 then (if ((((⟨#[40]⟩ : ByteArray) ++ ((rd_T64 l0 a1).f1)) ++ (⟨#[61]⟩ : ByteArray)) ++ t166).size + 1 ≤ 9223372036854775807 then (some (((((⟨#[40]⟩ : ByteArray) ++ ((rd_T64 l0 a1).f1)) ++ (⟨#[61]⟩ : ByteArray)) ++ t166) ++ (⟨#[41]⟩ : ByteArray), wrap64 (a1 + 1))) else (none)) else (none)) else (none)) else (none)) else (if ((rd_T64 l0 a1).f0) = 5 then (if 1 + ((rd_T64 l0 a1).f1).size ≤ 9223372036854775807 then (if ((⟨#[40]⟩ : ByteArray) ++ ((rd_T64 l0 a1).f1)).size + 3 ≤ 9223372036854775807 then (some (((⟨#[40]⟩ : ByteArray) ++ ((rd_T64 l0 a1).f1)) ++ (⟨#[61, 42, 41]⟩ : ByteArray), wrap64 (a1 + 1))) else (none)) else (none)) else (if ((rd_T64 l0 a1).f0) = 6 then (if 1 + ((rd_T64 l0 a1).f1).size ≤ 9223372036854775807 then (if ((⟨#[40]⟩ : ByteArray) ++ ((rd_T64 l0 a1).f1)).size + 1 ≤ 9223372036854775807 then (if (((⟨#[40]⟩ : ByteArray) ++ ((rd_T64 l0 a1).f1)) ++ (⟨#[61]⟩ : ByteArray)).size + t166.size ≤ 9223372036854775807 then (if ((((⟨#[40]⟩ : ByteArray) ++ ((rd_T64 l0 a1).f1)) ++ (⟨#[61]⟩ : ByteArray)) ++ t166).size + 2 ≤ 9223372036854775807 then (some (((((⟨#[40]⟩ : ByteArray) ++ ((rd_T64 l0 a1).f1)) ++ (⟨#[61]⟩ : ByteArray)) ++ t166) ++ (⟨#[42, 41]⟩ : ByteArray), wrap64 (a1 + 1))) else (none)) else (none)) else (none)) else (none)) else (if ((rd_T64 l0 a1).f0) = 7 then (if 1 + ((rd_T64 l0 a1).f1).size ≤ 9223372036854775807 then (if ((⟨#[40]⟩ : ByteArray) ++ ((rd_T64 l0 a1).f1)).size + 2 ≤ 9223372036854775807 then (if (((⟨#[40]⟩ : ByteArray) ++ ((rd_T64 l0 a1).f1)) ++ (⟨#[62, 61]⟩ : ByteArray)).size + t166.size ≤ 9223372036854775807 then (if ((((⟨#[40]⟩ : ByteArray) ++ ((rd_T64 l0 a1).f1)) ++ (⟨#[62, 61]⟩ : ByteArray)) ++ t166).size + 1 ≤ 9223372036854775807 then (some (((((⟨#[40]⟩ : ByteArray) ++ ((rd_T64 l0 a1).f1)) ++ (⟨#[62, 61]⟩ : ByteArray)) ++ t166) ++ (⟨#[41]⟩ : ByteArray), wrap64 (a1 + 1))) else (none)) else (none)) else (none)) else (none)) else (if 1 + ((rd_T64 l0 a1).f1).size ≤ 9223372036854775807 then (if ((⟨#[40]⟩ : ByteArray) ++ ((rd_T64 l0 a1).f1)).size + 2 ≤ 9223372036854775807 then (if (((⟨#[40]⟩ : ByteArray) ++ ((rd_T64 l0 a1).f1)) ++ (⟨#[60, 61]⟩ : ByteArray)).size + t166.size ≤ 9223372036854775807 then (if ((((⟨#[40]⟩ : ByteArray) ++ ((rd_T64 l0 a1).f1)) ++ (⟨#[60, 61]⟩ : ByteArray)) ++ t166).size + 1 ≤ 9223372036854775807 then (some (((((⟨#[40]⟩ : ByteArray) ++ ((rd_T64 l0 a1).f1)) ++ (⟨#[60, 61]⟩ : ByteArray)) ++ t166) ++ (⟨#[41]⟩ : ByteArray), wrap64 (a1 + 1))) else (none)) else (none)) else (none)) else (none)))))))))) else (none)) else (none)
end
theorem Qs.mono_l : ∀ k, (∀ y0 y1, LeO (Qs.f k y0 y1) (Qs.f (k + 1) y0 y1)) ∧ (∀ y0 y1 y2 y3 y4 y5 y6, LeO (Qs.j0 k y0 y1 y2 y3 y4 y5 y6) (Qs.j0 (k + 1) y0 y1 y2 y3 y4 y5 y6)) ∧ (∀ y0 y1 y2 y3, LeO (Qs.l0 k y0 y1 y2 y3) (Qs.l0 (k + 1) y0 y1 y2 y3))
 | 0 => ⟨fun _ _ r h => by simp [Qs.f] at h, fun _ _ _ _ _ _ _ r h => by simp [Qs.j0] at h, fun _ _ _ _ r h => by simp [Qs.l0] at h⟩
 | k + 1 => by
  obtain ⟨ih0, ih1, ih2⟩ := Qs.mono_l k
  refine ⟨?_, ?_, ?_⟩
  ·intro y0 y1
   unfold Qs.f
   with_reducible repeat' first | exact ih0 _ _ | exact ih1 _ _ _ _ _ _ _ | exact ih2 _ _ _ _ | exact Qm.mono _ _ | exact LeO.refl _ | exact LeO.none _ | refine LeO.ite ?_ ?_ | refine LeO.bind ?_ (fun _ => ?_)
  ·intro y0 y1 y2 y3 y4 y5 y6
   unfold Qs.j0
   with_reducible repeat' first | exact ih0 _ _ | exact ih1 _ _ _ _ _ _ _ | exact ih2 _ _ _ _ | exact Qm.mono _ _ | exact LeO.refl _ | exact LeO.none _ | refine LeO.ite ?_ ?_ | refine LeO.bind ?_ (fun _ => ?_)
  ·intro y0 y1 y2 y3
   unfold Qs.l0
   with_reducible repeat' first | exact ih0 _ _ | exact ih1 _ _ _ _ _ _ _ | exact ih2 _ _ _ _ | exact Qm.mono _ _ | exact LeO.refl _ | exact LeO.none _ | refine LeO.ite ?_ ?_ | refine LeO.bind ?_ (fun _ => ?_)
theorem Qs.mono : ∀ a0 a1 k, LeO (Qs.f k a0 a1) (Qs.f (k + 1) a0 a1) := by
 intro a0 a1 k
 obtain ⟨ih0, ih1, ih2⟩ := Qs.mono_l k
 exact ih0 a0 a1
set_option maxHeartbeats 8000000 in
set_option maxRecDepth 100000 in
theorem Qs.calls (k : Nat) : ∀ (A0 : Option Addr) (c0 : Nat) (l0 : List (S64)) (a1 : Int) (r1 : ByteArray) (r2 : Int) (w : World) (hr0 : Kd.C k64 w A0 l0.length l0) (hc0 : l0.length ≤ c0) (h : Qs.f k l0 a1 = some (r1, r2)),
  Calls Tryz.prog 38 #[.slice A0 l0.length c0, .int .i64 a1] w fun e w' => e = .returned (.tuple #[.string r1, .int .i64 r2]) ∧ Below w.heap.size w w' := by
 induction k using Nat.strongRecOn with
 | _ k ih =>
 intro A0 c0 l0 a1 r1 r2 w hr0 hc0 h
 cases k with
 | zero => exact absurd h (by simp [Qs.f])
 | succ k =>
 simp only [Qs.f] at h
 have hu64 := Tryz.underlying64
 have HR0 := Aside0.mk hr0
 have HC0 := Aside0.mk hc0
 clear hr0 hc0
 have HB := Aside0.mk (Below.refl w.heap.size w)
 have H : (if 0 ≤ a1 then (if a1 < (l0.length : Int) then ((Qm.f k ((rd_T64 l0 a1).f2)).bind fun t166 => (if ((rd_T64 l0 a1).f0) = 1 then (Qs.j0 k l0 (wrap64 (a1 + 1)) (⟨#[40, 38]⟩ : ByteArray) ((rd_T64 l0 a1).f0) ((rd_T64 l0 a1).f1) ((rd_T64 l0 a1).f2) ((rd_T64 l0 a1).f3)) else (if ((rd_T64 l0 a1).f0) = 2 then (Qs.j0 k l0 (wrap64 (a1 + 1)) (⟨#[40, 124]⟩ : ByteArray) ((rd_T64 l0 a1).f0) ((rd_T64 l0 a1).f1) ((rd_T64 l0 a1).f2) ((rd_T64 l0 a1).f3)) else (if ((rd_T64 l0 a1).f0) = 3 then (Qs.j0 k l0 (wrap64 (a1 + 1)) (⟨#[40, 33]⟩ : ByteArray) ((rd_T64 l0 a1).f0) ((rd_T64 l0 a1).f1) ((rd_T64 l0 a1).f2) ((rd_T64 l0 a1).f3)) else (if ((rd_T64 l0 a1).f0) = 4 then (if 1 + ((rd_T64 l0 a1).f1).size ≤ 9223372036854775807 then (if ((⟨#[40]⟩ : ByteArray) ++ ((rd_T64 l0 a1).f1)).size + 1 ≤ 9223372036854775807 then (if (((⟨#[40]⟩ : ByteArray) ++ ((rd_T64 l0 a1).f1)) ++ (⟨#[61]⟩ : ByteArray)).size + t166.size ≤ 9223372036854775807 then (if ((((⟨#[40]⟩ : ByteArray) ++ ((rd_T64 l0 a1).f1)) ++ (⟨#[61]⟩ : ByteArray)) ++ t166).size + 1 ≤ 9223372036854775807 then (some (((((⟨#[40]⟩ : ByteArray) ++ ((rd_T64 l0 a1).f1)) ++ (⟨#[61]⟩ : ByteArray)) ++ t166) ++ (⟨#[41]⟩ : ByteArray), wrap64 (a1 + 1))) else (none)) else (none)) else (none)) else (none)) else (if ((rd_T64 l0 a1).f0) = 5 then (if 1 + ((rd_T64 l0 a1).f1).size ≤ 9223372036854775807 then (if ((⟨#[40]⟩ : ByteArray) ++ ((rd_T64 l0 a1).f1)).size + 3 ≤ 9223372036854775807 then (some (((⟨#[40]⟩ : ByteArray) ++ ((rd_T64 l0 a1).f1)) ++ (⟨#[61, 42, 41]⟩ : ByteArray), wrap64 (a1 + 1))) else (none)) else (none)) else (if ((rd_T64 l0 a1).f0) = 6 then (if 1 + ((rd_T64 l0 a1).f1).size ≤ 9223372036854775807 then (if ((⟨#[40]⟩ : ByteArray) ++ ((rd_T64 l0 a1).f1)).size + 1 ≤ 9223372036854775807 then (if (((⟨#[40]⟩ : ByteArray) ++ ((rd_T64 l0 a1).f1)) ++ (⟨#[61]⟩ : ByteArray)).size + t166.size ≤ 9223372036854775807 then (if ((((⟨#[40]⟩ : ByteArray) ++ ((rd_T64 l0 a1).f1)) ++ (⟨#[61]⟩ : ByteArray)) ++ t166).size + 2 ≤ 9223372036854775807 then (some (((((⟨#[40]⟩ : ByteArray) ++ ((rd_T64 l0 a1).f1)) ++ (⟨#[61]⟩ : ByteArray)) ++ t166) ++ (⟨#[42, 41]⟩ : ByteArray), wrap64 (a1 + 1))) else (none)) else (none)) else (none)) else (none)) else (if ((rd_T64 l0 a1).f0) = 7 then (if 1 + ((rd_T64 l0 a1).f1).size ≤ 9223372036854775807 then (if ((⟨#[40]⟩ : ByteArray) ++ ((rd_T64 l0 a1).f1)).size + 2 ≤ 9223372036854775807 then (if (((⟨#[40]⟩ : ByteArray) ++ ((rd_T64 l0 a1).f1)) ++ (⟨#[62, 61]⟩ : ByteArray)).size + t166.size ≤ 9223372036854775807 then (if ((((⟨#[40]⟩ : ByteArray) ++ ((rd_T64 l0 a1).f1)) ++ (⟨#[62, 61]⟩ : ByteArray)) ++ t166).size + 1 ≤ 9223372036854775807 then (some (((((⟨#[40]⟩ : ByteArray) ++ ((rd_T64 l0 a1).f1)) ++ (⟨#[62, 61]⟩ : ByteArray)) ++ t166) ++ (⟨#[41]⟩ : ByteArray), wrap64 (a1 + 1))) else (none)) else (none)) else (none)) else (none)) else (if 1 + ((rd_T64 l0 a1).f1).size ≤ 9223372036854775807 then (if ((⟨#[40]⟩ : ByteArray) ++ ((rd_T64 l0 a1).f1)).size + 2 ≤ 9223372036854775807 then (if (((⟨#[40]⟩ : ByteArray) ++ ((rd_T64 l0 a1).f1)) ++ (⟨#[60, 61]⟩ : ByteArray)).size + t166.size ≤ 9223372036854775807 then (if ((((⟨#[40]⟩ : ByteArray) ++ ((rd_T64 l0 a1).f1)) ++ (⟨#[60, 61]⟩ : ByteArray)) ++ t166).size + 1 ≤ 9223372036854775807 then (some (((((⟨#[40]⟩ : ByteArray) ++ ((rd_T64 l0 a1).f1)) ++ (⟨#[60, 61]⟩ : ByteArray)) ++ t166) ++ (⟨#[41]⟩ : ByteArray), wrap64 (a1 + 1))) else (none)) else (none)) else (none)) else (none)))))))))) else (none)) else (none)) = some (r1, r2) := h
 clear h
 by_cases c3 : 0 ≤ a1
 rotate_left
 ·rw [if_neg c3] at H
  exact absurd H (by simp)
 rw [if_pos c3] at H
 have c3b0 := decide_eq_true c3
 clear c3
 by_cases c4 : a1 < (l0.length : Int)
 rotate_left
 ·rw [if_neg c4] at H
  exact absurd H (by simp)
 rw [if_pos c4] at H
 have c4b0 := decide_eq_true c4
 clear c4
 replace H := Option.bind_eq_some_iff.mp H
 obtain ⟨t166, A50, H⟩ := H
 replace H : (if ((rd_T64 l0 a1).f0) = 1 then (Qs.j0 k l0 (wrap64 (a1 + 1)) (⟨#[40, 38]⟩ : ByteArray) ((rd_T64 l0 a1).f0) ((rd_T64 l0 a1).f1) ((rd_T64 l0 a1).f2) ((rd_T64 l0 a1).f3)) else (if ((rd_T64 l0 a1).f0) = 2 then (Qs.j0 k l0 (wrap64 (a1 + 1)) (⟨#[40, 124]⟩ : ByteArray) ((rd_T64 l0 a1).f0) ((rd_T64 l0 a1).f1) ((rd_T64 l0 a1).f2) ((rd_T64 l0 a1).f3)) else (if ((rd_T64 l0 a1).f0) = 3 then (Qs.j0 k l0 (wrap64 (a1 + 1)) (⟨#[40, 33]⟩ : ByteArray) ((rd_T64 l0 a1).f0) ((rd_T64 l0 a1).f1) ((rd_T64 l0 a1).f2) ((rd_T64 l0 a1).f3)) else (if ((rd_T64 l0 a1).f0) = 4 then (if 1 + ((rd_T64 l0 a1).f1).size ≤ 9223372036854775807 then (if ((⟨#[40]⟩ : ByteArray) ++ ((rd_T64 l0 a1).f1)).size + 1 ≤ 9223372036854775807 then (if (((⟨#[40]⟩ : ByteArray) ++ ((rd_T64 l0 a1).f1)) ++ (⟨#[61]⟩ : ByteArray)).size + t166.size ≤ 9223372036854775807 then (if ((((⟨#[40]⟩ : ByteArray) ++ ((rd_T64 l0 a1).f1)) ++ (⟨#[61]⟩ : ByteArray)) ++ t166).size + 1 ≤ 9223372036854775807 then (some (((((⟨#[40]⟩ : ByteArray) ++ ((rd_T64 l0 a1).f1)) ++ (⟨#[61]⟩ : ByteArray)) ++ t166) ++ (⟨#[41]⟩ : ByteArray), wrap64 (a1 + 1))) else (none)) else (none)) else (none)) else (none)) else (if ((rd_T64 l0 a1).f0) = 5 then (if 1 + ((rd_T64 l0 a1).f1).size ≤ 9223372036854775807 then (if ((⟨#[40]⟩ : ByteArray) ++ ((rd_T64 l0 a1).f1)).size + 3 ≤ 9223372036854775807 then (some (((⟨#[40]⟩ : ByteArray) ++ ((rd_T64 l0 a1).f1)) ++ (⟨#[61, 42, 41]⟩ : ByteArray), wrap64 (a1 + 1))) else (none)) else (none)) else (if ((rd_T64 l0 a1).f0) = 6 then (if 1 + ((rd_T64 l0 a1).f1).size ≤ 9223372036854775807 then (if ((⟨#[40]⟩ : ByteArray) ++ ((rd_T64 l0 a1).f1)).size + 1 ≤ 9223372036854775807 then (if (((⟨#[40]⟩ : ByteArray) ++ ((rd_T64 l0 a1).f1)) ++ (⟨#[61]⟩ : ByteArray)).size + t166.size ≤ 9223372036854775807 then (if ((((⟨#[40]⟩ : ByteArray) ++ ((rd_T64 l0 a1).f1)) ++ (⟨#[61]⟩ : ByteArray)) ++ t166).size + 2 ≤ 9223372036854775807 then (some (((((⟨#[40]⟩ : ByteArray) ++ ((rd_T64 l0 a1).f1)) ++ (⟨#[61]⟩ : ByteArray)) ++ t166) ++ (⟨#[42, 41]⟩ : ByteArray), wrap64 (a1 + 1))) else (none)) else (none)) else (none)) else (none)) else (if ((rd_T64 l0 a1).f0) = 7 then (if 1 + ((rd_T64 l0 a1).f1).size ≤ 9223372036854775807 then (if ((⟨#[40]⟩ : ByteArray) ++ ((rd_T64 l0 a1).f1)).size + 2 ≤ 9223372036854775807 then (if (((⟨#[40]⟩ : ByteArray) ++ ((rd_T64 l0 a1).f1)) ++ (⟨#[62, 61]⟩ : ByteArray)).size + t166.size ≤ 9223372036854775807 then (if ((((⟨#[40]⟩ : ByteArray) ++ ((rd_T64 l0 a1).f1)) ++ (⟨#[62, 61]⟩ : ByteArray)) ++ t166).size + 1 ≤ 9223372036854775807 then (some (((((⟨#[40]⟩ : ByteArray) ++ ((rd_T64 l0 a1).f1)) ++ (⟨#[62, 61]⟩ : ByteArray)) ++ t166) ++ (⟨#[41]⟩ : ByteArray), wrap64 (a1 + 1))) else (none)) else (none)) else (none)) else (none)) else (if 1 + ((rd_T64 l0 a1).f1).size ≤ 9223372036854775807 then (if ((⟨#[40]⟩ : ByteArray) ++ ((rd_T64 l0 a1).f1)).size + 2 ≤ 9223372036854775807 then (if (((⟨#[40]⟩ : ByteArray) ++ ((rd_T64 l0 a1).f1)) ++ (⟨#[60, 61]⟩ : ByteArray)).size + t166.size ≤ 9223372036854775807 then (if ((((⟨#[40]⟩ : ByteArray) ++ ((rd_T64 l0 a1).f1)) ++ (⟨#[60, 61]⟩ : ByteArray)) ++ t166).size + 1 ≤ 9223372036854775807 then (some (((((⟨#[40]⟩ : ByteArray) ++ ((rd_T64 l0 a1).f1)) ++ (⟨#[60, 61]⟩ : ByteArray)) ++ t166) ++ (⟨#[41]⟩ : ByteArray), wrap64 (a1 + 1))) else (none)) else (none)) else (none)) else (none))))))))) = some (r1, r2) := H
 have A5 := Aside0.mk A50
 clear A50
 have HC6 := Aside0.mk H
 clear H
 have p164 : 0 ≤ (a1 : Int) := ODz
 have q164 : a1 < (l0.length : Int) := ODz
 obtain ⟨ad164, e164, hx164_0, hx164_1, hx164_2, hx164_3⟩ := at_T64 HR0.out a1 p164 q164
 cases e164
 replace p164 := eq_true p164
 replace q164 := eq_true q164
 go_enter Tryz.func38, Tryz.ntmps38
 go_upto_block 0 with (first | ((with_reducible refine gate_dst (N := 6) rfl ?_); refine box_event ?hg (N := 6) ?hd (cs := #[.int .i64 0, .string (⟨#[]⟩ : ByteArray), .string (⟨#[]⟩ : ByteArray), .int .i64 0]) (t := 64) ?hr ?_; (case hd => rfl); (case hg => rfl); (case hr => first | (go_simp; done) | (go_simp; rfl)); intro gb165 hg w7 hbox hb; have n0_ := Aside0.mk (below_step HBa hb); have n1_ := Aside0.mk (hbox); have n2_ := BSz w hg HBa; have n3_ := BSz w hg HBa; clear HB; have HB := n0_; have BK165 := n1_; have GW165 := n2_; have GE165 := n3_; clear n0_ n1_ n2_ n3_; clear hb hbox hg; have hcz8_0 := C1z BK165; have hcz8_1 := C2z BK165; have hcz8_2 := C3z BK165; have hcz8_3 := C4z BK165; have hfz8_0 := blk_frozen BK165.out 0; have hfz8_1 := blk_frozen BK165.out 1; have hfz8_2 := blk_frozen BK165.out 2; have hfz8_3 := blk_frozen BK165.out 3) | ((with_reducible refine gate_callee (f := 76) rfl ?_); refine goesL_ (some 18) rfl rfl Tryz.func76 (by kernel_rfl) rfl #[.string ((rd_T64 l0 a1).f2)] rfl MPz ?_; (with_reducible refine (Qm.calls k ((rd_T64 l0 a1).f2) t166 _ A5.out).mono ?_); rintro e w9 ⟨rfl, hb⟩; refine ⟨_, rfl, ?_⟩; have n0_ := Aside0.mk (blk_below (g := gb165) (o := .cells #[.int .i64 ((rd_T64 l0 a1).f0), .string ((rd_T64 l0 a1).f1), .string ((rd_T64 l0 a1).f2), .int .i64 ((rd_T64 l0 a1).f3)] 64 (0, 0)) (by (with_reducible repeat first | apply blk_drewN | apply blk_drew | apply blk_alloc); refine blk_put (cs := #[.int .i64 ((rd_T64 l0 a1).f0), .string ((rd_T64 l0 a1).f1), .string ((rd_T64 l0 a1).f2), .int .i64 0]) ?_ 3 _ rfl; (with_reducible repeat first | apply blk_drewN | apply blk_drew | apply blk_alloc); refine blk_put (cs := #[.int .i64 ((rd_T64 l0 a1).f0), .string ((rd_T64 l0 a1).f1), .string (⟨#[]⟩ : ByteArray), .int .i64 0]) ?_ 2 _ rfl; (with_reducible repeat first | apply blk_drewN | apply blk_drew | apply blk_alloc); refine blk_put (cs := #[.int .i64 ((rd_T64 l0 a1).f0), .string (⟨#[]⟩ : ByteArray), .string (⟨#[]⟩ : ByteArray), .int .i64 0]) ?_ 1 _ rfl; (with_reducible repeat first | apply blk_drewN | apply blk_drew | apply blk_alloc); refine blk_put (cs := #[.int .i64 0, .string (⟨#[]⟩ : ByteArray), .string (⟨#[]⟩ : ByteArray), .int .i64 0]) ?_ 0 _ rfl; (with_reducible repeat first | apply blk_drewN | apply blk_drew | apply blk_alloc); exact BK165.out) hb); have n1_ := Aside0.mk (below_step (HBb GE165) hb); clear BK165; clear HB; have BK165 := n0_; have HB := n1_; clear n0_ n1_; (try clear hb); (try clear hb2); (try clear hk); (try clear hi); have hcz10_0 := C1z BK165; have hcz10_1 := C2z BK165; have hcz10_2 := C3z BK165; have hcz10_3 := C4z BK165; have hfz10_0 := blk_frozen BK165.out 0; have hfz10_1 := blk_frozen BK165.out 1; have hfz10_2 := blk_frozen BK165.out 2; have hfz10_3 := blk_frozen BK165.out 3))
 (try simp only [Act.put, List.setIfInBounds_toArray, List.set_cons_zero, List.set_cons_succ])
 go_cut [8] (fun v8 wc => ∃ (kq : Nat) (x8_5 : ByteArray), v8 = .string x8_5 ∧ Aside0 (Qs.j0 kq l0 (wrap64 (a1 + 1)) x8_5 ((rd_T64 l0 a1).f0) ((rd_T64 l0 a1).f1) ((rd_T64 l0 a1).f2) ((rd_T64 l0 a1).f3) = some (r1, r2)) ∧ Aside0 (kq ≤ k) ∧ Aside0 (wc.heap[gb165]? = some (.cells #[.int .i64 ((rd_T64 l0 a1).f0), .string ((rd_T64 l0 a1).f1), .string ((rd_T64 l0 a1).f2), .int .i64 ((rd_T64 l0 a1).f3)] 64 (0, 0))) ∧ Aside0 (Below w.heap.size w wc))
 case first =>
  have H := HC6.out
  clear HC6
  by_cases c11 : ((rd_T64 l0 a1).f0) = 1
  ·rw [if_pos c11] at H
   obtain ⟨c11b0, c11b1⟩ := QTz c11
   clear c11
   (first | rw [c11b0] | rw [c11v0] | (simp only [i64_w, i32_w]; rw [c11b0]) | (simp only [i64_w, i32_w]; rw [c11v0]) | skip)
   have H' := Aside0.mk H
   clear H
   go_wp2
   go_meet
   case rel => exact ⟨_, ((⟨#[40, 38]⟩ : ByteArray)), EZc, H', ⟨by first | omega | exact Nat.le_refl _⟩, ⟨by (with_reducible repeat first | apply blk_drewN | apply blk_drew | apply blk_alloc); exact BK165.out⟩, ⟨by repeat (first | (with_reducible first | exact HB.out | apply below_alloc | apply pw_below_drewN | apply below_drew1 | refine below_set ?_ GE165.out) | exact HB.out)⟩⟩
  rw [if_neg c11] at H
  obtain ⟨c11b0, c11b1⟩ := QFz c11
  (first | rw [c11b0] | rw [c11v0] | (simp only [i64_w, i32_w]; rw [c11b0]) | (simp only [i64_w, i32_w]; rw [c11v0]) | skip)
  by_cases c12 : ((rd_T64 l0 a1).f0) = 2
  ·rw [if_pos c12] at H
   obtain ⟨c12b0, c12b1⟩ := QTz c12
   clear c12
   have H' := Aside0.mk H
   clear H
   go_wp2
   go_meet
   case rel => exact ⟨_, ((⟨#[40, 124]⟩ : ByteArray)), EZc, H', ⟨by first | omega | exact Nat.le_refl _⟩, ⟨by (with_reducible repeat first | apply blk_drewN | apply blk_drew | apply blk_alloc); exact BK165.out⟩, ⟨by repeat (first | (with_reducible first | exact HB.out | apply below_alloc | apply pw_below_drewN | apply below_drew1 | refine below_set ?_ GE165.out) | exact HB.out)⟩⟩
  rw [if_neg c12] at H
  obtain ⟨c12b0, c12b1⟩ := QFz c12
  by_cases c13 : ((rd_T64 l0 a1).f0) = 3
  ·rw [if_pos c13] at H
   obtain ⟨c13b0, c13b1⟩ := QTz c13
   clear c13
   have H' := Aside0.mk H
   clear H
   go_wp2
   go_meet
   case rel => exact ⟨_, ((⟨#[40, 33]⟩ : ByteArray)), EZc, H', ⟨by first | omega | exact Nat.le_refl _⟩, ⟨by (with_reducible repeat first | apply blk_drewN | apply blk_drew | apply blk_alloc); exact BK165.out⟩, ⟨by repeat (first | (with_reducible first | exact HB.out | apply below_alloc | apply pw_below_drewN | apply below_drew1 | refine below_set ?_ GE165.out) | exact HB.out)⟩⟩
  rw [if_neg c13] at H
  obtain ⟨c13b0, c13b1⟩ := QFz c13
  by_cases c14 : ((rd_T64 l0 a1).f0) = 4
  ·rw [if_pos c14] at H
   obtain ⟨c14b0, c14b1⟩ := QTz c14
   clear c14
   by_cases c15 : 1 + ((rd_T64 l0 a1).f1).size ≤ 9223372036854775807
   rotate_left
   ·rw [if_neg c15] at H
    exact absurd H (by simp)
   rw [if_pos c15] at H
   have c15b0 := eq_true c15
   have c15b1 := decide_eq_true c15
   try have c15b2 : (9223372036854775807 < 1 + ((rd_T64 l0 a1).f1).size) = False := eq_false (Nat.not_lt.2 c15)
   by_cases c16 : ((⟨#[40]⟩ : ByteArray) ++ ((rd_T64 l0 a1).f1)).size + 1 ≤ 9223372036854775807
   rotate_left
   ·rw [if_neg c16] at H
    exact absurd H (by simp)
   rw [if_pos c16] at H
   have c16b0 := eq_true c16
   have c16b1 := decide_eq_true c16
   have c16n : ¬ (9223372036854775807 < ((⟨#[40]⟩ : ByteArray) ++ ((rd_T64 l0 a1).f1)).size + 1) := Nat.not_lt.2 c16
   try simp only [ByteArray.size_append, show (⟨#[40]⟩ : ByteArray).size = 1 from rfl] at c16n
   try have c16b2 : (9223372036854775807 < ((⟨#[40]⟩ : ByteArray) ++ ((rd_T64 l0 a1).f1)).size + 1) = False := eq_false (Nat.not_lt.2 c16)
   by_cases c17 : (((⟨#[40]⟩ : ByteArray) ++ ((rd_T64 l0 a1).f1)) ++ (⟨#[61]⟩ : ByteArray)).size + t166.size ≤ 9223372036854775807
   rotate_left
   ·rw [if_neg c17] at H
    exact absurd H (by simp)
   rw [if_pos c17] at H
   have c17b0 := eq_true c17
   have c17b1 := decide_eq_true c17
   have c17n : ¬ (9223372036854775807 < (((⟨#[40]⟩ : ByteArray) ++ ((rd_T64 l0 a1).f1)) ++ (⟨#[61]⟩ : ByteArray)).size + t166.size) := Nat.not_lt.2 c17
   try simp only [ByteArray.size_append, show (⟨#[40]⟩ : ByteArray).size = 1 from rfl, show (⟨#[61]⟩ : ByteArray).size = 1 from rfl] at c17n
   try have c17b2 : (9223372036854775807 < (((⟨#[40]⟩ : ByteArray) ++ ((rd_T64 l0 a1).f1)) ++ (⟨#[61]⟩ : ByteArray)).size + t166.size) = False := eq_false (Nat.not_lt.2 c17)
   by_cases c18 : ((((⟨#[40]⟩ : ByteArray) ++ ((rd_T64 l0 a1).f1)) ++ (⟨#[61]⟩ : ByteArray)) ++ t166).size + 1 ≤ 9223372036854775807
   ·rw [if_pos c18] at H
    have c18b0 := eq_true c18
    have c18b1 := decide_eq_true c18
    have c18n : ¬ (9223372036854775807 < ((((⟨#[40]⟩ : ByteArray) ++ ((rd_T64 l0 a1).f1)) ++ (⟨#[61]⟩ : ByteArray)) ++ t166).size + 1) := Nat.not_lt.2 c18
    try simp only [ByteArray.size_append, show (⟨#[40]⟩ : ByteArray).size = 1 from rfl, show (⟨#[61]⟩ : ByteArray).size = 1 from rfl] at c18n
    try have c18b2 : (9223372036854775807 < ((((⟨#[40]⟩ : ByteArray) ++ ((rd_T64 l0 a1).f1)) ++ (⟨#[61]⟩ : ByteArray)) ++ t166).size + 1) = False := eq_false (Nat.not_lt.2 c18)
    obtain ⟨rfl, rfl⟩ := SPz H
    have hcz19_0 := C1z BK165
    have hcz19_1 := C2z BK165
    have hcz19_2 := C3z BK165
    have hcz19_3 := C4z BK165
    have hfz19_0 := blk_frozen BK165.out 0
    have hfz19_1 := blk_frozen BK165.out 1
    have hfz19_2 := blk_frozen BK165.out 2
    have hfz19_3 := blk_frozen BK165.out 3
    go_wp2
    go_ret2
    exact ⟨EZa, HBb GE165⟩
   rw [if_neg c18] at H
   exact absurd H (by simp)
  rw [if_neg c14] at H
  obtain ⟨c14b0, c14b1⟩ := QFz c14
  by_cases c20 : ((rd_T64 l0 a1).f0) = 5
  ·rw [if_pos c20] at H
   obtain ⟨c20b0, c20b1⟩ := QTz c20
   clear c20
   by_cases c21 : 1 + ((rd_T64 l0 a1).f1).size ≤ 9223372036854775807
   rotate_left
   ·rw [if_neg c21] at H
    exact absurd H (by simp)
   rw [if_pos c21] at H
   have c21b0 := eq_true c21
   have c21b1 := decide_eq_true c21
   try have c21b2 : (9223372036854775807 < 1 + ((rd_T64 l0 a1).f1).size) = False := eq_false (Nat.not_lt.2 c21)
   by_cases c22 : ((⟨#[40]⟩ : ByteArray) ++ ((rd_T64 l0 a1).f1)).size + 3 ≤ 9223372036854775807
   ·rw [if_pos c22] at H
    have c22b0 := eq_true c22
    have c22b1 := decide_eq_true c22
    have c22n : ¬ (9223372036854775807 < ((⟨#[40]⟩ : ByteArray) ++ ((rd_T64 l0 a1).f1)).size + 3) := Nat.not_lt.2 c22
    try simp only [ByteArray.size_append, show (⟨#[40]⟩ : ByteArray).size = 1 from rfl] at c22n
    try have c22b2 : (9223372036854775807 < ((⟨#[40]⟩ : ByteArray) ++ ((rd_T64 l0 a1).f1)).size + 3) = False := eq_false (Nat.not_lt.2 c22)
    obtain ⟨rfl, rfl⟩ := SPz H
    have hcz23_0 := C1z BK165
    have hcz23_1 := C2z BK165
    have hcz23_2 := C3z BK165
    have hcz23_3 := C4z BK165
    have hfz23_0 := blk_frozen BK165.out 0
    have hfz23_1 := blk_frozen BK165.out 1
    have hfz23_2 := blk_frozen BK165.out 2
    have hfz23_3 := blk_frozen BK165.out 3
    go_wp2
    go_ret2
    exact ⟨EZa, HBb GE165⟩
   rw [if_neg c22] at H
   exact absurd H (by simp)
  rw [if_neg c20] at H
  obtain ⟨c20b0, c20b1⟩ := QFz c20
  by_cases c24 : ((rd_T64 l0 a1).f0) = 6
  ·rw [if_pos c24] at H
   obtain ⟨c24b0, c24b1⟩ := QTz c24
   clear c24
   by_cases c25 : 1 + ((rd_T64 l0 a1).f1).size ≤ 9223372036854775807
   rotate_left
   ·rw [if_neg c25] at H
    exact absurd H (by simp)
   rw [if_pos c25] at H
   have c25b0 := eq_true c25
   have c25b1 := decide_eq_true c25
   try have c25b2 : (9223372036854775807 < 1 + ((rd_T64 l0 a1).f1).size) = False := eq_false (Nat.not_lt.2 c25)
   by_cases c26 : ((⟨#[40]⟩ : ByteArray) ++ ((rd_T64 l0 a1).f1)).size + 1 ≤ 9223372036854775807
   rotate_left
   ·rw [if_neg c26] at H
    exact absurd H (by simp)
   rw [if_pos c26] at H
   have c26b0 := eq_true c26
   have c26b1 := decide_eq_true c26
   have c26n : ¬ (9223372036854775807 < ((⟨#[40]⟩ : ByteArray) ++ ((rd_T64 l0 a1).f1)).size + 1) := Nat.not_lt.2 c26
   try simp only [ByteArray.size_append, show (⟨#[40]⟩ : ByteArray).size = 1 from rfl] at c26n
   try have c26b2 : (9223372036854775807 < ((⟨#[40]⟩ : ByteArray) ++ ((rd_T64 l0 a1).f1)).size + 1) = False := eq_false (Nat.not_lt.2 c26)
   by_cases c27 : (((⟨#[40]⟩ : ByteArray) ++ ((rd_T64 l0 a1).f1)) ++ (⟨#[61]⟩ : ByteArray)).size + t166.size ≤ 9223372036854775807
   rotate_left
   ·rw [if_neg c27] at H
    exact absurd H (by simp)
   rw [if_pos c27] at H
   have c27b0 := eq_true c27
   have c27b1 := decide_eq_true c27
   have c27n : ¬ (9223372036854775807 < (((⟨#[40]⟩ : ByteArray) ++ ((rd_T64 l0 a1).f1)) ++ (⟨#[61]⟩ : ByteArray)).size + t166.size) := Nat.not_lt.2 c27
   try simp only [ByteArray.size_append, show (⟨#[40]⟩ : ByteArray).size = 1 from rfl, show (⟨#[61]⟩ : ByteArray).size = 1 from rfl] at c27n
   try have c27b2 : (9223372036854775807 < (((⟨#[40]⟩ : ByteArray) ++ ((rd_T64 l0 a1).f1)) ++ (⟨#[61]⟩ : ByteArray)).size + t166.size) = False := eq_false (Nat.not_lt.2 c27)
   by_cases c28 : ((((⟨#[40]⟩ : ByteArray) ++ ((rd_T64 l0 a1).f1)) ++ (⟨#[61]⟩ : ByteArray)) ++ t166).size + 2 ≤ 9223372036854775807
   ·rw [if_pos c28] at H
    have c28b0 := eq_true c28
    have c28b1 := decide_eq_true c28
    have c28n : ¬ (9223372036854775807 < ((((⟨#[40]⟩ : ByteArray) ++ ((rd_T64 l0 a1).f1)) ++ (⟨#[61]⟩ : ByteArray)) ++ t166).size + 2) := Nat.not_lt.2 c28
    try simp only [ByteArray.size_append, show (⟨#[40]⟩ : ByteArray).size = 1 from rfl, show (⟨#[61]⟩ : ByteArray).size = 1 from rfl] at c28n
    try have c28b2 : (9223372036854775807 < ((((⟨#[40]⟩ : ByteArray) ++ ((rd_T64 l0 a1).f1)) ++ (⟨#[61]⟩ : ByteArray)) ++ t166).size + 2) = False := eq_false (Nat.not_lt.2 c28)
    obtain ⟨rfl, rfl⟩ := SPz H
    have hcz29_0 := C1z BK165
    have hcz29_1 := C2z BK165
    have hcz29_2 := C3z BK165
    have hcz29_3 := C4z BK165
    have hfz29_0 := blk_frozen BK165.out 0
    have hfz29_1 := blk_frozen BK165.out 1
    have hfz29_2 := blk_frozen BK165.out 2
    have hfz29_3 := blk_frozen BK165.out 3
    go_wp2
    go_ret2
    exact ⟨EZa, HBb GE165⟩
   rw [if_neg c28] at H
   exact absurd H (by simp)
  rw [if_neg c24] at H
  obtain ⟨c24b0, c24b1⟩ := QFz c24
  by_cases c30 : ((rd_T64 l0 a1).f0) = 7
  rotate_left
  ·rw [if_neg c30] at H
   obtain ⟨c30b0, c30b1⟩ := QFz c30
   by_cases c36 : 1 + ((rd_T64 l0 a1).f1).size ≤ 9223372036854775807
   rotate_left
   ·rw [if_neg c36] at H
    exact absurd H (by simp)
   rw [if_pos c36] at H
   have c36b0 := eq_true c36
   have c36b1 := decide_eq_true c36
   try have c36b2 : (9223372036854775807 < 1 + ((rd_T64 l0 a1).f1).size) = False := eq_false (Nat.not_lt.2 c36)
   by_cases c37 : ((⟨#[40]⟩ : ByteArray) ++ ((rd_T64 l0 a1).f1)).size + 2 ≤ 9223372036854775807
   rotate_left
   ·rw [if_neg c37] at H
    exact absurd H (by simp)
   rw [if_pos c37] at H
   have c37b0 := eq_true c37
   have c37b1 := decide_eq_true c37
   have c37n : ¬ (9223372036854775807 < ((⟨#[40]⟩ : ByteArray) ++ ((rd_T64 l0 a1).f1)).size + 2) := Nat.not_lt.2 c37
   try simp only [ByteArray.size_append, show (⟨#[40]⟩ : ByteArray).size = 1 from rfl] at c37n
   try have c37b2 : (9223372036854775807 < ((⟨#[40]⟩ : ByteArray) ++ ((rd_T64 l0 a1).f1)).size + 2) = False := eq_false (Nat.not_lt.2 c37)
   by_cases c38 : (((⟨#[40]⟩ : ByteArray) ++ ((rd_T64 l0 a1).f1)) ++ (⟨#[60, 61]⟩ : ByteArray)).size + t166.size ≤ 9223372036854775807
   rotate_left
   ·rw [if_neg c38] at H
    exact absurd H (by simp)
   rw [if_pos c38] at H
   have c38b0 := eq_true c38
   have c38b1 := decide_eq_true c38
   have c38n : ¬ (9223372036854775807 < (((⟨#[40]⟩ : ByteArray) ++ ((rd_T64 l0 a1).f1)) ++ (⟨#[60, 61]⟩ : ByteArray)).size + t166.size) := Nat.not_lt.2 c38
   try simp only [ByteArray.size_append, show (⟨#[40]⟩ : ByteArray).size = 1 from rfl, show (⟨#[60, 61]⟩ : ByteArray).size = 2 from rfl] at c38n
   try have c38b2 : (9223372036854775807 < (((⟨#[40]⟩ : ByteArray) ++ ((rd_T64 l0 a1).f1)) ++ (⟨#[60, 61]⟩ : ByteArray)).size + t166.size) = False := eq_false (Nat.not_lt.2 c38)
   by_cases c39 : ((((⟨#[40]⟩ : ByteArray) ++ ((rd_T64 l0 a1).f1)) ++ (⟨#[60, 61]⟩ : ByteArray)) ++ t166).size + 1 ≤ 9223372036854775807
   ·rw [if_pos c39] at H
    have c39b0 := eq_true c39
    have c39b1 := decide_eq_true c39
    have c39n : ¬ (9223372036854775807 < ((((⟨#[40]⟩ : ByteArray) ++ ((rd_T64 l0 a1).f1)) ++ (⟨#[60, 61]⟩ : ByteArray)) ++ t166).size + 1) := Nat.not_lt.2 c39
    try simp only [ByteArray.size_append, show (⟨#[40]⟩ : ByteArray).size = 1 from rfl, show (⟨#[60, 61]⟩ : ByteArray).size = 2 from rfl] at c39n
    try have c39b2 : (9223372036854775807 < ((((⟨#[40]⟩ : ByteArray) ++ ((rd_T64 l0 a1).f1)) ++ (⟨#[60, 61]⟩ : ByteArray)) ++ t166).size + 1) = False := eq_false (Nat.not_lt.2 c39)
    obtain ⟨rfl, rfl⟩ := SPz H
    have hcz40_0 := C1z BK165
    have hcz40_1 := C2z BK165
    have hcz40_2 := C3z BK165
    have hcz40_3 := C4z BK165
    have hfz40_0 := blk_frozen BK165.out 0
    have hfz40_1 := blk_frozen BK165.out 1
    have hfz40_2 := blk_frozen BK165.out 2
    have hfz40_3 := blk_frozen BK165.out 3
    go_wp2
    go_ret2
    exact ⟨EZa, HBb GE165⟩
   rw [if_neg c39] at H
   exact absurd H (by simp)
  rw [if_pos c30] at H
  obtain ⟨c30b0, c30b1⟩ := QTz c30
  clear c30
  by_cases c31 : 1 + ((rd_T64 l0 a1).f1).size ≤ 9223372036854775807
  rotate_left
  ·rw [if_neg c31] at H
   exact absurd H (by simp)
  rw [if_pos c31] at H
  have c31b0 := eq_true c31
  have c31b1 := decide_eq_true c31
  try have c31b2 : (9223372036854775807 < 1 + ((rd_T64 l0 a1).f1).size) = False := eq_false (Nat.not_lt.2 c31)
  by_cases c32 : ((⟨#[40]⟩ : ByteArray) ++ ((rd_T64 l0 a1).f1)).size + 2 ≤ 9223372036854775807
  rotate_left
  ·rw [if_neg c32] at H
   exact absurd H (by simp)
  rw [if_pos c32] at H
  have c32b0 := eq_true c32
  have c32b1 := decide_eq_true c32
  have c32n : ¬ (9223372036854775807 < ((⟨#[40]⟩ : ByteArray) ++ ((rd_T64 l0 a1).f1)).size + 2) := Nat.not_lt.2 c32
  try simp only [ByteArray.size_append, show (⟨#[40]⟩ : ByteArray).size = 1 from rfl] at c32n
  try have c32b2 : (9223372036854775807 < ((⟨#[40]⟩ : ByteArray) ++ ((rd_T64 l0 a1).f1)).size + 2) = False := eq_false (Nat.not_lt.2 c32)
  by_cases c33 : (((⟨#[40]⟩ : ByteArray) ++ ((rd_T64 l0 a1).f1)) ++ (⟨#[62, 61]⟩ : ByteArray)).size + t166.size ≤ 9223372036854775807
  rotate_left
  ·rw [if_neg c33] at H
   exact absurd H (by simp)
  rw [if_pos c33] at H
  have c33b0 := eq_true c33
  have c33b1 := decide_eq_true c33
  have c33n : ¬ (9223372036854775807 < (((⟨#[40]⟩ : ByteArray) ++ ((rd_T64 l0 a1).f1)) ++ (⟨#[62, 61]⟩ : ByteArray)).size + t166.size) := Nat.not_lt.2 c33
  try simp only [ByteArray.size_append, show (⟨#[40]⟩ : ByteArray).size = 1 from rfl, show (⟨#[62, 61]⟩ : ByteArray).size = 2 from rfl] at c33n
  try have c33b2 : (9223372036854775807 < (((⟨#[40]⟩ : ByteArray) ++ ((rd_T64 l0 a1).f1)) ++ (⟨#[62, 61]⟩ : ByteArray)).size + t166.size) = False := eq_false (Nat.not_lt.2 c33)
  by_cases c34 : ((((⟨#[40]⟩ : ByteArray) ++ ((rd_T64 l0 a1).f1)) ++ (⟨#[62, 61]⟩ : ByteArray)) ++ t166).size + 1 ≤ 9223372036854775807
  ·rw [if_pos c34] at H
   have c34b0 := eq_true c34
   have c34b1 := decide_eq_true c34
   have c34n : ¬ (9223372036854775807 < ((((⟨#[40]⟩ : ByteArray) ++ ((rd_T64 l0 a1).f1)) ++ (⟨#[62, 61]⟩ : ByteArray)) ++ t166).size + 1) := Nat.not_lt.2 c34
   try simp only [ByteArray.size_append, show (⟨#[40]⟩ : ByteArray).size = 1 from rfl, show (⟨#[62, 61]⟩ : ByteArray).size = 2 from rfl] at c34n
   try have c34b2 : (9223372036854775807 < ((((⟨#[40]⟩ : ByteArray) ++ ((rd_T64 l0 a1).f1)) ++ (⟨#[62, 61]⟩ : ByteArray)) ++ t166).size + 1) = False := eq_false (Nat.not_lt.2 c34)
   obtain ⟨rfl, rfl⟩ := SPz H
   have hcz35_0 := C1z BK165
   have hcz35_1 := C2z BK165
   have hcz35_2 := C3z BK165
   have hcz35_3 := C4z BK165
   have hfz35_0 := blk_frozen BK165.out 0
   have hfz35_1 := blk_frozen BK165.out 1
   have hfz35_2 := blk_frozen BK165.out 2
   have hfz35_3 := blk_frozen BK165.out 3
   go_wp2
   go_ret2
   exact ⟨EZa, HBb GE165⟩
  rw [if_neg c34] at H
  exact absurd H (by simp)
 case rest =>
  clear HC6
  try clear c3
  try clear c3b0
  try clear c4
  try clear c4b0
  try clear hcz10_0
  try clear hcz10_1
  try clear hcz10_2
  try clear hcz10_3
  try clear hcz8_0
  try clear hcz8_1
  try clear hcz8_2
  try clear hcz8_3
  try clear hfz10_0
  try clear hfz10_1
  try clear hfz10_2
  try clear hfz10_3
  try clear hfz8_0
  try clear hfz8_1
  try clear hfz8_2
  try clear hfz8_3
  try clear hx164_0
  try clear hx164_1
  try clear hx164_2
  try clear hx164_3
  try clear p164
  try clear q164
  obtain ⟨kq, x8_5, rfl, HA, HJ5, BK165, HB⟩ := hcut
  cases kq with
  | zero => exact absurd HA.out (by simp [Qs.j0])
  | succ kj5 =>
   have H := HA.out
   clear HA
   simp only [Qs.j0] at H
   have H' := Aside0.mk H
   clear H
   have hcz41_0 := C1z BK165
   have hcz41_1 := C2z BK165
   have hcz41_2 := C3z BK165
   have hcz41_3 := C4z BK165
   have hfz41_0 := blk_frozen BK165.out 0
   have hfz41_1 := blk_frozen BK165.out 1
   have hfz41_2 := blk_frozen BK165.out 2
   have hfz41_3 := blk_frozen BK165.out 3
   go_wp2
   go_loopg [1, 8, 9] kj5 (fun kq v1 v8 v9 w' => ∃ (x1_2 : Int) (x8_2 : ByteArray) (x9_2 : Int), v1 = .int .i64 x1_2 ∧ v8 = .string x8_2 ∧ v9 = .int .i64 x9_2 ∧ Aside0 (Qs.l0 kq l0 x1_2 x8_2 x9_2 = some (r1, r2)) ∧ Aside0 (kq ≤ kj5) ∧ Aside0 (w'.heap[gb165]? = some (.cells #[.int .i64 ((rd_T64 l0 a1).f0), .string ((rd_T64 l0 a1).f1), .string ((rd_T64 l0 a1).f2), .int .i64 ((rd_T64 l0 a1).f3)] 64 (0, 0))) ∧ Aside0 (Below w.heap.size w w'))
   case atStart => exact ⟨((wrap64 (a1 + 1))), (x8_5), (((rd_T64 l0 a1).f3)), EZc, EZc, EZc, H', ⟨Nat.le_refl _⟩, ⟨by (with_reducible repeat first | apply blk_drewN | apply blk_drew | apply blk_alloc); exact BK165.out⟩, ⟨by repeat (first | (with_reducible first | exact HB.out | apply below_alloc | apply pw_below_drewN | apply below_drew1 | refine below_set ?_ GE165.out) | exact HB.out)⟩⟩
   case round =>
    clear H'
    try clear c3
    try clear c3b0
    try clear c4
    try clear c4b0
    try clear hcz10_0
    try clear hcz10_1
    try clear hcz10_2
    try clear hcz10_3
    try clear hcz41_0
    try clear hcz41_1
    try clear hcz41_2
    try clear hcz41_3
    try clear hcz8_0
    try clear hcz8_1
    try clear hcz8_2
    try clear hcz8_3
    try clear hfz10_0
    try clear hfz10_1
    try clear hfz10_2
    try clear hfz10_3
    try clear hfz41_0
    try clear hfz41_1
    try clear hfz41_2
    try clear hfz41_3
    try clear hfz8_0
    try clear hfz8_1
    try clear hfz8_2
    try clear hfz8_3
    try clear hx164_0
    try clear hx164_1
    try clear hx164_2
    try clear hx164_3
    try clear p164
    try clear q164
    obtain ⟨x1_2, x8_2, x9_2, rfl, rfl, rfl, HA, HK2, BK165, HB⟩ := hrel
    cases gk with
    | zero => exact absurd HA.out (by simp [Qs.l0])
    | succ k2 =>
     have H := HA.out
     clear HA
     simp only [Qs.l0] at H
     by_cases c42 : x9_2 > 0
     rotate_left
     ·rw [if_neg c42] at H
      have c42b0 : decide (0 < x9_2) = false := decide_eq_false c42
      clear c42
      by_cases c46 : x8_2.size + 1 ≤ 9223372036854775807
      ·rw [if_pos c46] at H
       have c46b0 := eq_true c46
       have c46b1 := decide_eq_true c46
       try have c46b2 : (9223372036854775807 < x8_2.size + 1) = False := eq_false (Nat.not_lt.2 c46)
       obtain ⟨rfl, rfl⟩ := SPz H
       go_wp2
       go_ret2
       exact ⟨EZa, HBb GE165⟩
      rw [if_neg c46] at H
      exact absurd H (by simp)
     rw [if_pos c42] at H
     have c42b0 : decide (0 < x9_2) = true := decide_eq_true c42
     clear c42
     replace H := Option.bind_eq_some_iff.mp H
     obtain ⟨⟨t167, t168⟩, A430, H⟩ := H
     replace H : (if x8_2.size + t167.size ≤ 9223372036854775807 then (Qs.l0 k2 l0 t168 (x8_2 ++ t167) (wrap64 (x9_2 - 1))) else (none)) = some (r1, r2) := H
     have A43 := Aside0.mk A430
     clear A430
     by_cases c44 : x8_2.size + t167.size ≤ 9223372036854775807
     ·rw [if_pos c44] at H
      have c44b0 := eq_true c44
      have c44b1 := decide_eq_true c44
      try have c44b2 : (9223372036854775807 < x8_2.size + t167.size) = False := eq_false (Nat.not_lt.2 c44)
      have H' := Aside0.mk H
      clear H
      go_wp2_with (first | ((with_reducible refine gate_callee (f := 38) rfl ?_); refine goesL_ (some 83) rfl rfl Tryz.func38 (by kernel_rfl) rfl #[.slice (some ad164) l0.length c0, .int .i64 x1_2] rfl MPz ?_; (with_reducible refine (ih k2 (by have := HJ5.out; have := HK2.out; omega) _ _ l0 x1_2 t167 t168 _ ?side1 ?side2 A43.out).mono ?_); (case side1 => exact KCz (Kd.C_below HR0.out HB.out)); (case side2 => exact HC0.out); rintro e w45 ⟨rfl, hb⟩; refine ⟨_, rfl, ?_⟩; have n0_ := BBz BK165 hb; have n1_ := Aside0.mk (below_step (HBb GE165) hb); clear BK165; clear HB; have BK165 := n0_; have HB := n1_; clear n0_ n1_; (try clear hb); (try clear hb2); (try clear hk); (try clear hi)))
      go_roundg k2
      case measure => have := HJ5.out; have := HK2.out; omega
      case rel => exact ⟨(t168), (x8_2 ++ t167), (wrap64 (x9_2 - 1)), EZc, EZc, EZc, H', ⟨by have := HJ5.out; have := HK2.out; omega⟩, ⟨by (with_reducible repeat first | apply blk_drewN | apply blk_drew | apply blk_alloc); exact BK165.out⟩, ⟨by repeat (first | (with_reducible first | exact HB.out | apply below_alloc | apply pw_below_drewN | apply below_drew1 | refine below_set ?_ GE165.out) | exact HB.out)⟩⟩
     rw [if_neg c44] at H
     exact absurd H (by simp)
end Go.Proofs.YtmkeigielncpjaaGreatDoor.PFnFilter
