-- Laid by this session's own program out of the translation; Lean checks it.
import Derived.Test.YtmkeigielncpjaaGreatDoorQFnFilterx0
import Derived.Test.YtmkeigielncpjaaGreatDoorQFnFilterx8
import Derived.Test.YtmkeigielncpjaaGreatDoorQFnFilterx9
namespace Go.Proofs.YtmkeigielncpjaaGreatDoor.PFnFilter
open Go.RowKit Go.Proofs.YtmkeigielncpjaaGreatDoorW.PrintWords Go.Proofs.YtmkeigielncpjaaGreatDoorW.PrintLast Go.Proofs.YtmkeigielncpjaaGreatDoorW.PrintMore
attribute [local go_sem] max2_int min2_int max_two min_two max_three min_three max_four min_four   -- for this text's walks alone
set_option linter.unusedVariables false
set_option linter.unusedSimpArgs false
mutual
def Gg.j0 : Nat → List (S64) → Int → Bool → Int → ByteArray → ByteArray → Int → Option (Int × Int)
 | 0, _, _, _, _, _, _, _ => none
 | k + 1, x0, x16, x17, x197000, x197001, x197002, x197003 => if x17 = true then (if x197001.toList = ([] : List UInt8) then (if x197002.toList = ([] : List UInt8) then (if x197003 < 1 then (Gg.j1 k x0 true x197000 x197001 x197002 x197003) else (if x197000 = 3 then (if x197003 = 1 then (Gg.j1 k x0 (decide (x197003 > 20)) x197000 x197001 x197002 x197003) else (Gg.j1 k x0 true x197000 x197001 x197002 x197003)) else (Gg.j1 k x0 (decide (x197003 > 20)) x197000 x197001 x197002 x197003))) else (Gg.j1 k x0 true x197000 x197001 x197002 x197003)) else (Gg.j1 k x0 true x197000 x197001 x197002 x197003)) else (if x16 = 5 then (if x197002.toList = ([] : List UInt8) then (if x197003 = 0 then ((Ge.f x197001).bind fun t203 => (if t203 = true then (some (1, 1)) else (some (0, 0)))) else (some (0, 0))) else (some (0, 0))) else (if x16 = 4 then (Gg.j3 k (x16 == 4) x197000 x197001 x197002 x197003) else (if x16 = 6 then (Gg.j3 k (x16 == 6) x197000 x197001 x197002 x197003) else (if x16 = 7 then (Gg.j3 k (x16 == 7) x197000 x197001 x197002 x197003) else (Gg.j3 k (x16 == 8) x197000 x197001 x197002 x197003)))))
def Gg.j1 : Nat → List (S64) → Bool → Int → ByteArray → ByteArray → Int → Option (Int × Int)
 | 0, _, _, _, _, _, _ => none
 | k + 1, x0, x48, x197000, x197001, x197002, x197003 => if x48 = true then (some (0, 0)) else (Gg.l0 k x0 1 0 x197003 0)
def Gg.l0 : Nat → List (S64) → Int → Int → Int → Int → Option (Int × Int)
 | 0, _, _, _, _, _ => none
 | k + 1, x0, x5, x6, x50, x51 => if x51 < x50 then (if 0 ≤ x5 then (if x5 ≤ (x0.length : Int) then ((Gg.f k (x0.drop (x5 : Int).toNat)).bind fun bt201 => (if bt201.1 = 0 then (some (0, 0)) else (Gg.l0 k x0 (wrap64 (x5 + bt201.1)) (mx x6 bt201.2) x50 (wrap64 (x51 + 1))))) else (none)) else (none)) else (some (x5, wrap64 (x6 + 1)))
def Gg.j3 : Nat → Bool → Int → ByteArray → ByteArray → Int → Option (Int × Int)
 | 0, _, _, _, _, _ => none
 | k + 1, x77, x197000, x197001, x197002, x197003 => if x77 = true then ((Gm.f k x197002).bind fun t204 => (if t204 = true then (if x197003 = 0 then ((Ge.f x197001).bind fun t205 => (if t205 = true then (some (1, 1)) else (some (0, 0)))) else (some (0, 0))) else (some (0, 0)))) else (some (0, 0))
def Gg.f : Nat → List (S64) → Option (Int × Int)
 | 0, _ => none
 | k + 1, l0 => if (l0.length : Int) = 0 then (some (0, 0)) else (if 0 < (l0.length : Int) then (if ((rd_T64 l0 0).f0) = 1 then (Gg.j0 k l0 ((rd_T64 l0 0).f0) (((rd_T64 l0 0).f0) == 1) ((rd_T64 l0 0).f0) ((rd_T64 l0 0).f1) ((rd_T64 l0 0).f2) ((rd_T64 l0 0).f3)) else (if ((rd_T64 l0 0).f0) = 2 then (Gg.j0 k l0 ((rd_T64 l0 0).f0) (((rd_T64 l0 0).f0) == 2) ((rd_T64 l0 0).f0) ((rd_T64 l0 0).f1) ((rd_T64 l0 0).f2) ((rd_T64 l0 0).f3)) else (Gg.j0 k l0 ((rd_T64 l0 0).f0) (((rd_T64 l0 0).f0) == 3) ((rd_T64 l0 0).f0) ((rd_T64 l0 0).f1) ((rd_T64 l0 0).f2) ((rd_T64 l0 0).f3)))) else (none))
end
theorem Gg.mono_l : ∀ k, (∀ y0, LeO (Gg.f k y0) (Gg.f (k + 1) y0)) ∧ (∀ y0 y1 y2 y3 y4 y5 y6, LeO (Gg.j0 k y0 y1 y2 y3 y4 y5 y6) (Gg.j0 (k + 1) y0 y1 y2 y3 y4 y5 y6)) ∧ (∀ y0 y1 y2 y3 y4 y5, LeO (Gg.j1 k y0 y1 y2 y3 y4 y5) (Gg.j1 (k + 1) y0 y1 y2 y3 y4 y5)) ∧ (∀ y0 y1 y2 y3 y4, LeO (Gg.l0 k y0 y1 y2 y3 y4) (Gg.l0 (k + 1) y0 y1 y2 y3 y4)) ∧ (∀ y0 y1 y2 y3 y4, LeO (Gg.j3 k y0 y1 y2 y3 y4) (Gg.j3 (k + 1) y0 y1 y2 y3 y4))
 | 0 => ⟨fun _ r h => by simp [Gg.f] at h, fun _ _ _ _ _ _ _ r h => by simp [Gg.j0] at h, fun _ _ _ _ _ _ r h => by simp [Gg.j1] at h, fun _ _ _ _ _ r h => by simp [Gg.l0] at h, fun _ _ _ _ _ r h => by simp [Gg.j3] at h⟩
 | k + 1 => by
  obtain ⟨ih0, ih1, ih2, ih3, ih4⟩ := Gg.mono_l k
  refine ⟨?_, ?_, ?_, ?_, ?_⟩
  ·intro y0
   unfold Gg.f
   with_reducible repeat' first | exact ih0 _ | exact ih1 _ _ _ _ _ _ _ | exact ih2 _ _ _ _ _ _ | exact ih3 _ _ _ _ _ | exact ih4 _ _ _ _ _ | exact Gm.mono _ _ | exact LeO.refl _ | exact LeO.none _ | refine LeO.ite ?_ ?_ | refine LeO.bind ?_ (fun _ => ?_)
  ·intro y0 y1 y2 y3 y4 y5 y6
   unfold Gg.j0
   with_reducible repeat' first | exact ih0 _ | exact ih1 _ _ _ _ _ _ _ | exact ih2 _ _ _ _ _ _ | exact ih3 _ _ _ _ _ | exact ih4 _ _ _ _ _ | exact Gm.mono _ _ | exact LeO.refl _ | exact LeO.none _ | refine LeO.ite ?_ ?_ | refine LeO.bind ?_ (fun _ => ?_)
  ·intro y0 y1 y2 y3 y4 y5
   unfold Gg.j1
   with_reducible repeat' first | exact ih0 _ | exact ih1 _ _ _ _ _ _ _ | exact ih2 _ _ _ _ _ _ | exact ih3 _ _ _ _ _ | exact ih4 _ _ _ _ _ | exact Gm.mono _ _ | exact LeO.refl _ | exact LeO.none _ | refine LeO.ite ?_ ?_ | refine LeO.bind ?_ (fun _ => ?_)
  ·intro y0 y1 y2 y3 y4
   unfold Gg.l0
   with_reducible repeat' first | exact ih0 _ | exact ih1 _ _ _ _ _ _ _ | exact ih2 _ _ _ _ _ _ | exact ih3 _ _ _ _ _ | exact ih4 _ _ _ _ _ | exact Gm.mono _ _ | exact LeO.refl _ | exact LeO.none _ | refine LeO.ite ?_ ?_ | refine LeO.bind ?_ (fun _ => ?_)
  ·intro y0 y1 y2 y3 y4
   unfold Gg.j3
   with_reducible repeat' first | exact ih0 _ | exact ih1 _ _ _ _ _ _ _ | exact ih2 _ _ _ _ _ _ | exact ih3 _ _ _ _ _ | exact ih4 _ _ _ _ _ | exact Gm.mono _ _ | exact LeO.refl _ | exact LeO.none _ | refine LeO.ite ?_ ?_ | refine LeO.bind ?_ (fun _ => ?_)
theorem Gg.mono : ∀ a0 k, LeO (Gg.f k a0) (Gg.f (k + 1) a0) := by
 intro a0 k
 obtain ⟨ih0, ih1, ih2, ih3, ih4⟩ := Gg.mono_l k
 exact ih0 a0
set_option maxHeartbeats 8000000 in
set_option maxRecDepth 100000 in
theorem Gg.calls (k : Nat) : ∀ (A0 : Option Addr) (c0 : Nat) (l0 : List (S64)) (r1 : Int) (r2 : Int) (w : World) (hr0 : Kd.C k64 w A0 l0.length l0) (hc0 : l0.length ≤ c0) (h : Gg.f k l0 = some (r1, r2)),
  Calls Tryz.prog 49 #[.slice A0 l0.length c0] w fun e w' => e = .returned (.tuple #[.int .i64 r1, .int .i64 r2]) ∧ Below w.heap.size w w' := by
 induction k using Nat.strongRecOn with
 | _ k ih =>
 intro A0 c0 l0 r1 r2 w hr0 hc0 h
 cases k with
 | zero => exact absurd h (by simp [Gg.f])
 | succ k =>
 simp only [Gg.f] at h
 have hu64 := Tryz.underlying64
 have HR0 := Aside0.mk hr0
 have HC0 := Aside0.mk hc0
 clear hr0 hc0
 have HB := Aside0.mk (Below.refl w.heap.size w)
 have H : (if (l0.length : Int) = 0 then (some (0, 0)) else (if 0 < (l0.length : Int) then (if ((rd_T64 l0 0).f0) = 1 then (Gg.j0 k l0 ((rd_T64 l0 0).f0) (((rd_T64 l0 0).f0) == 1) ((rd_T64 l0 0).f0) ((rd_T64 l0 0).f1) ((rd_T64 l0 0).f2) ((rd_T64 l0 0).f3)) else (if ((rd_T64 l0 0).f0) = 2 then (Gg.j0 k l0 ((rd_T64 l0 0).f0) (((rd_T64 l0 0).f0) == 2) ((rd_T64 l0 0).f0) ((rd_T64 l0 0).f1) ((rd_T64 l0 0).f2) ((rd_T64 l0 0).f3)) else (Gg.j0 k l0 ((rd_T64 l0 0).f0) (((rd_T64 l0 0).f0) == 3) ((rd_T64 l0 0).f0) ((rd_T64 l0 0).f1) ((rd_T64 l0 0).f2) ((rd_T64 l0 0).f3)))) else (none))) = some (r1, r2) := h
 clear h
 by_cases c2 : (l0.length : Int) = 0
 ·rw [if_pos c2] at H
  obtain ⟨c2b0, c2b1⟩ := QTz c2
  clear c2
  obtain ⟨rfl, rfl⟩ := SPz H
  go_enter Tryz.func49, Tryz.ntmps49
  go_wp2
  go_ret2
  exact ⟨EZa, HBa⟩
 rw [if_neg c2] at H
 obtain ⟨c2b0, c2b1⟩ := QFz c2
 have c2b2 : ¬ (l0 = []) := fun h_ => c2 (by rw [h_]; rfl)
 by_cases c3 : 0 < (l0.length : Int)
 rotate_left
 ·rw [if_neg c3] at H
  exact absurd H (by simp)
 rw [if_pos c3] at H
 have c3b0 := decide_eq_true c3
 have c3b1 : decide (0 < l0.length) = true := decide_eq_true (by omega)
 clear c3
 have HC4 := Aside0.mk H
 clear H
 have p195 : 0 ≤ (0 : Int) := (by omega)
 have q195 : 0 < (l0.length : Int) := ODz
 obtain ⟨ad195, e195, hx195_0, hx195_1, hx195_2, hx195_3⟩ := at_T64 HR0.out 0 p195 q195
 cases e195
 have qi195 : (0 < l0.length) = True := eq_true (by omega)
 (try rw [show ((0 : Int)).toNat = 0 from rfl] at hx195_0)
 (try rw [show 0 * 4 = 0 from rfl] at hx195_0)
 (try rw [Addr.add_zero'] at hx195_0)
 (try rw [show ((0 : Int)).toNat = 0 from rfl] at hx195_1)
 (try rw [show 0 * 4 = 0 from rfl] at hx195_1)
 (try rw [Addr.add_zero'] at hx195_1)
 (try rw [show ((0 : Int)).toNat = 0 from rfl] at hx195_2)
 (try rw [show 0 * 4 = 0 from rfl] at hx195_2)
 (try rw [Addr.add_zero'] at hx195_2)
 (try rw [show ((0 : Int)).toNat = 0 from rfl] at hx195_3)
 (try rw [show 0 * 4 = 0 from rfl] at hx195_3)
 (try rw [Addr.add_zero'] at hx195_3)
 replace p195 := eq_true p195
 replace q195 := eq_true q195
 go_enter Tryz.func49, Tryz.ntmps49
 go_upto_if 17 with (first | ((with_reducible refine gate_dst (N := 4) rfl ?_); refine box_event ?hg (N := 4) ?hd (cs := #[.int .i64 0, .string (⟨#[]⟩ : ByteArray), .string (⟨#[]⟩ : ByteArray), .int .i64 0]) (t := 64) ?hr ?_; (case hd => rfl); (case hg => rfl); (case hr => first | (go_simp; done) | (go_simp; rfl)); intro gb196 hg w5 hbox hb; have n0_ := Aside0.mk (below_step HBa hb); have n1_ := Aside0.mk (hbox); have n2_ := BSz w hg HBa; have n3_ := BSz w hg HBa; clear HB; have HB := n0_; have BK196 := n1_; have GW196 := n2_; have GE196 := n3_; clear n0_ n1_ n2_ n3_; clear hb hbox hg; have hcz6_0 := C1z BK196; have hcz6_1 := C2z BK196; have hcz6_2 := C3z BK196; have hcz6_3 := C4z BK196; have hfz6_0 := blk_frozen BK196.out 0; have hfz6_1 := blk_frozen BK196.out 1; have hfz6_2 := blk_frozen BK196.out 2; have hfz6_3 := blk_frozen BK196.out 3))
 (try simp only [Act.put, List.setIfInBounds_toArray, List.set_cons_zero, List.set_cons_succ])
 go_cut [17] (fun v17 wc => ∃ (kq : Nat) (x17_3 : Bool), v17 = .bool x17_3 ∧ Aside0 (Gg.j0 kq l0 ((rd_T64 l0 0).f0) x17_3 ((rd_T64 l0 0).f0) ((rd_T64 l0 0).f1) ((rd_T64 l0 0).f2) ((rd_T64 l0 0).f3) = some (r1, r2)) ∧ Aside0 (kq ≤ k) ∧ Aside0 (wc.heap[gb196]? = some (.cells #[.int .i64 ((rd_T64 l0 0).f0), .string ((rd_T64 l0 0).f1), .string ((rd_T64 l0 0).f2), .int .i64 ((rd_T64 l0 0).f3)] 64 (0, 0))) ∧ Aside0 (Below w.heap.size w wc))
 case first =>
  have H := HC4.out
  clear HC4
  by_cases c7 : ((rd_T64 l0 0).f0) = 1
  ·rw [if_pos c7] at H
   obtain ⟨c7b0, c7b1⟩ := QTz c7
   clear c7
   (first | rw [c7b0] | rw [c7v0] | (simp only [i64_w, i32_w]; rw [c7b0]) | (simp only [i64_w, i32_w]; rw [c7v0]) | skip)
   have H' := Aside0.mk H
   clear H
   go_wp2
   go_meet
   case rel => exact ⟨_, ((((rd_T64 l0 0).f0) == 1)), EZc, H', ⟨by first | omega | exact Nat.le_refl _⟩, ⟨by (with_reducible repeat first | apply blk_drewN | apply blk_drew | apply blk_alloc); refine blk_put (cs := #[.int .i64 ((rd_T64 l0 0).f0), .string ((rd_T64 l0 0).f1), .string ((rd_T64 l0 0).f2), .int .i64 0]) ?_ 3 _ rfl; (with_reducible repeat first | apply blk_drewN | apply blk_drew | apply blk_alloc); refine blk_put (cs := #[.int .i64 ((rd_T64 l0 0).f0), .string ((rd_T64 l0 0).f1), .string (⟨#[]⟩ : ByteArray), .int .i64 0]) ?_ 2 _ rfl; (with_reducible repeat first | apply blk_drewN | apply blk_drew | apply blk_alloc); refine blk_put (cs := #[.int .i64 ((rd_T64 l0 0).f0), .string (⟨#[]⟩ : ByteArray), .string (⟨#[]⟩ : ByteArray), .int .i64 0]) ?_ 1 _ rfl; (with_reducible repeat first | apply blk_drewN | apply blk_drew | apply blk_alloc); refine blk_put (cs := #[.int .i64 0, .string (⟨#[]⟩ : ByteArray), .string (⟨#[]⟩ : ByteArray), .int .i64 0]) ?_ 0 _ rfl; (with_reducible repeat first | apply blk_drewN | apply blk_drew | apply blk_alloc); exact BK196.out⟩, ⟨by repeat (first | (with_reducible first | exact HB.out | apply below_alloc | apply pw_below_drewN | apply below_drew1 | refine below_set ?_ GE196.out) | exact HB.out)⟩⟩
  rw [if_neg c7] at H
  obtain ⟨c7b0, c7b1⟩ := QFz c7
  (first | rw [c7b0] | rw [c7v0] | (simp only [i64_w, i32_w]; rw [c7b0]) | (simp only [i64_w, i32_w]; rw [c7v0]) | skip)
  by_cases c8 : ((rd_T64 l0 0).f0) = 2
  ·rw [if_pos c8] at H
   obtain ⟨c8b0, c8b1⟩ := QTz c8
   clear c8
   have H' := Aside0.mk H
   clear H
   go_wp2
   go_meet
   case rel => exact ⟨_, ((((rd_T64 l0 0).f0) == 2)), EZc, H', ⟨by first | omega | exact Nat.le_refl _⟩, ⟨by (with_reducible repeat first | apply blk_drewN | apply blk_drew | apply blk_alloc); refine blk_put (cs := #[.int .i64 ((rd_T64 l0 0).f0), .string ((rd_T64 l0 0).f1), .string ((rd_T64 l0 0).f2), .int .i64 0]) ?_ 3 _ rfl; (with_reducible repeat first | apply blk_drewN | apply blk_drew | apply blk_alloc); refine blk_put (cs := #[.int .i64 ((rd_T64 l0 0).f0), .string ((rd_T64 l0 0).f1), .string (⟨#[]⟩ : ByteArray), .int .i64 0]) ?_ 2 _ rfl; (with_reducible repeat first | apply blk_drewN | apply blk_drew | apply blk_alloc); refine blk_put (cs := #[.int .i64 ((rd_T64 l0 0).f0), .string (⟨#[]⟩ : ByteArray), .string (⟨#[]⟩ : ByteArray), .int .i64 0]) ?_ 1 _ rfl; (with_reducible repeat first | apply blk_drewN | apply blk_drew | apply blk_alloc); refine blk_put (cs := #[.int .i64 0, .string (⟨#[]⟩ : ByteArray), .string (⟨#[]⟩ : ByteArray), .int .i64 0]) ?_ 0 _ rfl; (with_reducible repeat first | apply blk_drewN | apply blk_drew | apply blk_alloc); exact BK196.out⟩, ⟨by repeat (first | (with_reducible first | exact HB.out | apply below_alloc | apply pw_below_drewN | apply below_drew1 | refine below_set ?_ GE196.out) | exact HB.out)⟩⟩
  rw [if_neg c8] at H
  obtain ⟨c8b0, c8b1⟩ := QFz c8
  have H' := Aside0.mk H
  clear H
  go_wp2
  go_meet
  case rel => exact ⟨_, ((((rd_T64 l0 0).f0) == 3)), EZc, H', ⟨by first | omega | exact Nat.le_refl _⟩, ⟨by (with_reducible repeat first | apply blk_drewN | apply blk_drew | apply blk_alloc); refine blk_put (cs := #[.int .i64 ((rd_T64 l0 0).f0), .string ((rd_T64 l0 0).f1), .string ((rd_T64 l0 0).f2), .int .i64 0]) ?_ 3 _ rfl; (with_reducible repeat first | apply blk_drewN | apply blk_drew | apply blk_alloc); refine blk_put (cs := #[.int .i64 ((rd_T64 l0 0).f0), .string ((rd_T64 l0 0).f1), .string (⟨#[]⟩ : ByteArray), .int .i64 0]) ?_ 2 _ rfl; (with_reducible repeat first | apply blk_drewN | apply blk_drew | apply blk_alloc); refine blk_put (cs := #[.int .i64 ((rd_T64 l0 0).f0), .string (⟨#[]⟩ : ByteArray), .string (⟨#[]⟩ : ByteArray), .int .i64 0]) ?_ 1 _ rfl; (with_reducible repeat first | apply blk_drewN | apply blk_drew | apply blk_alloc); refine blk_put (cs := #[.int .i64 0, .string (⟨#[]⟩ : ByteArray), .string (⟨#[]⟩ : ByteArray), .int .i64 0]) ?_ 0 _ rfl; (with_reducible repeat first | apply blk_drewN | apply blk_drew | apply blk_alloc); exact BK196.out⟩, ⟨by repeat (first | (with_reducible first | exact HB.out | apply below_alloc | apply pw_below_drewN | apply below_drew1 | refine below_set ?_ GE196.out) | exact HB.out)⟩⟩
 case rest =>
  clear HC4
  try clear c2
  try clear c2b0
  try clear c2b1
  try clear c2b2
  try clear c3
  try clear c3b0
  try clear c3b1
  try clear hcz6_0
  try clear hcz6_1
  try clear hcz6_2
  try clear hcz6_3
  try clear hfz6_0
  try clear hfz6_1
  try clear hfz6_2
  try clear hfz6_3
  try clear hx195_0
  try clear hx195_1
  try clear hx195_2
  try clear hx195_3
  try clear p195
  try clear q195
  obtain ⟨kq, x17_3, rfl, HA, HJ3, BK196, HB⟩ := hcut
  cases kq with
  | zero => exact absurd HA.out (by simp [Gg.j0])
  | succ kj3 =>
   have H := HA.out
   clear HA
   simp only [Gg.j0] at H
   by_cases c9 : x17_3 = true
   rotate_left
   ·replace c9 := Bool.eq_false_iff.mpr c9
    subst c9
    have H1 : (if ((rd_T64 l0 0).f0) = 5 then (if ((rd_T64 l0 0).f2).toList = ([] : List UInt8) then (if ((rd_T64 l0 0).f3) = 0 then ((Ge.f ((rd_T64 l0 0).f1)).bind fun t203 => (if t203 = true then (some (1, 1)) else (some (0, 0)))) else (some (0, 0))) else (some (0, 0))) else (if ((rd_T64 l0 0).f0) = 4 then (Gg.j3 kj3 (((rd_T64 l0 0).f0) == 4) ((rd_T64 l0 0).f0) ((rd_T64 l0 0).f1) ((rd_T64 l0 0).f2) ((rd_T64 l0 0).f3)) else (if ((rd_T64 l0 0).f0) = 6 then (Gg.j3 kj3 (((rd_T64 l0 0).f0) == 6) ((rd_T64 l0 0).f0) ((rd_T64 l0 0).f1) ((rd_T64 l0 0).f2) ((rd_T64 l0 0).f3)) else (if ((rd_T64 l0 0).f0) = 7 then (Gg.j3 kj3 (((rd_T64 l0 0).f0) == 7) ((rd_T64 l0 0).f0) ((rd_T64 l0 0).f1) ((rd_T64 l0 0).f2) ((rd_T64 l0 0).f3)) else (Gg.j3 kj3 (((rd_T64 l0 0).f0) == 8) ((rd_T64 l0 0).f0) ((rd_T64 l0 0).f1) ((rd_T64 l0 0).f2) ((rd_T64 l0 0).f3)))))) = some (r1, r2) := by rw [if_neg (show ¬ (false = true) by decide)] at H; exact H
    clear H
    have H := H1
    clear H1
    by_cases c34 : ((rd_T64 l0 0).f0) = 5
    ·rw [if_pos c34] at H
     obtain ⟨c34b0, c34b1⟩ := QTz c34
     clear c34
     by_cases c35 : ((rd_T64 l0 0).f2).toList = ([] : List UInt8)
     rotate_left
     ·rw [if_neg c35] at H
      obtain ⟨c35b0, c35b1⟩ := QFz c35
      obtain ⟨rfl, rfl⟩ := SPz H
      have hcz44_0 := C1z BK196
      have hcz44_1 := C2z BK196
      have hcz44_2 := C3z BK196
      have hcz44_3 := C4z BK196
      have hfz44_0 := blk_frozen BK196.out 0
      have hfz44_1 := blk_frozen BK196.out 1
      have hfz44_2 := blk_frozen BK196.out 2
      have hfz44_3 := blk_frozen BK196.out 3
      go_wp2
      go_ret2
      exact ⟨EZa, HBb GE196⟩
     rw [if_pos c35] at H
     obtain ⟨c35b0, c35b1⟩ := QTz c35
     clear c35
     by_cases c36 : ((rd_T64 l0 0).f3) = 0
     rotate_left
     ·rw [if_neg c36] at H
      obtain ⟨c36b0, c36b1⟩ := QFz c36
      obtain ⟨rfl, rfl⟩ := SPz H
      have hcz43_0 := C1z BK196
      have hcz43_1 := C2z BK196
      have hcz43_2 := C3z BK196
      have hcz43_3 := C4z BK196
      have hfz43_0 := blk_frozen BK196.out 0
      have hfz43_1 := blk_frozen BK196.out 1
      have hfz43_2 := blk_frozen BK196.out 2
      have hfz43_3 := blk_frozen BK196.out 3
      go_wp2
      go_ret2
      exact ⟨EZa, HBb GE196⟩
     rw [if_pos c36] at H
     obtain ⟨c36b0, c36b1⟩ := QTz c36
     clear c36
     replace H := Option.bind_eq_some_iff.mp H
     obtain ⟨t203, A370, H⟩ := H
     replace H : (if t203 = true then (some (1, 1)) else (some (0, 0))) = some (r1, r2) := H
     have A37 := Aside0.mk A370
     clear A370
     by_cases c38 : t203 = true
     ·subst c38
      have H1 : (some (1, 1)) = some (r1, r2) := by rw [if_pos rfl] at H; exact H
      clear H
      have H := H1
      clear H1
      obtain ⟨rfl, rfl⟩ := SPz H
      have hcz39_0 := C1z BK196
      have hcz39_1 := C2z BK196
      have hcz39_2 := C3z BK196
      have hcz39_3 := C4z BK196
      have hfz39_0 := blk_frozen BK196.out 0
      have hfz39_1 := blk_frozen BK196.out 1
      have hfz39_2 := blk_frozen BK196.out 2
      have hfz39_3 := blk_frozen BK196.out 3
      go_wp2_with (first | (go_at_call 59; (with_reducible refine (Ge.calls ((rd_T64 l0 0).f1) true _ A37.out).mono ?_); rintro e w40 ⟨rfl, hb⟩; have n0_ := BBz BK196 hb; have n1_ := Aside0.mk (below_step (HBb GE196) hb); clear BK196; clear HB; have BK196 := n0_; have HB := n1_; clear n0_ n1_; (try clear hb); (try clear hb2); (try clear hk); (try clear hi)))
      go_ret2
      exact ⟨EZa, HBb GE196⟩
     replace c38 := Bool.eq_false_iff.mpr c38
     subst c38
     have H1 : (some (0, 0)) = some (r1, r2) := by rw [if_neg (show ¬ (false = true) by decide)] at H; exact H
     clear H
     have H := H1
     clear H1
     obtain ⟨rfl, rfl⟩ := SPz H
     have hcz41_0 := C1z BK196
     have hcz41_1 := C2z BK196
     have hcz41_2 := C3z BK196
     have hcz41_3 := C4z BK196
     have hfz41_0 := blk_frozen BK196.out 0
     have hfz41_1 := blk_frozen BK196.out 1
     have hfz41_2 := blk_frozen BK196.out 2
     have hfz41_3 := blk_frozen BK196.out 3
     go_wp2_with (first | (go_at_call 59; (with_reducible refine (Ge.calls ((rd_T64 l0 0).f1) false _ A37.out).mono ?_); rintro e w42 ⟨rfl, hb⟩; have n0_ := BBz BK196 hb; have n1_ := Aside0.mk (below_step (HBb GE196) hb); clear BK196; clear HB; have BK196 := n0_; have HB := n1_; clear n0_ n1_; (try clear hb); (try clear hb2); (try clear hk); (try clear hi)))
     go_ret2
     exact ⟨EZa, HBb GE196⟩
    rw [if_neg c34] at H
    obtain ⟨c34b0, c34b1⟩ := QFz c34
    have HC45 := Aside0.mk H
    clear H
    go_upto_if 77 with (fail)
    go_cut [77] (fun v77 wc => ∃ (kq : Nat) (x77_44 : Bool), v77 = .bool x77_44 ∧ Aside0 (Gg.j3 kq x77_44 ((rd_T64 l0 0).f0) ((rd_T64 l0 0).f1) ((rd_T64 l0 0).f2) ((rd_T64 l0 0).f3) = some (r1, r2)) ∧ Aside0 (kq ≤ kj3) ∧ Aside0 (wc.heap[gb196]? = some (.cells #[.int .i64 ((rd_T64 l0 0).f0), .string ((rd_T64 l0 0).f1), .string ((rd_T64 l0 0).f2), .int .i64 ((rd_T64 l0 0).f3)] 64 (0, 0))) ∧ Aside0 (Below w.heap.size w wc))
    case first =>
     have H := HC45.out
     clear HC45
     by_cases c46 : ((rd_T64 l0 0).f0) = 4
     ·rw [if_pos c46] at H
      obtain ⟨c46b0, c46b1⟩ := QTz c46
      clear c46
      (first | rw [c46b0] | rw [c46v0] | (simp only [i64_w, i32_w]; rw [c46b0]) | (simp only [i64_w, i32_w]; rw [c46v0]) | skip)
      have H' := Aside0.mk H
      clear H
      go_wp2
      go_meet
      case rel => exact ⟨_, ((((rd_T64 l0 0).f0) == 4)), EZc, H', ⟨by have := HJ3.out; first | omega | exact Nat.le_refl _⟩, ⟨by (with_reducible repeat first | apply blk_drewN | apply blk_drew | apply blk_alloc); exact BK196.out⟩, ⟨by repeat (first | (with_reducible first | exact HB.out | apply below_alloc | apply pw_below_drewN | apply below_drew1 | refine below_set ?_ GE196.out) | exact HB.out)⟩⟩
     rw [if_neg c46] at H
     obtain ⟨c46b0, c46b1⟩ := QFz c46
     (first | rw [c46b0] | rw [c46v0] | (simp only [i64_w, i32_w]; rw [c46b0]) | (simp only [i64_w, i32_w]; rw [c46v0]) | skip)
     by_cases c47 : ((rd_T64 l0 0).f0) = 6
     ·rw [if_pos c47] at H
      obtain ⟨c47b0, c47b1⟩ := QTz c47
      clear c47
      have H' := Aside0.mk H
      clear H
      go_wp2
      go_meet
      case rel => exact ⟨_, ((((rd_T64 l0 0).f0) == 6)), EZc, H', ⟨by have := HJ3.out; first | omega | exact Nat.le_refl _⟩, ⟨by (with_reducible repeat first | apply blk_drewN | apply blk_drew | apply blk_alloc); exact BK196.out⟩, ⟨by repeat (first | (with_reducible first | exact HB.out | apply below_alloc | apply pw_below_drewN | apply below_drew1 | refine below_set ?_ GE196.out) | exact HB.out)⟩⟩
     rw [if_neg c47] at H
     obtain ⟨c47b0, c47b1⟩ := QFz c47
     by_cases c48 : ((rd_T64 l0 0).f0) = 7
     ·rw [if_pos c48] at H
      obtain ⟨c48b0, c48b1⟩ := QTz c48
      clear c48
      have H' := Aside0.mk H
      clear H
      go_wp2
      go_meet
      case rel => exact ⟨_, ((((rd_T64 l0 0).f0) == 7)), EZc, H', ⟨by have := HJ3.out; first | omega | exact Nat.le_refl _⟩, ⟨by (with_reducible repeat first | apply blk_drewN | apply blk_drew | apply blk_alloc); exact BK196.out⟩, ⟨by repeat (first | (with_reducible first | exact HB.out | apply below_alloc | apply pw_below_drewN | apply below_drew1 | refine below_set ?_ GE196.out) | exact HB.out)⟩⟩
     rw [if_neg c48] at H
     obtain ⟨c48b0, c48b1⟩ := QFz c48
     have H' := Aside0.mk H
     clear H
     go_wp2
     go_meet
     case rel => exact ⟨_, ((((rd_T64 l0 0).f0) == 8)), EZc, H', ⟨by have := HJ3.out; first | omega | exact Nat.le_refl _⟩, ⟨by (with_reducible repeat first | apply blk_drewN | apply blk_drew | apply blk_alloc); exact BK196.out⟩, ⟨by repeat (first | (with_reducible first | exact HB.out | apply below_alloc | apply pw_below_drewN | apply below_drew1 | refine below_set ?_ GE196.out) | exact HB.out)⟩⟩
    case rest =>
     clear HC45
     try clear c2
     try clear c2b0
     try clear c2b1
     try clear c2b2
     try clear c3
     try clear c3b0
     try clear c3b1
     try clear c9
     try clear c34
     try clear c34b0
     try clear c34b1
     try clear hcz6_0
     try clear hcz6_1
     try clear hcz6_2
     try clear hcz6_3
     try clear hfz6_0
     try clear hfz6_1
     try clear hfz6_2
     try clear hfz6_3
     try clear hx195_0
     try clear hx195_1
     try clear hx195_2
     try clear hx195_3
     try clear p195
     try clear q195
     obtain ⟨kq, x77_44, rfl, HA, HJ44, BK196, HB⟩ := hcut
     cases kq with
     | zero => exact absurd HA.out (by simp [Gg.j3])
     | succ kj44 =>
      have H := HA.out
      clear HA
      simp only [Gg.j3] at H
      by_cases c49 : x77_44 = true
      rotate_left
      ·replace c49 := Bool.eq_false_iff.mpr c49
       subst c49
       have H1 : (some (0, 0)) = some (r1, r2) := by rw [if_neg (show ¬ (false = true) by decide)] at H; exact H
       clear H
       have H := H1
       clear H1
       obtain ⟨rfl, rfl⟩ := SPz H
       go_wp2
       go_ret2
       exact ⟨EZa, HBb GE196⟩
      subst c49
      have H1 : ((Gm.f kj44 ((rd_T64 l0 0).f2)).bind fun t204 => (if t204 = true then (if ((rd_T64 l0 0).f3) = 0 then ((Ge.f ((rd_T64 l0 0).f1)).bind fun t205 => (if t205 = true then (some (1, 1)) else (some (0, 0)))) else (some (0, 0))) else (some (0, 0)))) = some (r1, r2) := by rw [if_pos rfl] at H; exact H
      clear H
      have H := H1
      clear H1
      replace H := Option.bind_eq_some_iff.mp H
      obtain ⟨t204, A500, H⟩ := H
      replace H : (if t204 = true then (if ((rd_T64 l0 0).f3) = 0 then ((Ge.f ((rd_T64 l0 0).f1)).bind fun t205 => (if t205 = true then (some (1, 1)) else (some (0, 0)))) else (some (0, 0))) else (some (0, 0))) = some (r1, r2) := H
      have A50 := Aside0.mk A500
      clear A500
      by_cases c51 : t204 = true
      rotate_left
      ·replace c51 := Bool.eq_false_iff.mpr c51
       subst c51
       have H1 : (some (0, 0)) = some (r1, r2) := by rw [if_neg (show ¬ (false = true) by decide)] at H; exact H
       clear H
       have H := H1
       clear H1
       obtain ⟨rfl, rfl⟩ := SPz H
       have hcz66_0 := C1z BK196
       have hcz66_1 := C2z BK196
       have hcz66_2 := C3z BK196
       have hcz66_3 := C4z BK196
       have hfz66_0 := blk_frozen BK196.out 0
       have hfz66_1 := blk_frozen BK196.out 1
       have hfz66_2 := blk_frozen BK196.out 2
       have hfz66_3 := blk_frozen BK196.out 3
       go_wp2_with (first | ((with_reducible refine gate_callee (f := 88) rfl ?_); refine goesL_ (some 84) rfl rfl Tryz.func88 (by kernel_rfl) rfl #[.string ((rd_T64 l0 0).f2)] rfl MPz ?_; (with_reducible refine (Gm.calls kj44 ((rd_T64 l0 0).f2) false _ A50.out).mono ?_); rintro e w67 ⟨rfl, hb⟩; refine ⟨_, rfl, ?_⟩; have n0_ := BBz BK196 hb; have n1_ := Aside0.mk (below_step (HBb GE196) hb); clear BK196; clear HB; have BK196 := n0_; have HB := n1_; clear n0_ n1_; (try clear hb); (try clear hb2); (try clear hk); (try clear hi)))
       go_ret2
       exact ⟨EZa, HBb GE196⟩
      subst c51
      have H1 : (if ((rd_T64 l0 0).f3) = 0 then ((Ge.f ((rd_T64 l0 0).f1)).bind fun t205 => (if t205 = true then (some (1, 1)) else (some (0, 0)))) else (some (0, 0))) = some (r1, r2) := by rw [if_pos rfl] at H; exact H
      clear H
      have H := H1
      clear H1
      by_cases c52 : ((rd_T64 l0 0).f3) = 0
      rotate_left
      ·rw [if_neg c52] at H
       obtain ⟨c52b0, c52b1⟩ := QFz c52
       obtain ⟨rfl, rfl⟩ := SPz H
       have hcz63_0 := C1z BK196
       have hcz63_1 := C2z BK196
       have hcz63_2 := C3z BK196
       have hcz63_3 := C4z BK196
       have hfz63_0 := blk_frozen BK196.out 0
       have hfz63_1 := blk_frozen BK196.out 1
       have hfz63_2 := blk_frozen BK196.out 2
       have hfz63_3 := blk_frozen BK196.out 3
       go_wp2_with (first | ((with_reducible refine gate_callee (f := 88) rfl ?_); refine goesL_ (some 84) rfl rfl Tryz.func88 (by kernel_rfl) rfl #[.string ((rd_T64 l0 0).f2)] rfl MPz ?_; (with_reducible refine (Gm.calls kj44 ((rd_T64 l0 0).f2) true _ A50.out).mono ?_); rintro e w64 ⟨rfl, hb⟩; refine ⟨_, rfl, ?_⟩; have n0_ := BBz BK196 hb; have n1_ := Aside0.mk (below_step (HBb GE196) hb); clear BK196; clear HB; have BK196 := n0_; have HB := n1_; clear n0_ n1_; (try clear hb); (try clear hb2); (try clear hk); (try clear hi); have hcz65_0 := C1z BK196; have hcz65_1 := C2z BK196; have hcz65_2 := C3z BK196; have hcz65_3 := C4z BK196; have hfz65_0 := blk_frozen BK196.out 0; have hfz65_1 := blk_frozen BK196.out 1; have hfz65_2 := blk_frozen BK196.out 2; have hfz65_3 := blk_frozen BK196.out 3))
       go_ret2
       exact ⟨EZa, HBb GE196⟩
      rw [if_pos c52] at H
      obtain ⟨c52b0, c52b1⟩ := QTz c52
      clear c52
      replace H := Option.bind_eq_some_iff.mp H
      obtain ⟨t205, A530, H⟩ := H
      replace H : (if t205 = true then (some (1, 1)) else (some (0, 0))) = some (r1, r2) := H
      have A53 := Aside0.mk A530
      clear A530
      by_cases c54 : t205 = true
      ·subst c54
       have H1 : (some (1, 1)) = some (r1, r2) := by rw [if_pos rfl] at H; exact H
       clear H
       have H := H1
       clear H1
       obtain ⟨rfl, rfl⟩ := SPz H
       have hcz55_0 := C1z BK196
       have hcz55_1 := C2z BK196
       have hcz55_2 := C3z BK196
       have hcz55_3 := C4z BK196
       have hfz55_0 := blk_frozen BK196.out 0
       have hfz55_1 := blk_frozen BK196.out 1
       have hfz55_2 := blk_frozen BK196.out 2
       have hfz55_3 := blk_frozen BK196.out 3
       go_wp2_with (first | ((with_reducible refine gate_callee (f := 88) rfl ?_); refine goesL_ (some 84) rfl rfl Tryz.func88 (by kernel_rfl) rfl #[.string ((rd_T64 l0 0).f2)] rfl MPz ?_; (with_reducible refine (Gm.calls kj44 ((rd_T64 l0 0).f2) true _ A50.out).mono ?_); rintro e w56 ⟨rfl, hb⟩; refine ⟨_, rfl, ?_⟩; have n0_ := BBz BK196 hb; have n1_ := Aside0.mk (below_step (HBb GE196) hb); clear BK196; clear HB; have BK196 := n0_; have HB := n1_; clear n0_ n1_; (try clear hb); (try clear hb2); (try clear hk); (try clear hi); have hcz57_0 := C1z BK196; have hcz57_1 := C2z BK196; have hcz57_2 := C3z BK196; have hcz57_3 := C4z BK196; have hfz57_0 := blk_frozen BK196.out 0; have hfz57_1 := blk_frozen BK196.out 1; have hfz57_2 := blk_frozen BK196.out 2; have hfz57_3 := blk_frozen BK196.out 3) | (go_at_call 59; (with_reducible refine (Ge.calls ((rd_T64 l0 0).f1) true _ A53.out).mono ?_); rintro e w58 ⟨rfl, hb⟩; have n0_ := BBz BK196 hb; have n1_ := Aside0.mk (below_step (HBb GE196) hb); clear BK196; clear HB; have BK196 := n0_; have HB := n1_; clear n0_ n1_; (try clear hb); (try clear hb2); (try clear hk); (try clear hi)))
       go_ret2
       exact ⟨EZa, HBb GE196⟩
      replace c54 := Bool.eq_false_iff.mpr c54
      subst c54
      have H1 : (some (0, 0)) = some (r1, r2) := by rw [if_neg (show ¬ (false = true) by decide)] at H; exact H
      clear H
      have H := H1
      clear H1
      obtain ⟨rfl, rfl⟩ := SPz H
      have hcz59_0 := C1z BK196
      have hcz59_1 := C2z BK196
      have hcz59_2 := C3z BK196
      have hcz59_3 := C4z BK196
      have hfz59_0 := blk_frozen BK196.out 0
      have hfz59_1 := blk_frozen BK196.out 1
      have hfz59_2 := blk_frozen BK196.out 2
      have hfz59_3 := blk_frozen BK196.out 3
      go_wp2_with (first | ((with_reducible refine gate_callee (f := 88) rfl ?_); refine goesL_ (some 84) rfl rfl Tryz.func88 (by kernel_rfl) rfl #[.string ((rd_T64 l0 0).f2)] rfl MPz ?_; (with_reducible refine (Gm.calls kj44 ((rd_T64 l0 0).f2) true _ A50.out).mono ?_); rintro e w60 ⟨rfl, hb⟩; refine ⟨_, rfl, ?_⟩; have n0_ := BBz BK196 hb; have n1_ := Aside0.mk (below_step (HBb GE196) hb); clear BK196; clear HB; have BK196 := n0_; have HB := n1_; clear n0_ n1_; (try clear hb); (try clear hb2); (try clear hk); (try clear hi); have hcz61_0 := C1z BK196; have hcz61_1 := C2z BK196; have hcz61_2 := C3z BK196; have hcz61_3 := C4z BK196; have hfz61_0 := blk_frozen BK196.out 0; have hfz61_1 := blk_frozen BK196.out 1; have hfz61_2 := blk_frozen BK196.out 2; have hfz61_3 := blk_frozen BK196.out 3) | (go_at_call 59; (with_reducible refine (Ge.calls ((rd_T64 l0 0).f1) false _ A53.out).mono ?_); rintro e w62 ⟨rfl, hb⟩; have n0_ := BBz BK196 hb; have n1_ := Aside0.mk (below_step (HBb GE196) hb); clear BK196; clear HB; have BK196 := n0_; have HB := n1_; clear n0_ n1_; (try clear hb); (try clear hb2); (try clear hk); (try clear hi)))
      go_ret2
      exact ⟨EZa, HBb GE196⟩
   subst c9
   have H1 : (if ((rd_T64 l0 0).f1).toList = ([] : List UInt8) then (if ((rd_T64 l0 0).f2).toList = ([] : List UInt8) then (if ((rd_T64 l0 0).f3) < 1 then (Gg.j1 kj3 l0 true ((rd_T64 l0 0).f0) ((rd_T64 l0 0).f1) ((rd_T64 l0 0).f2) ((rd_T64 l0 0).f3)) else (if ((rd_T64 l0 0).f0) = 3 then (if ((rd_T64 l0 0).f3) = 1 then (Gg.j1 kj3 l0 (decide (((rd_T64 l0 0).f3) > 20)) ((rd_T64 l0 0).f0) ((rd_T64 l0 0).f1) ((rd_T64 l0 0).f2) ((rd_T64 l0 0).f3)) else (Gg.j1 kj3 l0 true ((rd_T64 l0 0).f0) ((rd_T64 l0 0).f1) ((rd_T64 l0 0).f2) ((rd_T64 l0 0).f3))) else (Gg.j1 kj3 l0 (decide (((rd_T64 l0 0).f3) > 20)) ((rd_T64 l0 0).f0) ((rd_T64 l0 0).f1) ((rd_T64 l0 0).f2) ((rd_T64 l0 0).f3)))) else (Gg.j1 kj3 l0 true ((rd_T64 l0 0).f0) ((rd_T64 l0 0).f1) ((rd_T64 l0 0).f2) ((rd_T64 l0 0).f3))) else (Gg.j1 kj3 l0 true ((rd_T64 l0 0).f0) ((rd_T64 l0 0).f1) ((rd_T64 l0 0).f2) ((rd_T64 l0 0).f3))) = some (r1, r2) := by rw [if_pos rfl] at H; exact H
   clear H
   have H := H1
   clear H1
   have HC10 := Aside0.mk H
   clear H
   go_upto_region 9 with (fail)
   go_cut [48] (fun v48 wc => ∃ (kq : Nat) (x48_9 : Bool), v48 = .bool x48_9 ∧ Aside0 (Gg.j1 kq l0 x48_9 ((rd_T64 l0 0).f0) ((rd_T64 l0 0).f1) ((rd_T64 l0 0).f2) ((rd_T64 l0 0).f3) = some (r1, r2)) ∧ Aside0 (kq ≤ kj3) ∧ Aside0 (wc.heap[gb196]? = some (.cells #[.int .i64 ((rd_T64 l0 0).f0), .string ((rd_T64 l0 0).f1), .string ((rd_T64 l0 0).f2), .int .i64 ((rd_T64 l0 0).f3)] 64 (0, 0))) ∧ Aside0 (Below w.heap.size w wc))
   case first =>
    have H := HC10.out
    clear HC10
    by_cases c11 : ((rd_T64 l0 0).f1).toList = ([] : List UInt8)
    rotate_left
    ·rw [if_neg c11] at H
     obtain ⟨c11b0, c11b1⟩ := QFz c11
     (first | rw [c11b0] | rw [c11v0] | (simp only [i64_w, i32_w]; rw [c11b0]) | (simp only [i64_w, i32_w]; rw [c11v0]) | skip)
     have H' := Aside0.mk H
     clear H
     have hcz21_0 := C1z BK196
     have hcz21_1 := C2z BK196
     have hcz21_2 := C3z BK196
     have hcz21_3 := C4z BK196
     have hfz21_0 := blk_frozen BK196.out 0
     have hfz21_1 := blk_frozen BK196.out 1
     have hfz21_2 := blk_frozen BK196.out 2
     have hfz21_3 := blk_frozen BK196.out 3
     go_wp2
     go_meet
     case rel => exact ⟨_, (true), EZc, H', ⟨by have := HJ3.out; first | omega | exact Nat.le_refl _⟩, ⟨by (with_reducible repeat first | apply blk_drewN | apply blk_drew | apply blk_alloc); exact BK196.out⟩, ⟨by repeat (first | (with_reducible first | exact HB.out | apply below_alloc | apply pw_below_drewN | apply below_drew1 | refine below_set ?_ GE196.out) | exact HB.out)⟩⟩
    rw [if_pos c11] at H
    obtain ⟨c11b0, c11b1⟩ := QTz c11
    clear c11
    (first | rw [c11b0] | rw [c11v0] | (simp only [i64_w, i32_w]; rw [c11b0]) | (simp only [i64_w, i32_w]; rw [c11v0]) | skip)
    by_cases c12 : ((rd_T64 l0 0).f2).toList = ([] : List UInt8)
    rotate_left
    ·rw [if_neg c12] at H
     obtain ⟨c12b0, c12b1⟩ := QFz c12
     have H' := Aside0.mk H
     clear H
     have hcz20_0 := C1z BK196
     have hcz20_1 := C2z BK196
     have hcz20_2 := C3z BK196
     have hcz20_3 := C4z BK196
     have hfz20_0 := blk_frozen BK196.out 0
     have hfz20_1 := blk_frozen BK196.out 1
     have hfz20_2 := blk_frozen BK196.out 2
     have hfz20_3 := blk_frozen BK196.out 3
     go_wp2
     go_meet
     case rel => exact ⟨_, (true), EZc, H', ⟨by have := HJ3.out; first | omega | exact Nat.le_refl _⟩, ⟨by (with_reducible repeat first | apply blk_drewN | apply blk_drew | apply blk_alloc); exact BK196.out⟩, ⟨by repeat (first | (with_reducible first | exact HB.out | apply below_alloc | apply pw_below_drewN | apply below_drew1 | refine below_set ?_ GE196.out) | exact HB.out)⟩⟩
    rw [if_pos c12] at H
    obtain ⟨c12b0, c12b1⟩ := QTz c12
    clear c12
    by_cases c13 : ((rd_T64 l0 0).f3) < 1
    ·rw [if_pos c13] at H
     have c13b0 := decide_eq_true c13
     clear c13
     have H' := Aside0.mk H
     clear H
     have hcz14_0 := C1z BK196
     have hcz14_1 := C2z BK196
     have hcz14_2 := C3z BK196
     have hcz14_3 := C4z BK196
     have hfz14_0 := blk_frozen BK196.out 0
     have hfz14_1 := blk_frozen BK196.out 1
     have hfz14_2 := blk_frozen BK196.out 2
     have hfz14_3 := blk_frozen BK196.out 3
     go_wp2
     go_meet
     case rel => exact ⟨_, (true), EZc, H', ⟨by have := HJ3.out; first | omega | exact Nat.le_refl _⟩, ⟨by (with_reducible repeat first | apply blk_drewN | apply blk_drew | apply blk_alloc); exact BK196.out⟩, ⟨by repeat (first | (with_reducible first | exact HB.out | apply below_alloc | apply pw_below_drewN | apply below_drew1 | refine below_set ?_ GE196.out) | exact HB.out)⟩⟩
    rw [if_neg c13] at H
    have c13b0 := decide_eq_false c13
    clear c13
    by_cases c15 : ((rd_T64 l0 0).f0) = 3
    rotate_left
    ·rw [if_neg c15] at H
     obtain ⟨c15b0, c15b1⟩ := QFz c15
     have H' := Aside0.mk H
     clear H
     have hcz19_0 := C1z BK196
     have hcz19_1 := C2z BK196
     have hcz19_2 := C3z BK196
     have hcz19_3 := C4z BK196
     have hfz19_0 := blk_frozen BK196.out 0
     have hfz19_1 := blk_frozen BK196.out 1
     have hfz19_2 := blk_frozen BK196.out 2
     have hfz19_3 := blk_frozen BK196.out 3
     go_wp2
     go_meet
     case rel => exact ⟨_, (decide (((rd_T64 l0 0).f3) > 20)), EZc, H', ⟨by have := HJ3.out; first | omega | exact Nat.le_refl _⟩, ⟨by (with_reducible repeat first | apply blk_drewN | apply blk_drew | apply blk_alloc); exact BK196.out⟩, ⟨by repeat (first | (with_reducible first | exact HB.out | apply below_alloc | apply pw_below_drewN | apply below_drew1 | refine below_set ?_ GE196.out) | exact HB.out)⟩⟩
    rw [if_pos c15] at H
    obtain ⟨c15b0, c15b1⟩ := QTz c15
    clear c15
    by_cases c16 : ((rd_T64 l0 0).f3) = 1
    ·rw [if_pos c16] at H
     obtain ⟨c16b0, c16b1⟩ := QTz c16
     clear c16
     have H' := Aside0.mk H
     clear H
     have hcz17_0 := C1z BK196
     have hcz17_1 := C2z BK196
     have hcz17_2 := C3z BK196
     have hcz17_3 := C4z BK196
     have hfz17_0 := blk_frozen BK196.out 0
     have hfz17_1 := blk_frozen BK196.out 1
     have hfz17_2 := blk_frozen BK196.out 2
     have hfz17_3 := blk_frozen BK196.out 3
     go_wp2
     go_meet
     case rel => exact ⟨_, (decide (((rd_T64 l0 0).f3) > 20)), EZc, H', ⟨by have := HJ3.out; first | omega | exact Nat.le_refl _⟩, ⟨by (with_reducible repeat first | apply blk_drewN | apply blk_drew | apply blk_alloc); exact BK196.out⟩, ⟨by repeat (first | (with_reducible first | exact HB.out | apply below_alloc | apply pw_below_drewN | apply below_drew1 | refine below_set ?_ GE196.out) | exact HB.out)⟩⟩
    rw [if_neg c16] at H
    obtain ⟨c16b0, c16b1⟩ := QFz c16
    have H' := Aside0.mk H
    clear H
    have hcz18_0 := C1z BK196
    have hcz18_1 := C2z BK196
    have hcz18_2 := C3z BK196
    have hcz18_3 := C4z BK196
    have hfz18_0 := blk_frozen BK196.out 0
    have hfz18_1 := blk_frozen BK196.out 1
    have hfz18_2 := blk_frozen BK196.out 2
    have hfz18_3 := blk_frozen BK196.out 3
    go_wp2
    go_meet
    case rel => exact ⟨_, (true), EZc, H', ⟨by have := HJ3.out; first | omega | exact Nat.le_refl _⟩, ⟨by (with_reducible repeat first | apply blk_drewN | apply blk_drew | apply blk_alloc); exact BK196.out⟩, ⟨by repeat (first | (with_reducible first | exact HB.out | apply below_alloc | apply pw_below_drewN | apply below_drew1 | refine below_set ?_ GE196.out) | exact HB.out)⟩⟩
   case rest =>
    clear HC10
    try clear c2
    try clear c2b0
    try clear c2b1
    try clear c2b2
    try clear c3
    try clear c3b0
    try clear c3b1
    try clear c9
    try clear hcz6_0
    try clear hcz6_1
    try clear hcz6_2
    try clear hcz6_3
    try clear hfz6_0
    try clear hfz6_1
    try clear hfz6_2
    try clear hfz6_3
    try clear hx195_0
    try clear hx195_1
    try clear hx195_2
    try clear hx195_3
    try clear p195
    try clear q195
    obtain ⟨kq, x48_9, rfl, HA, HJ9, BK196, HB⟩ := hcut
    cases kq with
    | zero => exact absurd HA.out (by simp [Gg.j1])
    | succ kj9 =>
     have H := HA.out
     clear HA
     simp only [Gg.j1] at H
     by_cases c22 : x48_9 = true
     ·subst c22
      have H1 : (some (0, 0)) = some (r1, r2) := by rw [if_pos rfl] at H; exact H
      clear H
      have H := H1
      clear H1
      obtain ⟨rfl, rfl⟩ := SPz H
      go_wp2
      go_ret2
      exact ⟨EZa, HBb GE196⟩
     replace c22 := Bool.eq_false_iff.mpr c22
     subst c22
     have H1 : (Gg.l0 kj9 l0 1 0 ((rd_T64 l0 0).f3) 0) = some (r1, r2) := by rw [if_neg (show ¬ (false = true) by decide)] at H; exact H
     clear H
     have H := H1
     clear H1
     have H' := Aside0.mk H
     clear H
     have hcz23_0 := C1z BK196
     have hcz23_1 := C2z BK196
     have hcz23_2 := C3z BK196
     have hcz23_3 := C4z BK196
     have hfz23_0 := blk_frozen BK196.out 0
     have hfz23_1 := blk_frozen BK196.out 1
     have hfz23_2 := blk_frozen BK196.out 2
     have hfz23_3 := blk_frozen BK196.out 3
     go_wp2
     go_loopg [5, 6, 51] kj9 (fun kq v5 v6 v51 w' => ∃ (x5_3 : Int) (x6_3 : Int) (x51_3 : Int), v5 = .int .i64 x5_3 ∧ v6 = .int .i64 x6_3 ∧ v51 = .int .i64 x51_3 ∧ Aside0 (Gg.l0 kq l0 x5_3 x6_3 ((rd_T64 l0 0).f3) x51_3 = some (r1, r2)) ∧ Aside0 (kq ≤ kj9) ∧ Aside0 (w'.heap[gb196]? = some (.cells #[.int .i64 ((rd_T64 l0 0).f0), .string ((rd_T64 l0 0).f1), .string ((rd_T64 l0 0).f2), .int .i64 ((rd_T64 l0 0).f3)] 64 (0, 0))) ∧ Aside0 (Below w.heap.size w w'))
     case atStart => exact ⟨(1), (0), (0), EZc, EZc, EZc, H', ⟨Nat.le_refl _⟩, ⟨by (with_reducible repeat first | apply blk_drewN | apply blk_drew | apply blk_alloc); exact BK196.out⟩, ⟨by repeat (first | (with_reducible first | exact HB.out | apply below_alloc | apply pw_below_drewN | apply below_drew1 | refine below_set ?_ GE196.out) | exact HB.out)⟩⟩
     case round =>
      clear H'
      try clear c2
      try clear c2b0
      try clear c2b1
      try clear c2b2
      try clear c3
      try clear c3b0
      try clear c3b1
      try clear c9
      try clear c22
      try clear hcz23_0
      try clear hcz23_1
      try clear hcz23_2
      try clear hcz23_3
      try clear hcz6_0
      try clear hcz6_1
      try clear hcz6_2
      try clear hcz6_3
      try clear hfz23_0
      try clear hfz23_1
      try clear hfz23_2
      try clear hfz23_3
      try clear hfz6_0
      try clear hfz6_1
      try clear hfz6_2
      try clear hfz6_3
      try clear hx195_0
      try clear hx195_1
      try clear hx195_2
      try clear hx195_3
      try clear p195
      try clear q195
      obtain ⟨x5_3, x6_3, x51_3, rfl, rfl, rfl, HA, HK3, BK196, HB⟩ := hrel
      cases gk with
      | zero => exact absurd HA.out (by simp [Gg.l0])
      | succ k3 =>
       have H := HA.out
       clear HA
       simp only [Gg.l0] at H
       by_cases c24 : x51_3 < ((rd_T64 l0 0).f3)
       rotate_left
       ·rw [if_neg c24] at H
        have c24b0 := decide_eq_false c24
        clear c24
        obtain ⟨rfl, rfl⟩ := SPz H
        go_wp2
        go_ret2
        exact ⟨EZa, HBb GE196⟩
       rw [if_pos c24] at H
       have c24b0 := decide_eq_true c24
       clear c24
       by_cases c25 : 0 ≤ x5_3
       rotate_left
       ·rw [if_neg c25] at H
        exact absurd H (by simp)
       rw [if_pos c25] at H
       have c25b0 := eq_true c25
       have c25b1 := decide_eq_true c25
       clear c25
       by_cases c26 : x5_3 ≤ (l0.length : Int)
       rotate_left
       ·rw [if_neg c26] at H
        exact absurd H (by simp)
       rw [if_pos c26] at H
       have c26b0 := eq_true c26
       have c26b1 := decide_eq_true c26
       clear c26
       obtain ⟨y197, hy197⟩ : ∃ y_ : List (S64), y_ = (l0.drop (x5_3 : Int).toNat) := ⟨_, rfl⟩
       replace H : ((Gg.f k3 y197).bind fun bt201 => (if bt201.1 = 0 then (some (0, 0)) else (Gg.l0 k3 l0 (wrap64 (x5_3 + bt201.1)) (mx x6_3 bt201.2) ((rd_T64 l0 0).f3) (wrap64 (x51_3 + 1))))) = some (r1, r2) := by first | (rw [hy197]; with_reducible exact H) | (have H2_ := (Option.bind_some _ _).symm.trans H; rw [hy197]; with_reducible exact H2_) | (have H2_ := (Option.bind_some _ _).symm.trans H; with_reducible exact H2_) | with_reducible exact H | (rw [hy197]; exact H) | exact H
       have Ny197 := Aside0.mk hy197
       clear hy197
       replace H := Option.bind_eq_some_iff.mp H
       obtain ⟨⟨t201, t202⟩, A270, H⟩ := H
       replace H : (if t201 = 0 then (some (0, 0)) else (Gg.l0 k3 l0 (wrap64 (x5_3 + t201)) (mx x6_3 t202) ((rd_T64 l0 0).f3) (wrap64 (x51_3 + 1)))) = some (r1, r2) := H
       have A27 := Aside0.mk A270
       clear A270
       by_cases c28 : t201 = 0
       ·rw [if_pos c28] at H
        obtain ⟨c28b0, c28b1⟩ := QTz c28
        clear c28
        obtain ⟨rfl, rfl⟩ := SPz H
        have q29 : (x5_3 : Int) ≤ ((l0.length : Int) : Int) := ODz
        obtain ⟨i029, hi029, _, hsz29, _⟩ := info_parts info64
        have hroom29 : l0.length ≤ c0 := HC0.out
        have hC29 : Kd.C k64 _ (some ad195) l0.length l0 := HR0.out
        have q029 : (0 : Int) ≤ (x5_3 : Int) := ODz
        have hcut29 := cut_from (P := Tryz.prog) 25 64 .i64 Tryz.underlying25 hi029 4 hsz29 (some ad195) l0.length c0 x5_3 q029 q29
        have hr29 := Kd.C_drop (m := (x5_3 : Int).toNat) (c := c0) hC29 (by omega) hroom29
        obtain ⟨A29, hA29⟩ : ∃ A1, A1 = (if c0 = (x5_3 : Int).toNat then (some ad195) else ((some ad195) : Option Addr).map (·.add ((x5_3 : Int).toNat * 4))) := ⟨_, rfl⟩
        obtain ⟨c29, hc29⟩ : ∃ c1, c1 = c0 - (x5_3 : Int).toNat := ⟨_, rfl⟩
        have hy29 : y197.length = l0.length - (x5_3 : Int).toNat := (by rw [Ny197.out, List.length_drop] <;> omega)
        rw [show (l0).drop (x5_3 : Int).toNat = y197 from Ny197.out.symm] at hr29
        replace hr29 : Kd.C k64 _ A29 y197.length y197 := (by rw [hA29]; exact hr29)
        rw [← hy29, ← hA29, ← hc29] at hcut29
        have HR200 := Aside0.mk hr29
        have HC200 := Aside0.mk (show y197.length ≤ c29 from by rw [hy29, hc29]; exact Nat.sub_le_sub_right hroom29 _)
        clear hr29 hC29 hroom29 hi029 hsz29 hc29
        have KY29 := Aside0.mk hy29
        have KA29 := Aside0.mk hA29
        clear hy29 hA29
        replace q29 := eq_true q29
        go_wp2_with (first | ((with_reducible refine gate_callee (f := 49) rfl ?_); refine goesL_ (some 57) rfl rfl Tryz.func49 (by kernel_rfl) rfl #[.slice A29 y197.length c29] rfl MPz ?_; (with_reducible refine (ih k3 (by have := HJ3.out; have := HJ9.out; have := HK3.out; omega) _ _ y197 t201 t202 _ ?side1 ?side2 A27.out).mono ?_); (case side1 => exact KCz (Kd.C_below HR200.out HB.out)); (case side2 => exact HC200.out); rintro e w30 ⟨rfl, hb⟩; refine ⟨_, rfl, ?_⟩; have n0_ := BBz BK196 hb; have n1_ := Aside0.mk (below_step (HBb GE196) hb); clear BK196; clear HB; have BK196 := n0_; have HB := n1_; clear n0_ n1_; (try clear hb); (try clear hb2); (try clear hk); (try clear hi)))
        go_ret2
        exact ⟨EZa, HBb GE196⟩
       rw [if_neg c28] at H
       obtain ⟨c28b0, c28b1⟩ := QFz c28
       obtain ⟨ji31, hji31⟩ : ∃ j_ : Int, (mx x6_3 t202) = j_ := ⟨_, rfl⟩
       replace H : (Gg.l0 k3 l0 (wrap64 (x5_3 + t201)) ji31 ((rd_T64 l0 0).f3) (wrap64 (x51_3 + 1))) = some (r1, r2) := by first | (rw [hji31] at H; exact H) | (simp only [hji31] at H ⊢; exact H)
       (try rw [hji31] at A27)
       have hji31_ : (if x6_3 < t202 then t202 else x6_3) = ji31 := hji31
       have H' := Aside0.mk H
       clear H
       have q32 : (x5_3 : Int) ≤ ((l0.length : Int) : Int) := ODz
       obtain ⟨i032, hi032, _, hsz32, _⟩ := info_parts info64
       have hroom32 : l0.length ≤ c0 := HC0.out
       have hC32 : Kd.C k64 _ (some ad195) l0.length l0 := HR0.out
       have q032 : (0 : Int) ≤ (x5_3 : Int) := ODz
       have hcut32 := cut_from (P := Tryz.prog) 25 64 .i64 Tryz.underlying25 hi032 4 hsz32 (some ad195) l0.length c0 x5_3 q032 q32
       have hr32 := Kd.C_drop (m := (x5_3 : Int).toNat) (c := c0) hC32 (by omega) hroom32
       obtain ⟨A32, hA32⟩ : ∃ A1, A1 = (if c0 = (x5_3 : Int).toNat then (some ad195) else ((some ad195) : Option Addr).map (·.add ((x5_3 : Int).toNat * 4))) := ⟨_, rfl⟩
       obtain ⟨c32, hc32⟩ : ∃ c1, c1 = c0 - (x5_3 : Int).toNat := ⟨_, rfl⟩
       have hy32 : y197.length = l0.length - (x5_3 : Int).toNat := (by rw [Ny197.out, List.length_drop] <;> omega)
       rw [show (l0).drop (x5_3 : Int).toNat = y197 from Ny197.out.symm] at hr32
       replace hr32 : Kd.C k64 _ A32 y197.length y197 := (by rw [hA32]; exact hr32)
       rw [← hy32, ← hA32, ← hc32] at hcut32
       have HR200 := Aside0.mk hr32
       have HC200 := Aside0.mk (show y197.length ≤ c32 from by rw [hy32, hc32]; exact Nat.sub_le_sub_right hroom32 _)
       clear hr32 hC32 hroom32 hi032 hsz32 hc32
       have KY32 := Aside0.mk hy32
       have KA32 := Aside0.mk hA32
       clear hy32 hA32
       replace q32 := eq_true q32
       go_wp2_with (first | ((with_reducible refine gate_callee (f := 49) rfl ?_); refine goesL_ (some 57) rfl rfl Tryz.func49 (by kernel_rfl) rfl #[.slice A32 y197.length c32] rfl MPz ?_; (with_reducible refine (ih k3 (by have := HJ3.out; have := HJ9.out; have := HK3.out; omega) _ _ y197 t201 t202 _ ?side1 ?side2 A27.out).mono ?_); (case side1 => exact KCz (Kd.C_below HR200.out HB.out)); (case side2 => exact HC200.out); rintro e w33 ⟨rfl, hb⟩; refine ⟨_, rfl, ?_⟩; have n0_ := BBz BK196 hb; have n1_ := Aside0.mk (below_step (HBb GE196) hb); clear BK196; clear HB; have BK196 := n0_; have HB := n1_; clear n0_ n1_; (try clear hb); (try clear hb2); (try clear hk); (try clear hi)))
       go_roundg k3
       case measure => have := HJ3.out; have := HJ9.out; have := HK3.out; omega
       case rel => exact ⟨(wrap64 (x5_3 + t201)), (ji31), (wrap64 (x51_3 + 1)), EZc, (by first | rfl | (simp; done) | (simp only [← hji31] <;> (first | rfl | simp)) | (simp [*]; done)), EZc, H', ⟨by have := HJ3.out; have := HJ9.out; have := HK3.out; omega⟩, ⟨by (with_reducible repeat first | apply blk_drewN | apply blk_drew | apply blk_alloc); exact BK196.out⟩, ⟨by repeat (first | (with_reducible first | exact HB.out | apply below_alloc | apply pw_below_drewN | apply below_drew1 | refine below_set ?_ GE196.out) | exact HB.out)⟩⟩
end Go.Proofs.YtmkeigielncpjaaGreatDoor.PFnFilter
