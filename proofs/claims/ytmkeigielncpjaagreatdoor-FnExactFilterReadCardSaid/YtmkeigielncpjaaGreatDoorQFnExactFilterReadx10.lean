-- Laid by this session's own program out of the translation; Lean checks it.
import Derived.Test.YtmkeigielncpjaaGreatDoorQFnExactFilterReadx0
import Derived.Test.YtmkeigielncpjaaGreatDoorQFnExactFilterReadx8
import Derived.Test.YtmkeigielncpjaaGreatDoorQFnExactFilterReadx9
namespace Go.Proofs.YtmkeigielncpjaaGreatDoor.PFnExactFilterRead
open Go.RowKit Go.Proofs.YtmkeigielncpjaaGreatDoorW.PrintWords Go.Proofs.YtmkeigielncpjaaGreatDoorW.PrintLast Go.Proofs.YtmkeigielncpjaaGreatDoorW.PrintMore
attribute [local go_sem] max2_int min2_int max_two min_two max_three min_three max_four min_four   -- for this text's walks alone
set_option linter.unusedVariables false
set_option linter.unusedSimpArgs false
mutual
def Gf.j0 : Nat → List (S64) → Int → Bool → Int → ByteArray → ByteArray → Int → Option (Int × Int)
 | 0, _, _, _, _, _, _, _ => none
 | k + 1, x0, x16, x17, x208000, x208001, x208002, x208003 => if x17 = true then (if x208001.toList = ([] : List UInt8) then (if x208002.toList = ([] : List UInt8) then (if x208003 < 1 then (Gf.j1 k x0 true x208000 x208001 x208002 x208003) else (if x208000 = 3 then (if x208003 = 1 then (Gf.j1 k x0 (decide (x208003 > 20)) x208000 x208001 x208002 x208003) else (Gf.j1 k x0 true x208000 x208001 x208002 x208003)) else (Gf.j1 k x0 (decide (x208003 > 20)) x208000 x208001 x208002 x208003))) else (Gf.j1 k x0 true x208000 x208001 x208002 x208003)) else (Gf.j1 k x0 true x208000 x208001 x208002 x208003)) else (if x16 = 5 then (if x208002.toList = ([] : List UInt8) then (if x208003 = 0 then ((Gd.f x208001).bind fun t214 => (if t214 = true then (some (1, 1)) else (some (0, 0)))) else (some (0, 0))) else (some (0, 0))) else (if x16 = 4 then (Gf.j3 k (x16 == 4) x208000 x208001 x208002 x208003) else (if x16 = 6 then (Gf.j3 k (x16 == 6) x208000 x208001 x208002 x208003) else (if x16 = 7 then (Gf.j3 k (x16 == 7) x208000 x208001 x208002 x208003) else (Gf.j3 k (x16 == 8) x208000 x208001 x208002 x208003)))))
def Gf.j1 : Nat → List (S64) → Bool → Int → ByteArray → ByteArray → Int → Option (Int × Int)
 | 0, _, _, _, _, _, _ => none
 | k + 1, x0, x48, x208000, x208001, x208002, x208003 => if x48 = true then (some (0, 0)) else (Gf.l0 k x0 1 0 x208003 0)
def Gf.l0 : Nat → List (S64) → Int → Int → Int → Int → Option (Int × Int)
 | 0, _, _, _, _, _ => none
 | k + 1, x0, x5, x6, x50, x51 => if x51 < x50 then (if 0 ≤ x5 then (if x5 ≤ (x0.length : Int) then ((Gf.f k (x0.drop (x5 : Int).toNat)).bind fun bt212 => (if bt212.1 = 0 then (some (0, 0)) else (Gf.l0 k x0 (wrap64 (x5 + bt212.1)) (mx x6 bt212.2) x50 (wrap64 (x51 + 1))))) else (none)) else (none)) else (some (x5, wrap64 (x6 + 1)))
def Gf.j3 : Nat → Bool → Int → ByteArray → ByteArray → Int → Option (Int × Int)
 | 0, _, _, _, _, _ => none
 | k + 1, x77, x208000, x208001, x208002, x208003 => if x77 = true then ((Gj.f k x208002).bind fun t215 => (if t215 = true then (if x208003 = 0 then ((Gd.f x208001).bind fun t216 => (if t216 = true then (some (1, 1)) else (some (0, 0)))) else (some (0, 0))) else (some (0, 0)))) else (some (0, 0))
def Gf.f : Nat → List (S64) → Option (Int × Int)
 | 0, _ => none
 | k + 1, l0 => if (l0.length : Int) = 0 then (some (0, 0)) else (if 0 < (l0.length : Int) then (if ((rd_T64 l0 0).f0) = 1 then (Gf.j0 k l0 ((rd_T64 l0 0).f0) (((rd_T64 l0 0).f0) == 1) ((rd_T64 l0 0).f0) ((rd_T64 l0 0).f1) ((rd_T64 l0 0).f2) ((rd_T64 l0 0).f3)) else (if ((rd_T64 l0 0).f0) = 2 then (Gf.j0 k l0 ((rd_T64 l0 0).f0) (((rd_T64 l0 0).f0) == 2) ((rd_T64 l0 0).f0) ((rd_T64 l0 0).f1) ((rd_T64 l0 0).f2) ((rd_T64 l0 0).f3)) else (Gf.j0 k l0 ((rd_T64 l0 0).f0) (((rd_T64 l0 0).f0) == 3) ((rd_T64 l0 0).f0) ((rd_T64 l0 0).f1) ((rd_T64 l0 0).f2) ((rd_T64 l0 0).f3)))) else (none))
end
theorem Gf.mono_l : ∀ k, (∀ y0, LeO (Gf.f k y0) (Gf.f (k + 1) y0)) ∧ (∀ y0 y1 y2 y3 y4 y5 y6, LeO (Gf.j0 k y0 y1 y2 y3 y4 y5 y6) (Gf.j0 (k + 1) y0 y1 y2 y3 y4 y5 y6)) ∧ (∀ y0 y1 y2 y3 y4 y5, LeO (Gf.j1 k y0 y1 y2 y3 y4 y5) (Gf.j1 (k + 1) y0 y1 y2 y3 y4 y5)) ∧ (∀ y0 y1 y2 y3 y4, LeO (Gf.l0 k y0 y1 y2 y3 y4) (Gf.l0 (k + 1) y0 y1 y2 y3 y4)) ∧ (∀ y0 y1 y2 y3 y4, LeO (Gf.j3 k y0 y1 y2 y3 y4) (Gf.j3 (k + 1) y0 y1 y2 y3 y4))
 | 0 => ⟨fun _ r h => by simp [Gf.f] at h, fun _ _ _ _ _ _ _ r h => by simp [Gf.j0] at h, fun _ _ _ _ _ _ r h => by simp [Gf.j1] at h, fun _ _ _ _ _ r h => by simp [Gf.l0] at h, fun _ _ _ _ _ r h => by simp [Gf.j3] at h⟩
 | k + 1 => by
  obtain ⟨ih0, ih1, ih2, ih3, ih4⟩ := Gf.mono_l k
  refine ⟨?_, ?_, ?_, ?_, ?_⟩
  ·intro y0
   unfold Gf.f
   repeat' first
   | (with_reducible exact ih0 _)
   | (with_reducible exact ih1 _ _ _ _ _ _ _)
   | (with_reducible exact ih2 _ _ _ _ _ _)
   | (with_reducible exact ih3 _ _ _ _ _)
   | (with_reducible exact ih4 _ _ _ _ _)
   | (with_reducible exact Gj.mono _ _)
   | (with_reducible exact LeO.refl _)
   | (with_reducible exact LeO.none _)
   | (with_reducible refine LeO.ite ?_ ?_)
   | (with_reducible refine LeO.bind ?_ (fun _ => ?_))
   | exact ih0 _
   | exact ih1 _ _ _ _ _ _ _
   | exact ih2 _ _ _ _ _ _
   | exact ih3 _ _ _ _ _
   | exact ih4 _ _ _ _ _
   | exact Gj.mono _ _
   | exact LeO.none _
   | refine LeO.ite ?_ ?_
   | refine LeO.bind ?_ (fun _ => ?_)
  ·intro y0 y1 y2 y3 y4 y5 y6
   unfold Gf.j0
   repeat' first
   | (with_reducible exact ih0 _)
   | (with_reducible exact ih1 _ _ _ _ _ _ _)
   | (with_reducible exact ih2 _ _ _ _ _ _)
   | (with_reducible exact ih3 _ _ _ _ _)
   | (with_reducible exact ih4 _ _ _ _ _)
   | (with_reducible exact Gj.mono _ _)
   | (with_reducible exact LeO.refl _)
   | (with_reducible exact LeO.none _)
   | (with_reducible refine LeO.ite ?_ ?_)
   | (with_reducible refine LeO.bind ?_ (fun _ => ?_))
   | exact ih0 _
   | exact ih1 _ _ _ _ _ _ _
   | exact ih2 _ _ _ _ _ _
   | exact ih3 _ _ _ _ _
   | exact ih4 _ _ _ _ _
   | exact Gj.mono _ _
   | exact LeO.none _
   | refine LeO.ite ?_ ?_
   | refine LeO.bind ?_ (fun _ => ?_)
  ·intro y0 y1 y2 y3 y4 y5
   unfold Gf.j1
   repeat' first
   | (with_reducible exact ih0 _)
   | (with_reducible exact ih1 _ _ _ _ _ _ _)
   | (with_reducible exact ih2 _ _ _ _ _ _)
   | (with_reducible exact ih3 _ _ _ _ _)
   | (with_reducible exact ih4 _ _ _ _ _)
   | (with_reducible exact Gj.mono _ _)
   | (with_reducible exact LeO.refl _)
   | (with_reducible exact LeO.none _)
   | (with_reducible refine LeO.ite ?_ ?_)
   | (with_reducible refine LeO.bind ?_ (fun _ => ?_))
   | exact ih0 _
   | exact ih1 _ _ _ _ _ _ _
   | exact ih2 _ _ _ _ _ _
   | exact ih3 _ _ _ _ _
   | exact ih4 _ _ _ _ _
   | exact Gj.mono _ _
   | exact LeO.none _
   | refine LeO.ite ?_ ?_
   | refine LeO.bind ?_ (fun _ => ?_)
  ·intro y0 y1 y2 y3 y4
   unfold Gf.l0
   repeat' first
   | (with_reducible exact ih0 _)
   | (with_reducible exact ih1 _ _ _ _ _ _ _)
   | (with_reducible exact ih2 _ _ _ _ _ _)
   | (with_reducible exact ih3 _ _ _ _ _)
   | (with_reducible exact ih4 _ _ _ _ _)
   | (with_reducible exact Gj.mono _ _)
   | (with_reducible exact LeO.refl _)
   | (with_reducible exact LeO.none _)
   | (with_reducible refine LeO.ite ?_ ?_)
   | (with_reducible refine LeO.bind ?_ (fun _ => ?_))
   | exact ih0 _
   | exact ih1 _ _ _ _ _ _ _
   | exact ih2 _ _ _ _ _ _
   | exact ih3 _ _ _ _ _
   | exact ih4 _ _ _ _ _
   | exact Gj.mono _ _
   | exact LeO.none _
   | refine LeO.ite ?_ ?_
   | refine LeO.bind ?_ (fun _ => ?_)
  ·intro y0 y1 y2 y3 y4
   unfold Gf.j3
   repeat' first
   | (with_reducible exact ih0 _)
   | (with_reducible exact ih1 _ _ _ _ _ _ _)
   | (with_reducible exact ih2 _ _ _ _ _ _)
   | (with_reducible exact ih3 _ _ _ _ _)
   | (with_reducible exact ih4 _ _ _ _ _)
   | (with_reducible exact Gj.mono _ _)
   | (with_reducible exact LeO.refl _)
   | (with_reducible exact LeO.none _)
   | (with_reducible refine LeO.ite ?_ ?_)
   | (with_reducible refine LeO.bind ?_ (fun _ => ?_))
   | exact ih0 _
   | exact ih1 _ _ _ _ _ _ _
   | exact ih2 _ _ _ _ _ _
   | exact ih3 _ _ _ _ _
   | exact ih4 _ _ _ _ _
   | exact Gj.mono _ _
   | exact LeO.none _
   | refine LeO.ite ?_ ?_
   | refine LeO.bind ?_ (fun _ => ?_)
theorem Gf.mono : ∀ a0 k, LeO (Gf.f k a0) (Gf.f (k + 1) a0) := by
 intro a0 k
 obtain ⟨ih0, ih1, ih2, ih3, ih4⟩ := Gf.mono_l k
 exact ih0 a0
set_option maxHeartbeats 8000000 in
set_option maxRecDepth 100000 in
theorem Gf.calls (k : Nat) : ∀ (A0 : Option Addr) (c0 : Nat) (l0 : List (S64)) (r1 : Int) (r2 : Int) (w : World) (hr0 : Kd.C k64 w A0 l0.length l0) (hc0 : l0.length ≤ c0) (h : Gf.f k l0 = some (r1, r2)),
  Calls Tryz.prog 49 #[.slice A0 l0.length c0] w fun e w' => e = .returned (.tuple #[.int .i64 r1, .int .i64 r2]) ∧ Below w.heap.size w w' := by
 induction k using Nat.strongRecOn with
 | _ k ih =>
 intro A0 c0 l0 r1 r2 w hr0 hc0 h
 cases k with
 | zero => exact absurd h (by simp [Gf.f])
 | succ k =>
 simp only [Gf.f] at h
 have hu64 := Tryz.underlying64
 have HR0 := Aside0.mk hr0
 have HC0 := Aside0.mk hc0
 clear hr0 hc0
 have HB := Aside0.mk (Below.refl w.heap.size w)
 have H : (if (l0.length : Int) = 0 then (some (0, 0)) else (if 0 < (l0.length : Int) then (if ((rd_T64 l0 0).f0) = 1 then (Gf.j0 k l0 ((rd_T64 l0 0).f0) (((rd_T64 l0 0).f0) == 1) ((rd_T64 l0 0).f0) ((rd_T64 l0 0).f1) ((rd_T64 l0 0).f2) ((rd_T64 l0 0).f3)) else (if ((rd_T64 l0 0).f0) = 2 then (Gf.j0 k l0 ((rd_T64 l0 0).f0) (((rd_T64 l0 0).f0) == 2) ((rd_T64 l0 0).f0) ((rd_T64 l0 0).f1) ((rd_T64 l0 0).f2) ((rd_T64 l0 0).f3)) else (Gf.j0 k l0 ((rd_T64 l0 0).f0) (((rd_T64 l0 0).f0) == 3) ((rd_T64 l0 0).f0) ((rd_T64 l0 0).f1) ((rd_T64 l0 0).f2) ((rd_T64 l0 0).f3)))) else (none))) = some (r1, r2) := h
 clear h
 by_cases c2 : (l0.length : Int) = 0
 ·rw [if_pos c2] at H
  have c2b0 : ((l0.length : Int) == 0) = true := beq_iff_eq.mpr c2
  have c2b1 : ((l0.length : Int) != 0) = false := bne_eq_false_iff_eq.mpr c2
  clear c2
  simp only [Option.some.injEq, Prod.mk.injEq] at H
  obtain ⟨rfl, rfl⟩ := H
  go_enter Tryz.func49, Tryz.ntmps49
  go_wp2
  go_ret2
  exact ⟨EZa, HBa⟩
 rw [if_neg c2] at H
 have c2b0 : ((l0.length : Int) == 0) = false := beq_eq_false_iff_ne.mpr c2
 have c2b1 : ((l0.length : Int) != 0) = true := bne_iff_ne.mpr c2
 have c2b2 : ¬ (l0 = []) := fun h_ => c2 (by rw [h_]; rfl)
 by_cases c3 : 0 < (l0.length : Int)
 rotate_left
 ·rw [if_neg c3] at H
  exact absurd H (by simp)
 rw [if_pos c3] at H
 have c3b0 : decide (0 < (l0.length : Int)) = true := decide_eq_true c3
 have c3b1 : decide (0 < l0.length) = true := decide_eq_true (by omega)
 clear c3
 have HC4 := Aside0.mk H
 clear H
 have p206 : 0 ≤ (0 : Int) := (by omega)
 have q206 : 0 < (l0.length : Int) := ODz
 obtain ⟨ad206, e206, hx206_0, hx206_1, hx206_2, hx206_3⟩ := at_T64 HR0.out 0 p206 q206
 cases e206
 have qi206 : (0 < l0.length) = True := eq_true (by omega)
 (try rw [show ((0 : Int)).toNat = 0 from rfl] at hx206_0)
 (try rw [show 0 * 4 = 0 from rfl] at hx206_0)
 (try rw [Addr.add_zero'] at hx206_0)
 (try rw [show ((0 : Int)).toNat = 0 from rfl] at hx206_1)
 (try rw [show 0 * 4 = 0 from rfl] at hx206_1)
 (try rw [Addr.add_zero'] at hx206_1)
 (try rw [show ((0 : Int)).toNat = 0 from rfl] at hx206_2)
 (try rw [show 0 * 4 = 0 from rfl] at hx206_2)
 (try rw [Addr.add_zero'] at hx206_2)
 (try rw [show ((0 : Int)).toNat = 0 from rfl] at hx206_3)
 (try rw [show 0 * 4 = 0 from rfl] at hx206_3)
 (try rw [Addr.add_zero'] at hx206_3)
 replace p206 := eq_true p206
 replace q206 := eq_true q206
 go_enter Tryz.func49, Tryz.ntmps49
 go_upto_if 17 with (first | ((with_reducible refine gate_dst (N := 4) rfl ?_); refine box_event ?hg (N := 4) ?hd (cs := #[.int .i64 0, .string (⟨#[]⟩ : ByteArray), .string (⟨#[]⟩ : ByteArray), .int .i64 0]) (t := 64) ?hr ?_; (case hd => rfl); (case hg => rfl); (case hr => first | (go_simp; done) | (go_simp; rfl)); intro gb207 hg w5 hbox hb; have n0_ := Aside0.mk (below_step HBa hb); have n1_ := Aside0.mk (hbox); have n2_ := BSz w hg HBa; have n3_ := BSz w hg HBa; clear HB; have HB := n0_; have BK207 := n1_; have GW207 := n2_; have GE207 := n3_; clear n0_ n1_ n2_ n3_; clear hb hbox hg; have hcz6_0 := C1z BK207; have hcz6_1 := C2z BK207; have hcz6_2 := C3z BK207; have hcz6_3 := C4z BK207; have hfz6_0 := blk_frozen BK207.out 0; have hfz6_1 := blk_frozen BK207.out 1; have hfz6_2 := blk_frozen BK207.out 2; have hfz6_3 := blk_frozen BK207.out 3))
 (try simp only [Act.put, List.setIfInBounds_toArray, List.set_cons_zero, List.set_cons_succ])
 go_cut [17] (fun v17 wc => ∃ (kq : Nat) (x17_3 : Bool), v17 = .bool x17_3 ∧ Aside0 (Gf.j0 kq l0 ((rd_T64 l0 0).f0) x17_3 ((rd_T64 l0 0).f0) ((rd_T64 l0 0).f1) ((rd_T64 l0 0).f2) ((rd_T64 l0 0).f3) = some (r1, r2)) ∧ Aside0 (kq ≤ k) ∧ Aside0 (wc.heap[gb207]? = some (.cells #[.int .i64 ((rd_T64 l0 0).f0), .string ((rd_T64 l0 0).f1), .string ((rd_T64 l0 0).f2), .int .i64 ((rd_T64 l0 0).f3)] 64 (0, 0))) ∧ Aside0 (Below w.heap.size w wc))
 case first =>
  have H := HC4.out
  clear HC4
  by_cases c7 : ((rd_T64 l0 0).f0) = 1
  ·rw [if_pos c7] at H
   have c7b0 : (((rd_T64 l0 0).f0) == 1) = true := beq_iff_eq.mpr c7
   have c7b1 : (((rd_T64 l0 0).f0) != 1) = false := bne_eq_false_iff_eq.mpr c7
   clear c7
   (first | rw [c7b0] | rw [c7v0] | (simp only [i64_w, i32_w]; rw [c7b0]) | (simp only [i64_w, i32_w]; rw [c7v0]) | skip)
   have H' := Aside0.mk H
   clear H
   go_wp2
   go_meet
   case rel => exact ⟨_, ((((rd_T64 l0 0).f0) == 1)), EZc, H', ⟨by first | omega | exact Nat.le_refl _⟩, ⟨by (with_reducible repeat (first | refine blk_drewN ?_ _ | refine blk_drew ?_ | refine blk_alloc ?_ _)); refine blk_put (cs := #[.int .i64 ((rd_T64 l0 0).f0), .string ((rd_T64 l0 0).f1), .string ((rd_T64 l0 0).f2), .int .i64 0]) ?_ 3 _ rfl; (with_reducible repeat (first | refine blk_drewN ?_ _ | refine blk_drew ?_ | refine blk_alloc ?_ _)); refine blk_put (cs := #[.int .i64 ((rd_T64 l0 0).f0), .string ((rd_T64 l0 0).f1), .string (⟨#[]⟩ : ByteArray), .int .i64 0]) ?_ 2 _ rfl; (with_reducible repeat (first | refine blk_drewN ?_ _ | refine blk_drew ?_ | refine blk_alloc ?_ _)); refine blk_put (cs := #[.int .i64 ((rd_T64 l0 0).f0), .string (⟨#[]⟩ : ByteArray), .string (⟨#[]⟩ : ByteArray), .int .i64 0]) ?_ 1 _ rfl; (with_reducible repeat (first | refine blk_drewN ?_ _ | refine blk_drew ?_ | refine blk_alloc ?_ _)); refine blk_put (cs := #[.int .i64 0, .string (⟨#[]⟩ : ByteArray), .string (⟨#[]⟩ : ByteArray), .int .i64 0]) ?_ 0 _ rfl; (with_reducible repeat (first | refine blk_drewN ?_ _ | refine blk_drew ?_ | refine blk_alloc ?_ _)); exact BK207.out⟩, ⟨by repeat (first | (with_reducible first | exact HB.out | apply below_alloc | apply pw_below_drewN | apply below_drew1 | refine below_set ?_ GE207.out) | exact HB.out)⟩⟩
  rw [if_neg c7] at H
  have c7b0 : (((rd_T64 l0 0).f0) == 1) = false := beq_eq_false_iff_ne.mpr c7
  have c7b1 : (((rd_T64 l0 0).f0) != 1) = true := bne_iff_ne.mpr c7
  (first | rw [c7b0] | rw [c7v0] | (simp only [i64_w, i32_w]; rw [c7b0]) | (simp only [i64_w, i32_w]; rw [c7v0]) | skip)
  by_cases c8 : ((rd_T64 l0 0).f0) = 2
  ·rw [if_pos c8] at H
   have c8b0 : (((rd_T64 l0 0).f0) == 2) = true := beq_iff_eq.mpr c8
   have c8b1 : (((rd_T64 l0 0).f0) != 2) = false := bne_eq_false_iff_eq.mpr c8
   clear c8
   have H' := Aside0.mk H
   clear H
   go_wp2
   go_meet
   case rel => exact ⟨_, ((((rd_T64 l0 0).f0) == 2)), EZc, H', ⟨by first | omega | exact Nat.le_refl _⟩, ⟨by (with_reducible repeat (first | refine blk_drewN ?_ _ | refine blk_drew ?_ | refine blk_alloc ?_ _)); refine blk_put (cs := #[.int .i64 ((rd_T64 l0 0).f0), .string ((rd_T64 l0 0).f1), .string ((rd_T64 l0 0).f2), .int .i64 0]) ?_ 3 _ rfl; (with_reducible repeat (first | refine blk_drewN ?_ _ | refine blk_drew ?_ | refine blk_alloc ?_ _)); refine blk_put (cs := #[.int .i64 ((rd_T64 l0 0).f0), .string ((rd_T64 l0 0).f1), .string (⟨#[]⟩ : ByteArray), .int .i64 0]) ?_ 2 _ rfl; (with_reducible repeat (first | refine blk_drewN ?_ _ | refine blk_drew ?_ | refine blk_alloc ?_ _)); refine blk_put (cs := #[.int .i64 ((rd_T64 l0 0).f0), .string (⟨#[]⟩ : ByteArray), .string (⟨#[]⟩ : ByteArray), .int .i64 0]) ?_ 1 _ rfl; (with_reducible repeat (first | refine blk_drewN ?_ _ | refine blk_drew ?_ | refine blk_alloc ?_ _)); refine blk_put (cs := #[.int .i64 0, .string (⟨#[]⟩ : ByteArray), .string (⟨#[]⟩ : ByteArray), .int .i64 0]) ?_ 0 _ rfl; (with_reducible repeat (first | refine blk_drewN ?_ _ | refine blk_drew ?_ | refine blk_alloc ?_ _)); exact BK207.out⟩, ⟨by repeat (first | (with_reducible first | exact HB.out | apply below_alloc | apply pw_below_drewN | apply below_drew1 | refine below_set ?_ GE207.out) | exact HB.out)⟩⟩
  rw [if_neg c8] at H
  have c8b0 : (((rd_T64 l0 0).f0) == 2) = false := beq_eq_false_iff_ne.mpr c8
  have c8b1 : (((rd_T64 l0 0).f0) != 2) = true := bne_iff_ne.mpr c8
  have H' := Aside0.mk H
  clear H
  go_wp2
  go_meet
  case rel => exact ⟨_, ((((rd_T64 l0 0).f0) == 3)), EZc, H', ⟨by first | omega | exact Nat.le_refl _⟩, ⟨by (with_reducible repeat (first | refine blk_drewN ?_ _ | refine blk_drew ?_ | refine blk_alloc ?_ _)); refine blk_put (cs := #[.int .i64 ((rd_T64 l0 0).f0), .string ((rd_T64 l0 0).f1), .string ((rd_T64 l0 0).f2), .int .i64 0]) ?_ 3 _ rfl; (with_reducible repeat (first | refine blk_drewN ?_ _ | refine blk_drew ?_ | refine blk_alloc ?_ _)); refine blk_put (cs := #[.int .i64 ((rd_T64 l0 0).f0), .string ((rd_T64 l0 0).f1), .string (⟨#[]⟩ : ByteArray), .int .i64 0]) ?_ 2 _ rfl; (with_reducible repeat (first | refine blk_drewN ?_ _ | refine blk_drew ?_ | refine blk_alloc ?_ _)); refine blk_put (cs := #[.int .i64 ((rd_T64 l0 0).f0), .string (⟨#[]⟩ : ByteArray), .string (⟨#[]⟩ : ByteArray), .int .i64 0]) ?_ 1 _ rfl; (with_reducible repeat (first | refine blk_drewN ?_ _ | refine blk_drew ?_ | refine blk_alloc ?_ _)); refine blk_put (cs := #[.int .i64 0, .string (⟨#[]⟩ : ByteArray), .string (⟨#[]⟩ : ByteArray), .int .i64 0]) ?_ 0 _ rfl; (with_reducible repeat (first | refine blk_drewN ?_ _ | refine blk_drew ?_ | refine blk_alloc ?_ _)); exact BK207.out⟩, ⟨by repeat (first | (with_reducible first | exact HB.out | apply below_alloc | apply pw_below_drewN | apply below_drew1 | refine below_set ?_ GE207.out) | exact HB.out)⟩⟩
 case rest =>
  clear HC4
  try clear c2
  try clear c2b0
  try clear c2b1
  try clear c2b2
  try clear p2
  try clear q2
  try clear hx2
  try clear qi2
  try clear c3
  try clear c3b0
  try clear c3b1
  try clear c4
  try clear c7
  try clear c7b0
  try clear c7b1
  try clear c8
  try clear c8b0
  try clear c8b1
  try clear hcz6_0
  try clear hcz6_1
  try clear hcz6_2
  try clear hcz6_3
  try clear hfz6_0
  try clear hfz6_1
  try clear hfz6_2
  try clear hfz6_3
  try clear hx206_0
  try clear hx206_1
  try clear hx206_2
  try clear hx206_3
  try clear p206
  try clear q206
  obtain ⟨kq, x17_3, rfl, HA, HJ3, BK207, HB⟩ := hcut
  cases kq with
  | zero => exact absurd HA.out (by simp [Gf.j0])
  | succ kj3 =>
   have H := HA.out
   clear HA
   simp only [Gf.j0] at H
   by_cases c9 : x17_3 = true
   rotate_left
   ·replace c9 := Bool.eq_false_iff.mpr c9
    subst c9
    have H1 : (if ((rd_T64 l0 0).f0) = 5 then (if ((rd_T64 l0 0).f2).toList = ([] : List UInt8) then (if ((rd_T64 l0 0).f3) = 0 then ((Gd.f ((rd_T64 l0 0).f1)).bind fun t214 => (if t214 = true then (some (1, 1)) else (some (0, 0)))) else (some (0, 0))) else (some (0, 0))) else (if ((rd_T64 l0 0).f0) = 4 then (Gf.j3 kj3 (((rd_T64 l0 0).f0) == 4) ((rd_T64 l0 0).f0) ((rd_T64 l0 0).f1) ((rd_T64 l0 0).f2) ((rd_T64 l0 0).f3)) else (if ((rd_T64 l0 0).f0) = 6 then (Gf.j3 kj3 (((rd_T64 l0 0).f0) == 6) ((rd_T64 l0 0).f0) ((rd_T64 l0 0).f1) ((rd_T64 l0 0).f2) ((rd_T64 l0 0).f3)) else (if ((rd_T64 l0 0).f0) = 7 then (Gf.j3 kj3 (((rd_T64 l0 0).f0) == 7) ((rd_T64 l0 0).f0) ((rd_T64 l0 0).f1) ((rd_T64 l0 0).f2) ((rd_T64 l0 0).f3)) else (Gf.j3 kj3 (((rd_T64 l0 0).f0) == 8) ((rd_T64 l0 0).f0) ((rd_T64 l0 0).f1) ((rd_T64 l0 0).f2) ((rd_T64 l0 0).f3)))))) = some (r1, r2) := by rw [if_neg (show ¬ (false = true) by decide)] at H; exact H
    clear H
    have H := H1
    clear H1
    by_cases c34 : ((rd_T64 l0 0).f0) = 5
    ·rw [if_pos c34] at H
     have c34b0 : (((rd_T64 l0 0).f0) == 5) = true := beq_iff_eq.mpr c34
     have c34b1 : (((rd_T64 l0 0).f0) != 5) = false := bne_eq_false_iff_eq.mpr c34
     clear c34
     by_cases c35 : ((rd_T64 l0 0).f2).toList = ([] : List UInt8)
     rotate_left
     ·rw [if_neg c35] at H
      have c35b0 : (((rd_T64 l0 0).f2).toList == ([] : List UInt8)) = false := beq_eq_false_iff_ne.mpr c35
      have c35b1 : (((rd_T64 l0 0).f2).toList != ([] : List UInt8)) = true := bne_iff_ne.mpr c35
      simp only [Option.some.injEq, Prod.mk.injEq] at H
      obtain ⟨rfl, rfl⟩ := H
      have hcz44_0 := C1z BK207
      have hcz44_1 := C2z BK207
      have hcz44_2 := C3z BK207
      have hcz44_3 := C4z BK207
      have hfz44_0 := blk_frozen BK207.out 0
      have hfz44_1 := blk_frozen BK207.out 1
      have hfz44_2 := blk_frozen BK207.out 2
      have hfz44_3 := blk_frozen BK207.out 3
      go_wp2
      go_ret2
      exact ⟨EZa, HBb GE207⟩
     rw [if_pos c35] at H
     have c35b0 : (((rd_T64 l0 0).f2).toList == ([] : List UInt8)) = true := beq_iff_eq.mpr c35
     have c35b1 : (((rd_T64 l0 0).f2).toList != ([] : List UInt8)) = false := bne_eq_false_iff_eq.mpr c35
     clear c35
     by_cases c36 : ((rd_T64 l0 0).f3) = 0
     rotate_left
     ·rw [if_neg c36] at H
      have c36b0 : (((rd_T64 l0 0).f3) == 0) = false := beq_eq_false_iff_ne.mpr c36
      have c36b1 : (((rd_T64 l0 0).f3) != 0) = true := bne_iff_ne.mpr c36
      simp only [Option.some.injEq, Prod.mk.injEq] at H
      obtain ⟨rfl, rfl⟩ := H
      have hcz43_0 := C1z BK207
      have hcz43_1 := C2z BK207
      have hcz43_2 := C3z BK207
      have hcz43_3 := C4z BK207
      have hfz43_0 := blk_frozen BK207.out 0
      have hfz43_1 := blk_frozen BK207.out 1
      have hfz43_2 := blk_frozen BK207.out 2
      have hfz43_3 := blk_frozen BK207.out 3
      go_wp2
      go_ret2
      exact ⟨EZa, HBb GE207⟩
     rw [if_pos c36] at H
     have c36b0 : (((rd_T64 l0 0).f3) == 0) = true := beq_iff_eq.mpr c36
     have c36b1 : (((rd_T64 l0 0).f3) != 0) = false := bne_eq_false_iff_eq.mpr c36
     clear c36
     replace H := Option.bind_eq_some_iff.mp H
     obtain ⟨t214, A370, H⟩ := H
     replace H : (if t214 = true then (some (1, 1)) else (some (0, 0))) = some (r1, r2) := H
     have A37 := Aside0.mk A370
     clear A370
     by_cases c38 : t214 = true
     ·subst c38
      have H1 : (some (1, 1)) = some (r1, r2) := by rw [if_pos rfl] at H; exact H
      clear H
      have H := H1
      clear H1
      simp only [Option.some.injEq, Prod.mk.injEq] at H
      obtain ⟨rfl, rfl⟩ := H
      have hcz39_0 := C1z BK207
      have hcz39_1 := C2z BK207
      have hcz39_2 := C3z BK207
      have hcz39_3 := C4z BK207
      have hfz39_0 := blk_frozen BK207.out 0
      have hfz39_1 := blk_frozen BK207.out 1
      have hfz39_2 := blk_frozen BK207.out 2
      have hfz39_3 := blk_frozen BK207.out 3
      go_wp2_with (first | (go_at_call 59; (with_reducible refine (Gd.calls ((rd_T64 l0 0).f1) true _ A37.out).mono ?_); rintro e w40 ⟨rfl, hb⟩; have n0_ := BBz BK207 hb; have n1_ := Aside0.mk (below_step (HBb GE207) hb); clear BK207; clear HB; have BK207 := n0_; have HB := n1_; clear n0_ n1_; (try clear hb); (try clear hb2); (try clear hk); (try clear hi)))
      go_ret2
      exact ⟨EZa, HBb GE207⟩
     replace c38 := Bool.eq_false_iff.mpr c38
     subst c38
     have H1 : (some (0, 0)) = some (r1, r2) := by rw [if_neg (show ¬ (false = true) by decide)] at H; exact H
     clear H
     have H := H1
     clear H1
     simp only [Option.some.injEq, Prod.mk.injEq] at H
     obtain ⟨rfl, rfl⟩ := H
     have hcz41_0 := C1z BK207
     have hcz41_1 := C2z BK207
     have hcz41_2 := C3z BK207
     have hcz41_3 := C4z BK207
     have hfz41_0 := blk_frozen BK207.out 0
     have hfz41_1 := blk_frozen BK207.out 1
     have hfz41_2 := blk_frozen BK207.out 2
     have hfz41_3 := blk_frozen BK207.out 3
     go_wp2_with (first | (go_at_call 59; (with_reducible refine (Gd.calls ((rd_T64 l0 0).f1) false _ A37.out).mono ?_); rintro e w42 ⟨rfl, hb⟩; have n0_ := BBz BK207 hb; have n1_ := Aside0.mk (below_step (HBb GE207) hb); clear BK207; clear HB; have BK207 := n0_; have HB := n1_; clear n0_ n1_; (try clear hb); (try clear hb2); (try clear hk); (try clear hi)))
     go_ret2
     exact ⟨EZa, HBb GE207⟩
    rw [if_neg c34] at H
    have c34b0 : (((rd_T64 l0 0).f0) == 5) = false := beq_eq_false_iff_ne.mpr c34
    have c34b1 : (((rd_T64 l0 0).f0) != 5) = true := bne_iff_ne.mpr c34
    have HC45 := Aside0.mk H
    clear H
    go_upto_if 77 with (fail)
    go_cut [77] (fun v77 wc => ∃ (kq : Nat) (x77_44 : Bool), v77 = .bool x77_44 ∧ Aside0 (Gf.j3 kq x77_44 ((rd_T64 l0 0).f0) ((rd_T64 l0 0).f1) ((rd_T64 l0 0).f2) ((rd_T64 l0 0).f3) = some (r1, r2)) ∧ Aside0 (kq ≤ kj3) ∧ Aside0 (wc.heap[gb207]? = some (.cells #[.int .i64 ((rd_T64 l0 0).f0), .string ((rd_T64 l0 0).f1), .string ((rd_T64 l0 0).f2), .int .i64 ((rd_T64 l0 0).f3)] 64 (0, 0))) ∧ Aside0 (Below w.heap.size w wc))
    case first =>
     have H := HC45.out
     clear HC45
     by_cases c46 : ((rd_T64 l0 0).f0) = 4
     ·rw [if_pos c46] at H
      have c46b0 : (((rd_T64 l0 0).f0) == 4) = true := beq_iff_eq.mpr c46
      have c46b1 : (((rd_T64 l0 0).f0) != 4) = false := bne_eq_false_iff_eq.mpr c46
      clear c46
      (first | rw [c46b0] | rw [c46v0] | (simp only [i64_w, i32_w]; rw [c46b0]) | (simp only [i64_w, i32_w]; rw [c46v0]) | skip)
      have H' := Aside0.mk H
      clear H
      go_wp2
      go_meet
      case rel => exact ⟨_, ((((rd_T64 l0 0).f0) == 4)), EZc, H', ⟨by have := HJ3.out; first | omega | exact Nat.le_refl _⟩, ⟨by (with_reducible repeat (first | refine blk_drewN ?_ _ | refine blk_drew ?_ | refine blk_alloc ?_ _)); exact BK207.out⟩, ⟨by repeat (first | (with_reducible first | exact HB.out | apply below_alloc | apply pw_below_drewN | apply below_drew1 | refine below_set ?_ GE207.out) | exact HB.out)⟩⟩
     rw [if_neg c46] at H
     have c46b0 : (((rd_T64 l0 0).f0) == 4) = false := beq_eq_false_iff_ne.mpr c46
     have c46b1 : (((rd_T64 l0 0).f0) != 4) = true := bne_iff_ne.mpr c46
     (first | rw [c46b0] | rw [c46v0] | (simp only [i64_w, i32_w]; rw [c46b0]) | (simp only [i64_w, i32_w]; rw [c46v0]) | skip)
     by_cases c47 : ((rd_T64 l0 0).f0) = 6
     ·rw [if_pos c47] at H
      have c47b0 : (((rd_T64 l0 0).f0) == 6) = true := beq_iff_eq.mpr c47
      have c47b1 : (((rd_T64 l0 0).f0) != 6) = false := bne_eq_false_iff_eq.mpr c47
      clear c47
      have H' := Aside0.mk H
      clear H
      go_wp2
      go_meet
      case rel => exact ⟨_, ((((rd_T64 l0 0).f0) == 6)), EZc, H', ⟨by have := HJ3.out; first | omega | exact Nat.le_refl _⟩, ⟨by (with_reducible repeat (first | refine blk_drewN ?_ _ | refine blk_drew ?_ | refine blk_alloc ?_ _)); exact BK207.out⟩, ⟨by repeat (first | (with_reducible first | exact HB.out | apply below_alloc | apply pw_below_drewN | apply below_drew1 | refine below_set ?_ GE207.out) | exact HB.out)⟩⟩
     rw [if_neg c47] at H
     have c47b0 : (((rd_T64 l0 0).f0) == 6) = false := beq_eq_false_iff_ne.mpr c47
     have c47b1 : (((rd_T64 l0 0).f0) != 6) = true := bne_iff_ne.mpr c47
     by_cases c48 : ((rd_T64 l0 0).f0) = 7
     ·rw [if_pos c48] at H
      have c48b0 : (((rd_T64 l0 0).f0) == 7) = true := beq_iff_eq.mpr c48
      have c48b1 : (((rd_T64 l0 0).f0) != 7) = false := bne_eq_false_iff_eq.mpr c48
      clear c48
      have H' := Aside0.mk H
      clear H
      go_wp2
      go_meet
      case rel => exact ⟨_, ((((rd_T64 l0 0).f0) == 7)), EZc, H', ⟨by have := HJ3.out; first | omega | exact Nat.le_refl _⟩, ⟨by (with_reducible repeat (first | refine blk_drewN ?_ _ | refine blk_drew ?_ | refine blk_alloc ?_ _)); exact BK207.out⟩, ⟨by repeat (first | (with_reducible first | exact HB.out | apply below_alloc | apply pw_below_drewN | apply below_drew1 | refine below_set ?_ GE207.out) | exact HB.out)⟩⟩
     rw [if_neg c48] at H
     have c48b0 : (((rd_T64 l0 0).f0) == 7) = false := beq_eq_false_iff_ne.mpr c48
     have c48b1 : (((rd_T64 l0 0).f0) != 7) = true := bne_iff_ne.mpr c48
     have H' := Aside0.mk H
     clear H
     go_wp2
     go_meet
     case rel => exact ⟨_, ((((rd_T64 l0 0).f0) == 8)), EZc, H', ⟨by have := HJ3.out; first | omega | exact Nat.le_refl _⟩, ⟨by (with_reducible repeat (first | refine blk_drewN ?_ _ | refine blk_drew ?_ | refine blk_alloc ?_ _)); exact BK207.out⟩, ⟨by repeat (first | (with_reducible first | exact HB.out | apply below_alloc | apply pw_below_drewN | apply below_drew1 | refine below_set ?_ GE207.out) | exact HB.out)⟩⟩
    case rest =>
     clear HC45
     try clear c1
     try clear c2
     try clear c2b0
     try clear c2b1
     try clear c2b2
     try clear p2
     try clear q2
     try clear hx2
     try clear qi2
     try clear c3
     try clear c3b0
     try clear c3b1
     try clear q3
     try clear c4
     try clear p6
     try clear c7
     try clear c7b0
     try clear c7b1
     try clear c8
     try clear c8b0
     try clear c8b1
     try clear c9
     try clear c11
     try clear c11b0
     try clear c11b1
     try clear c12
     try clear c12b0
     try clear c12b1
     try clear c13
     try clear c13b0
     try clear c15
     try clear c15b0
     try clear c15b1
     try clear c16
     try clear c16b0
     try clear c16b1
     try clear p20
     try clear q20
     try clear hx20
     try clear qi20
     try clear c22
     try clear c24
     try clear c24b0
     try clear c25
     try clear c25b0
     try clear c25b1
     try clear c26
     try clear c26b0
     try clear c26b1
     try clear c28
     try clear c28b0
     try clear c28b1
     try clear c29
     try clear q29
     try clear c32
     try clear q32
     try clear c34
     try clear c34b0
     try clear c34b1
     try clear c35
     try clear c35b0
     try clear c35b1
     try clear c36
     try clear c36b0
     try clear c36b1
     try clear c38
     try clear c46
     try clear c46b0
     try clear c46b1
     try clear c47
     try clear c47b0
     try clear c47b1
     try clear c48
     try clear c48b0
     try clear c48b1
     try clear hcz14_0
     try clear hcz14_1
     try clear hcz14_2
     try clear hcz14_3
     try clear hcz17_0
     try clear hcz17_1
     try clear hcz17_2
     try clear hcz17_3
     try clear hcz18_0
     try clear hcz18_1
     try clear hcz18_2
     try clear hcz18_3
     try clear hcz19_0
     try clear hcz19_1
     try clear hcz19_2
     try clear hcz19_3
     try clear hcz20_0
     try clear hcz20_1
     try clear hcz20_2
     try clear hcz20_3
     try clear hcz21_0
     try clear hcz21_1
     try clear hcz21_2
     try clear hcz21_3
     try clear hcz23_0
     try clear hcz23_1
     try clear hcz23_2
     try clear hcz23_3
     try clear hcz39_0
     try clear hcz39_1
     try clear hcz39_2
     try clear hcz39_3
     try clear hcz41_0
     try clear hcz41_1
     try clear hcz41_2
     try clear hcz41_3
     try clear hcz43_0
     try clear hcz43_1
     try clear hcz43_2
     try clear hcz43_3
     try clear hcz44_0
     try clear hcz44_1
     try clear hcz44_2
     try clear hcz44_3
     try clear hcz6_0
     try clear hcz6_1
     try clear hcz6_2
     try clear hcz6_3
     try clear hfz14_0
     try clear hfz14_1
     try clear hfz14_2
     try clear hfz14_3
     try clear hfz17_0
     try clear hfz17_1
     try clear hfz17_2
     try clear hfz17_3
     try clear hfz18_0
     try clear hfz18_1
     try clear hfz18_2
     try clear hfz18_3
     try clear hfz19_0
     try clear hfz19_1
     try clear hfz19_2
     try clear hfz19_3
     try clear hfz20_0
     try clear hfz20_1
     try clear hfz20_2
     try clear hfz20_3
     try clear hfz21_0
     try clear hfz21_1
     try clear hfz21_2
     try clear hfz21_3
     try clear hfz23_0
     try clear hfz23_1
     try clear hfz23_2
     try clear hfz23_3
     try clear hfz39_0
     try clear hfz39_1
     try clear hfz39_2
     try clear hfz39_3
     try clear hfz41_0
     try clear hfz41_1
     try clear hfz41_2
     try clear hfz41_3
     try clear hfz43_0
     try clear hfz43_1
     try clear hfz43_2
     try clear hfz43_3
     try clear hfz44_0
     try clear hfz44_1
     try clear hfz44_2
     try clear hfz44_3
     try clear hfz6_0
     try clear hfz6_1
     try clear hfz6_2
     try clear hfz6_3
     try clear hx206_0
     try clear hx206_1
     try clear hx206_2
     try clear hx206_3
     try clear p2
     try clear p20
     try clear p206
     try clear q029
     try clear q032
     try clear q2
     try clear q20
     try clear q206
     try clear q29
     try clear q32
     obtain ⟨kq, x77_44, rfl, HA, HJ44, BK207, HB⟩ := hcut
     cases kq with
     | zero => exact absurd HA.out (by simp [Gf.j3])
     | succ kj44 =>
      have H := HA.out
      clear HA
      simp only [Gf.j3] at H
      by_cases c49 : x77_44 = true
      rotate_left
      ·replace c49 := Bool.eq_false_iff.mpr c49
       subst c49
       have H1 : (some (0, 0)) = some (r1, r2) := by rw [if_neg (show ¬ (false = true) by decide)] at H; exact H
       clear H
       have H := H1
       clear H1
       simp only [Option.some.injEq, Prod.mk.injEq] at H
       obtain ⟨rfl, rfl⟩ := H
       go_wp2
       go_ret2
       exact ⟨EZa, HBb GE207⟩
      subst c49
      have H1 : ((Gj.f kj44 ((rd_T64 l0 0).f2)).bind fun t215 => (if t215 = true then (if ((rd_T64 l0 0).f3) = 0 then ((Gd.f ((rd_T64 l0 0).f1)).bind fun t216 => (if t216 = true then (some (1, 1)) else (some (0, 0)))) else (some (0, 0))) else (some (0, 0)))) = some (r1, r2) := by rw [if_pos rfl] at H; exact H
      clear H
      have H := H1
      clear H1
      replace H := Option.bind_eq_some_iff.mp H
      obtain ⟨t215, A500, H⟩ := H
      replace H : (if t215 = true then (if ((rd_T64 l0 0).f3) = 0 then ((Gd.f ((rd_T64 l0 0).f1)).bind fun t216 => (if t216 = true then (some (1, 1)) else (some (0, 0)))) else (some (0, 0))) else (some (0, 0))) = some (r1, r2) := H
      have A50 := Aside0.mk A500
      clear A500
      by_cases c51 : t215 = true
      rotate_left
      ·replace c51 := Bool.eq_false_iff.mpr c51
       subst c51
       have H1 : (some (0, 0)) = some (r1, r2) := by rw [if_neg (show ¬ (false = true) by decide)] at H; exact H
       clear H
       have H := H1
       clear H1
       simp only [Option.some.injEq, Prod.mk.injEq] at H
       obtain ⟨rfl, rfl⟩ := H
       have hcz66_0 := C1z BK207
       have hcz66_1 := C2z BK207
       have hcz66_2 := C3z BK207
       have hcz66_3 := C4z BK207
       have hfz66_0 := blk_frozen BK207.out 0
       have hfz66_1 := blk_frozen BK207.out 1
       have hfz66_2 := blk_frozen BK207.out 2
       have hfz66_3 := blk_frozen BK207.out 3
       go_wp2_with (first | ((with_reducible refine gate_callee (f := 88) rfl ?_); refine goesL_ (some 84) rfl rfl Tryz.func88 (by kernel_rfl) rfl #[.string ((rd_T64 l0 0).f2)] rfl MPz ?_; (with_reducible refine (Gj.calls kj44 ((rd_T64 l0 0).f2) false _ A50.out).mono ?_); rintro e w67 ⟨rfl, hb⟩; refine ⟨_, rfl, ?_⟩; have n0_ := BBz BK207 hb; have n1_ := Aside0.mk (below_step (HBb GE207) hb); clear BK207; clear HB; have BK207 := n0_; have HB := n1_; clear n0_ n1_; (try clear hb); (try clear hb2); (try clear hk); (try clear hi)))
       go_ret2
       exact ⟨EZa, HBb GE207⟩
      subst c51
      have H1 : (if ((rd_T64 l0 0).f3) = 0 then ((Gd.f ((rd_T64 l0 0).f1)).bind fun t216 => (if t216 = true then (some (1, 1)) else (some (0, 0)))) else (some (0, 0))) = some (r1, r2) := by rw [if_pos rfl] at H; exact H
      clear H
      have H := H1
      clear H1
      by_cases c52 : ((rd_T64 l0 0).f3) = 0
      rotate_left
      ·rw [if_neg c52] at H
       have c52b0 : (((rd_T64 l0 0).f3) == 0) = false := beq_eq_false_iff_ne.mpr c52
       have c52b1 : (((rd_T64 l0 0).f3) != 0) = true := bne_iff_ne.mpr c52
       simp only [Option.some.injEq, Prod.mk.injEq] at H
       obtain ⟨rfl, rfl⟩ := H
       have hcz63_0 := C1z BK207
       have hcz63_1 := C2z BK207
       have hcz63_2 := C3z BK207
       have hcz63_3 := C4z BK207
       have hfz63_0 := blk_frozen BK207.out 0
       have hfz63_1 := blk_frozen BK207.out 1
       have hfz63_2 := blk_frozen BK207.out 2
       have hfz63_3 := blk_frozen BK207.out 3
       go_wp2_with (first | ((with_reducible refine gate_callee (f := 88) rfl ?_); refine goesL_ (some 84) rfl rfl Tryz.func88 (by kernel_rfl) rfl #[.string ((rd_T64 l0 0).f2)] rfl MPz ?_; (with_reducible refine (Gj.calls kj44 ((rd_T64 l0 0).f2) true _ A50.out).mono ?_); rintro e w64 ⟨rfl, hb⟩; refine ⟨_, rfl, ?_⟩; have n0_ := BBz BK207 hb; have n1_ := Aside0.mk (below_step (HBb GE207) hb); clear BK207; clear HB; have BK207 := n0_; have HB := n1_; clear n0_ n1_; (try clear hb); (try clear hb2); (try clear hk); (try clear hi); have hcz65_0 := C1z BK207; have hcz65_1 := C2z BK207; have hcz65_2 := C3z BK207; have hcz65_3 := C4z BK207; have hfz65_0 := blk_frozen BK207.out 0; have hfz65_1 := blk_frozen BK207.out 1; have hfz65_2 := blk_frozen BK207.out 2; have hfz65_3 := blk_frozen BK207.out 3))
       go_ret2
       exact ⟨EZa, HBb GE207⟩
      rw [if_pos c52] at H
      have c52b0 : (((rd_T64 l0 0).f3) == 0) = true := beq_iff_eq.mpr c52
      have c52b1 : (((rd_T64 l0 0).f3) != 0) = false := bne_eq_false_iff_eq.mpr c52
      clear c52
      replace H := Option.bind_eq_some_iff.mp H
      obtain ⟨t216, A530, H⟩ := H
      replace H : (if t216 = true then (some (1, 1)) else (some (0, 0))) = some (r1, r2) := H
      have A53 := Aside0.mk A530
      clear A530
      by_cases c54 : t216 = true
      ·subst c54
       have H1 : (some (1, 1)) = some (r1, r2) := by rw [if_pos rfl] at H; exact H
       clear H
       have H := H1
       clear H1
       simp only [Option.some.injEq, Prod.mk.injEq] at H
       obtain ⟨rfl, rfl⟩ := H
       have hcz55_0 := C1z BK207
       have hcz55_1 := C2z BK207
       have hcz55_2 := C3z BK207
       have hcz55_3 := C4z BK207
       have hfz55_0 := blk_frozen BK207.out 0
       have hfz55_1 := blk_frozen BK207.out 1
       have hfz55_2 := blk_frozen BK207.out 2
       have hfz55_3 := blk_frozen BK207.out 3
       go_wp2_with (first | ((with_reducible refine gate_callee (f := 88) rfl ?_); refine goesL_ (some 84) rfl rfl Tryz.func88 (by kernel_rfl) rfl #[.string ((rd_T64 l0 0).f2)] rfl MPz ?_; (with_reducible refine (Gj.calls kj44 ((rd_T64 l0 0).f2) true _ A50.out).mono ?_); rintro e w56 ⟨rfl, hb⟩; refine ⟨_, rfl, ?_⟩; have n0_ := BBz BK207 hb; have n1_ := Aside0.mk (below_step (HBb GE207) hb); clear BK207; clear HB; have BK207 := n0_; have HB := n1_; clear n0_ n1_; (try clear hb); (try clear hb2); (try clear hk); (try clear hi); have hcz57_0 := C1z BK207; have hcz57_1 := C2z BK207; have hcz57_2 := C3z BK207; have hcz57_3 := C4z BK207; have hfz57_0 := blk_frozen BK207.out 0; have hfz57_1 := blk_frozen BK207.out 1; have hfz57_2 := blk_frozen BK207.out 2; have hfz57_3 := blk_frozen BK207.out 3) | (go_at_call 59; (with_reducible refine (Gd.calls ((rd_T64 l0 0).f1) true _ A53.out).mono ?_); rintro e w58 ⟨rfl, hb⟩; have n0_ := BBz BK207 hb; have n1_ := Aside0.mk (below_step (HBb GE207) hb); clear BK207; clear HB; have BK207 := n0_; have HB := n1_; clear n0_ n1_; (try clear hb); (try clear hb2); (try clear hk); (try clear hi)))
       go_ret2
       exact ⟨EZa, HBb GE207⟩
      replace c54 := Bool.eq_false_iff.mpr c54
      subst c54
      have H1 : (some (0, 0)) = some (r1, r2) := by rw [if_neg (show ¬ (false = true) by decide)] at H; exact H
      clear H
      have H := H1
      clear H1
      simp only [Option.some.injEq, Prod.mk.injEq] at H
      obtain ⟨rfl, rfl⟩ := H
      have hcz59_0 := C1z BK207
      have hcz59_1 := C2z BK207
      have hcz59_2 := C3z BK207
      have hcz59_3 := C4z BK207
      have hfz59_0 := blk_frozen BK207.out 0
      have hfz59_1 := blk_frozen BK207.out 1
      have hfz59_2 := blk_frozen BK207.out 2
      have hfz59_3 := blk_frozen BK207.out 3
      go_wp2_with (first | ((with_reducible refine gate_callee (f := 88) rfl ?_); refine goesL_ (some 84) rfl rfl Tryz.func88 (by kernel_rfl) rfl #[.string ((rd_T64 l0 0).f2)] rfl MPz ?_; (with_reducible refine (Gj.calls kj44 ((rd_T64 l0 0).f2) true _ A50.out).mono ?_); rintro e w60 ⟨rfl, hb⟩; refine ⟨_, rfl, ?_⟩; have n0_ := BBz BK207 hb; have n1_ := Aside0.mk (below_step (HBb GE207) hb); clear BK207; clear HB; have BK207 := n0_; have HB := n1_; clear n0_ n1_; (try clear hb); (try clear hb2); (try clear hk); (try clear hi); have hcz61_0 := C1z BK207; have hcz61_1 := C2z BK207; have hcz61_2 := C3z BK207; have hcz61_3 := C4z BK207; have hfz61_0 := blk_frozen BK207.out 0; have hfz61_1 := blk_frozen BK207.out 1; have hfz61_2 := blk_frozen BK207.out 2; have hfz61_3 := blk_frozen BK207.out 3) | (go_at_call 59; (with_reducible refine (Gd.calls ((rd_T64 l0 0).f1) false _ A53.out).mono ?_); rintro e w62 ⟨rfl, hb⟩; have n0_ := BBz BK207 hb; have n1_ := Aside0.mk (below_step (HBb GE207) hb); clear BK207; clear HB; have BK207 := n0_; have HB := n1_; clear n0_ n1_; (try clear hb); (try clear hb2); (try clear hk); (try clear hi)))
      go_ret2
      exact ⟨EZa, HBb GE207⟩
   subst c9
   have H1 : (if ((rd_T64 l0 0).f1).toList = ([] : List UInt8) then (if ((rd_T64 l0 0).f2).toList = ([] : List UInt8) then (if ((rd_T64 l0 0).f3) < 1 then (Gf.j1 kj3 l0 true ((rd_T64 l0 0).f0) ((rd_T64 l0 0).f1) ((rd_T64 l0 0).f2) ((rd_T64 l0 0).f3)) else (if ((rd_T64 l0 0).f0) = 3 then (if ((rd_T64 l0 0).f3) = 1 then (Gf.j1 kj3 l0 (decide (((rd_T64 l0 0).f3) > 20)) ((rd_T64 l0 0).f0) ((rd_T64 l0 0).f1) ((rd_T64 l0 0).f2) ((rd_T64 l0 0).f3)) else (Gf.j1 kj3 l0 true ((rd_T64 l0 0).f0) ((rd_T64 l0 0).f1) ((rd_T64 l0 0).f2) ((rd_T64 l0 0).f3))) else (Gf.j1 kj3 l0 (decide (((rd_T64 l0 0).f3) > 20)) ((rd_T64 l0 0).f0) ((rd_T64 l0 0).f1) ((rd_T64 l0 0).f2) ((rd_T64 l0 0).f3)))) else (Gf.j1 kj3 l0 true ((rd_T64 l0 0).f0) ((rd_T64 l0 0).f1) ((rd_T64 l0 0).f2) ((rd_T64 l0 0).f3))) else (Gf.j1 kj3 l0 true ((rd_T64 l0 0).f0) ((rd_T64 l0 0).f1) ((rd_T64 l0 0).f2) ((rd_T64 l0 0).f3))) = some (r1, r2) := by rw [if_pos rfl] at H; exact H
   clear H
   have H := H1
   clear H1
   have HC10 := Aside0.mk H
   clear H
   go_upto_region 9 with (fail)
   go_cut [48] (fun v48 wc => ∃ (kq : Nat) (x48_9 : Bool), v48 = .bool x48_9 ∧ Aside0 (Gf.j1 kq l0 x48_9 ((rd_T64 l0 0).f0) ((rd_T64 l0 0).f1) ((rd_T64 l0 0).f2) ((rd_T64 l0 0).f3) = some (r1, r2)) ∧ Aside0 (kq ≤ kj3) ∧ Aside0 (wc.heap[gb207]? = some (.cells #[.int .i64 ((rd_T64 l0 0).f0), .string ((rd_T64 l0 0).f1), .string ((rd_T64 l0 0).f2), .int .i64 ((rd_T64 l0 0).f3)] 64 (0, 0))) ∧ Aside0 (Below w.heap.size w wc))
   case first =>
    have H := HC10.out
    clear HC10
    by_cases c11 : ((rd_T64 l0 0).f1).toList = ([] : List UInt8)
    rotate_left
    ·rw [if_neg c11] at H
     have c11b0 : (((rd_T64 l0 0).f1).toList == ([] : List UInt8)) = false := beq_eq_false_iff_ne.mpr c11
     have c11b1 : (((rd_T64 l0 0).f1).toList != ([] : List UInt8)) = true := bne_iff_ne.mpr c11
     (first | rw [c11b0] | rw [c11v0] | (simp only [i64_w, i32_w]; rw [c11b0]) | (simp only [i64_w, i32_w]; rw [c11v0]) | skip)
     have H' := Aside0.mk H
     clear H
     have hcz21_0 := C1z BK207
     have hcz21_1 := C2z BK207
     have hcz21_2 := C3z BK207
     have hcz21_3 := C4z BK207
     have hfz21_0 := blk_frozen BK207.out 0
     have hfz21_1 := blk_frozen BK207.out 1
     have hfz21_2 := blk_frozen BK207.out 2
     have hfz21_3 := blk_frozen BK207.out 3
     go_wp2
     go_meet
     case rel => exact ⟨_, (true), EZc, H', ⟨by have := HJ3.out; first | omega | exact Nat.le_refl _⟩, ⟨by (with_reducible repeat (first | refine blk_drewN ?_ _ | refine blk_drew ?_ | refine blk_alloc ?_ _)); exact BK207.out⟩, ⟨by repeat (first | (with_reducible first | exact HB.out | apply below_alloc | apply pw_below_drewN | apply below_drew1 | refine below_set ?_ GE207.out) | exact HB.out)⟩⟩
    rw [if_pos c11] at H
    have c11b0 : (((rd_T64 l0 0).f1).toList == ([] : List UInt8)) = true := beq_iff_eq.mpr c11
    have c11b1 : (((rd_T64 l0 0).f1).toList != ([] : List UInt8)) = false := bne_eq_false_iff_eq.mpr c11
    clear c11
    (first | rw [c11b0] | rw [c11v0] | (simp only [i64_w, i32_w]; rw [c11b0]) | (simp only [i64_w, i32_w]; rw [c11v0]) | skip)
    by_cases c12 : ((rd_T64 l0 0).f2).toList = ([] : List UInt8)
    rotate_left
    ·rw [if_neg c12] at H
     have c12b0 : (((rd_T64 l0 0).f2).toList == ([] : List UInt8)) = false := beq_eq_false_iff_ne.mpr c12
     have c12b1 : (((rd_T64 l0 0).f2).toList != ([] : List UInt8)) = true := bne_iff_ne.mpr c12
     have H' := Aside0.mk H
     clear H
     have hcz20_0 := C1z BK207
     have hcz20_1 := C2z BK207
     have hcz20_2 := C3z BK207
     have hcz20_3 := C4z BK207
     have hfz20_0 := blk_frozen BK207.out 0
     have hfz20_1 := blk_frozen BK207.out 1
     have hfz20_2 := blk_frozen BK207.out 2
     have hfz20_3 := blk_frozen BK207.out 3
     go_wp2
     go_meet
     case rel => exact ⟨_, (true), EZc, H', ⟨by have := HJ3.out; first | omega | exact Nat.le_refl _⟩, ⟨by (with_reducible repeat (first | refine blk_drewN ?_ _ | refine blk_drew ?_ | refine blk_alloc ?_ _)); exact BK207.out⟩, ⟨by repeat (first | (with_reducible first | exact HB.out | apply below_alloc | apply pw_below_drewN | apply below_drew1 | refine below_set ?_ GE207.out) | exact HB.out)⟩⟩
    rw [if_pos c12] at H
    have c12b0 : (((rd_T64 l0 0).f2).toList == ([] : List UInt8)) = true := beq_iff_eq.mpr c12
    have c12b1 : (((rd_T64 l0 0).f2).toList != ([] : List UInt8)) = false := bne_eq_false_iff_eq.mpr c12
    clear c12
    by_cases c13 : ((rd_T64 l0 0).f3) < 1
    ·rw [if_pos c13] at H
     have c13b0 : decide (((rd_T64 l0 0).f3) < 1) = true := decide_eq_true c13
     clear c13
     have H' := Aside0.mk H
     clear H
     have hcz14_0 := C1z BK207
     have hcz14_1 := C2z BK207
     have hcz14_2 := C3z BK207
     have hcz14_3 := C4z BK207
     have hfz14_0 := blk_frozen BK207.out 0
     have hfz14_1 := blk_frozen BK207.out 1
     have hfz14_2 := blk_frozen BK207.out 2
     have hfz14_3 := blk_frozen BK207.out 3
     go_wp2
     go_meet
     case rel => exact ⟨_, (true), EZc, H', ⟨by have := HJ3.out; first | omega | exact Nat.le_refl _⟩, ⟨by (with_reducible repeat (first | refine blk_drewN ?_ _ | refine blk_drew ?_ | refine blk_alloc ?_ _)); exact BK207.out⟩, ⟨by repeat (first | (with_reducible first | exact HB.out | apply below_alloc | apply pw_below_drewN | apply below_drew1 | refine below_set ?_ GE207.out) | exact HB.out)⟩⟩
    rw [if_neg c13] at H
    have c13b0 : decide (((rd_T64 l0 0).f3) < 1) = false := decide_eq_false c13
    clear c13
    by_cases c15 : ((rd_T64 l0 0).f0) = 3
    rotate_left
    ·rw [if_neg c15] at H
     have c15b0 : (((rd_T64 l0 0).f0) == 3) = false := beq_eq_false_iff_ne.mpr c15
     have c15b1 : (((rd_T64 l0 0).f0) != 3) = true := bne_iff_ne.mpr c15
     have H' := Aside0.mk H
     clear H
     have hcz19_0 := C1z BK207
     have hcz19_1 := C2z BK207
     have hcz19_2 := C3z BK207
     have hcz19_3 := C4z BK207
     have hfz19_0 := blk_frozen BK207.out 0
     have hfz19_1 := blk_frozen BK207.out 1
     have hfz19_2 := blk_frozen BK207.out 2
     have hfz19_3 := blk_frozen BK207.out 3
     go_wp2
     go_meet
     case rel => exact ⟨_, (decide (((rd_T64 l0 0).f3) > 20)), EZc, H', ⟨by have := HJ3.out; first | omega | exact Nat.le_refl _⟩, ⟨by (with_reducible repeat (first | refine blk_drewN ?_ _ | refine blk_drew ?_ | refine blk_alloc ?_ _)); exact BK207.out⟩, ⟨by repeat (first | (with_reducible first | exact HB.out | apply below_alloc | apply pw_below_drewN | apply below_drew1 | refine below_set ?_ GE207.out) | exact HB.out)⟩⟩
    rw [if_pos c15] at H
    have c15b0 : (((rd_T64 l0 0).f0) == 3) = true := beq_iff_eq.mpr c15
    have c15b1 : (((rd_T64 l0 0).f0) != 3) = false := bne_eq_false_iff_eq.mpr c15
    clear c15
    by_cases c16 : ((rd_T64 l0 0).f3) = 1
    ·rw [if_pos c16] at H
     have c16b0 : (((rd_T64 l0 0).f3) == 1) = true := beq_iff_eq.mpr c16
     have c16b1 : (((rd_T64 l0 0).f3) != 1) = false := bne_eq_false_iff_eq.mpr c16
     clear c16
     have H' := Aside0.mk H
     clear H
     have hcz17_0 := C1z BK207
     have hcz17_1 := C2z BK207
     have hcz17_2 := C3z BK207
     have hcz17_3 := C4z BK207
     have hfz17_0 := blk_frozen BK207.out 0
     have hfz17_1 := blk_frozen BK207.out 1
     have hfz17_2 := blk_frozen BK207.out 2
     have hfz17_3 := blk_frozen BK207.out 3
     go_wp2
     go_meet
     case rel => exact ⟨_, (decide (((rd_T64 l0 0).f3) > 20)), EZc, H', ⟨by have := HJ3.out; first | omega | exact Nat.le_refl _⟩, ⟨by (with_reducible repeat (first | refine blk_drewN ?_ _ | refine blk_drew ?_ | refine blk_alloc ?_ _)); exact BK207.out⟩, ⟨by repeat (first | (with_reducible first | exact HB.out | apply below_alloc | apply pw_below_drewN | apply below_drew1 | refine below_set ?_ GE207.out) | exact HB.out)⟩⟩
    rw [if_neg c16] at H
    have c16b0 : (((rd_T64 l0 0).f3) == 1) = false := beq_eq_false_iff_ne.mpr c16
    have c16b1 : (((rd_T64 l0 0).f3) != 1) = true := bne_iff_ne.mpr c16
    have H' := Aside0.mk H
    clear H
    have hcz18_0 := C1z BK207
    have hcz18_1 := C2z BK207
    have hcz18_2 := C3z BK207
    have hcz18_3 := C4z BK207
    have hfz18_0 := blk_frozen BK207.out 0
    have hfz18_1 := blk_frozen BK207.out 1
    have hfz18_2 := blk_frozen BK207.out 2
    have hfz18_3 := blk_frozen BK207.out 3
    go_wp2
    go_meet
    case rel => exact ⟨_, (true), EZc, H', ⟨by have := HJ3.out; first | omega | exact Nat.le_refl _⟩, ⟨by (with_reducible repeat (first | refine blk_drewN ?_ _ | refine blk_drew ?_ | refine blk_alloc ?_ _)); exact BK207.out⟩, ⟨by repeat (first | (with_reducible first | exact HB.out | apply below_alloc | apply pw_below_drewN | apply below_drew1 | refine below_set ?_ GE207.out) | exact HB.out)⟩⟩
   case rest =>
    clear HC10
    try clear c1
    try clear c2
    try clear c2b0
    try clear c2b1
    try clear c2b2
    try clear p2
    try clear q2
    try clear hx2
    try clear qi2
    try clear c3
    try clear c3b0
    try clear c3b1
    try clear c4
    try clear c7
    try clear c7b0
    try clear c7b1
    try clear c8
    try clear c8b0
    try clear c8b1
    try clear c9
    try clear c11
    try clear c11b0
    try clear c11b1
    try clear c12
    try clear c12b0
    try clear c12b1
    try clear c13
    try clear c13b0
    try clear c15
    try clear c15b0
    try clear c15b1
    try clear c16
    try clear c16b0
    try clear c16b1
    try clear p20
    try clear q20
    try clear hx20
    try clear qi20
    try clear hcz14_0
    try clear hcz14_1
    try clear hcz14_2
    try clear hcz14_3
    try clear hcz17_0
    try clear hcz17_1
    try clear hcz17_2
    try clear hcz17_3
    try clear hcz18_0
    try clear hcz18_1
    try clear hcz18_2
    try clear hcz18_3
    try clear hcz19_0
    try clear hcz19_1
    try clear hcz19_2
    try clear hcz19_3
    try clear hcz20_0
    try clear hcz20_1
    try clear hcz20_2
    try clear hcz20_3
    try clear hcz21_0
    try clear hcz21_1
    try clear hcz21_2
    try clear hcz21_3
    try clear hcz6_0
    try clear hcz6_1
    try clear hcz6_2
    try clear hcz6_3
    try clear hfz14_0
    try clear hfz14_1
    try clear hfz14_2
    try clear hfz14_3
    try clear hfz17_0
    try clear hfz17_1
    try clear hfz17_2
    try clear hfz17_3
    try clear hfz18_0
    try clear hfz18_1
    try clear hfz18_2
    try clear hfz18_3
    try clear hfz19_0
    try clear hfz19_1
    try clear hfz19_2
    try clear hfz19_3
    try clear hfz20_0
    try clear hfz20_1
    try clear hfz20_2
    try clear hfz20_3
    try clear hfz21_0
    try clear hfz21_1
    try clear hfz21_2
    try clear hfz21_3
    try clear hfz6_0
    try clear hfz6_1
    try clear hfz6_2
    try clear hfz6_3
    try clear hx206_0
    try clear hx206_1
    try clear hx206_2
    try clear hx206_3
    try clear p2
    try clear p206
    try clear q2
    try clear q206
    obtain ⟨kq, x48_9, rfl, HA, HJ9, BK207, HB⟩ := hcut
    cases kq with
    | zero => exact absurd HA.out (by simp [Gf.j1])
    | succ kj9 =>
     have H := HA.out
     clear HA
     simp only [Gf.j1] at H
     by_cases c22 : x48_9 = true
     ·subst c22
      have H1 : (some (0, 0)) = some (r1, r2) := by rw [if_pos rfl] at H; exact H
      clear H
      have H := H1
      clear H1
      simp only [Option.some.injEq, Prod.mk.injEq] at H
      obtain ⟨rfl, rfl⟩ := H
      go_wp2
      go_ret2
      exact ⟨EZa, HBb GE207⟩
     replace c22 := Bool.eq_false_iff.mpr c22
     subst c22
     have H1 : (Gf.l0 kj9 l0 1 0 ((rd_T64 l0 0).f3) 0) = some (r1, r2) := by rw [if_neg (show ¬ (false = true) by decide)] at H; exact H
     clear H
     have H := H1
     clear H1
     have H' := Aside0.mk H
     clear H
     have hcz23_0 := C1z BK207
     have hcz23_1 := C2z BK207
     have hcz23_2 := C3z BK207
     have hcz23_3 := C4z BK207
     have hfz23_0 := blk_frozen BK207.out 0
     have hfz23_1 := blk_frozen BK207.out 1
     have hfz23_2 := blk_frozen BK207.out 2
     have hfz23_3 := blk_frozen BK207.out 3
     go_wp2
     go_loopg [5, 6, 51] kj9 (fun kq v5 v6 v51 w' => ∃ (x5_3 : Int) (x6_3 : Int) (x51_3 : Int), v5 = .int .i64 x5_3 ∧ v6 = .int .i64 x6_3 ∧ v51 = .int .i64 x51_3 ∧ Aside0 (Gf.l0 kq l0 x5_3 x6_3 ((rd_T64 l0 0).f3) x51_3 = some (r1, r2)) ∧ Aside0 (kq ≤ kj9) ∧ Aside0 (w'.heap[gb207]? = some (.cells #[.int .i64 ((rd_T64 l0 0).f0), .string ((rd_T64 l0 0).f1), .string ((rd_T64 l0 0).f2), .int .i64 ((rd_T64 l0 0).f3)] 64 (0, 0))) ∧ Aside0 (Below w.heap.size w w'))
     case atStart => exact ⟨(1), (0), (0), EZc, EZc, EZc, H', ⟨Nat.le_refl _⟩, ⟨by (with_reducible repeat (first | refine blk_drewN ?_ _ | refine blk_drew ?_ | refine blk_alloc ?_ _)); exact BK207.out⟩, ⟨by repeat (first | (with_reducible first | exact HB.out | apply below_alloc | apply pw_below_drewN | apply below_drew1 | refine below_set ?_ GE207.out) | exact HB.out)⟩⟩
     case round =>
      clear H'
      try clear c1
      try clear c2
      try clear c2b0
      try clear c2b1
      try clear c2b2
      try clear p2
      try clear q2
      try clear hx2
      try clear qi2
      try clear c3
      try clear c3b0
      try clear c3b1
      try clear c4
      try clear c7
      try clear c7b0
      try clear c7b1
      try clear c8
      try clear c8b0
      try clear c8b1
      try clear c9
      try clear c11
      try clear c11b0
      try clear c11b1
      try clear c12
      try clear c12b0
      try clear c12b1
      try clear c13
      try clear c13b0
      try clear c15
      try clear c15b0
      try clear c15b1
      try clear c16
      try clear c16b0
      try clear c16b1
      try clear p20
      try clear q20
      try clear hx20
      try clear qi20
      try clear c22
      try clear hcz14_0
      try clear hcz14_1
      try clear hcz14_2
      try clear hcz14_3
      try clear hcz17_0
      try clear hcz17_1
      try clear hcz17_2
      try clear hcz17_3
      try clear hcz18_0
      try clear hcz18_1
      try clear hcz18_2
      try clear hcz18_3
      try clear hcz19_0
      try clear hcz19_1
      try clear hcz19_2
      try clear hcz19_3
      try clear hcz20_0
      try clear hcz20_1
      try clear hcz20_2
      try clear hcz20_3
      try clear hcz21_0
      try clear hcz21_1
      try clear hcz21_2
      try clear hcz21_3
      try clear hcz23_0
      try clear hcz23_1
      try clear hcz23_2
      try clear hcz23_3
      try clear hcz6_0
      try clear hcz6_1
      try clear hcz6_2
      try clear hcz6_3
      try clear hfz14_0
      try clear hfz14_1
      try clear hfz14_2
      try clear hfz14_3
      try clear hfz17_0
      try clear hfz17_1
      try clear hfz17_2
      try clear hfz17_3
      try clear hfz18_0
      try clear hfz18_1
      try clear hfz18_2
      try clear hfz18_3
      try clear hfz19_0
      try clear hfz19_1
      try clear hfz19_2
      try clear hfz19_3
      try clear hfz20_0
      try clear hfz20_1
      try clear hfz20_2
      try clear hfz20_3
      try clear hfz21_0
      try clear hfz21_1
      try clear hfz21_2
      try clear hfz21_3
      try clear hfz23_0
      try clear hfz23_1
      try clear hfz23_2
      try clear hfz23_3
      try clear hfz6_0
      try clear hfz6_1
      try clear hfz6_2
      try clear hfz6_3
      try clear hx206_0
      try clear hx206_1
      try clear hx206_2
      try clear hx206_3
      try clear p2
      try clear p20
      try clear p206
      try clear q2
      try clear q20
      try clear q206
      obtain ⟨x5_3, x6_3, x51_3, rfl, rfl, rfl, HA, HK3, BK207, HB⟩ := hrel
      cases gk with
      | zero => exact absurd HA.out (by simp [Gf.l0])
      | succ k3 =>
       have H := HA.out
       clear HA
       simp only [Gf.l0] at H
       by_cases c24 : x51_3 < ((rd_T64 l0 0).f3)
       rotate_left
       ·rw [if_neg c24] at H
        have c24b0 : decide (x51_3 < ((rd_T64 l0 0).f3)) = false := decide_eq_false c24
        clear c24
        simp only [Option.some.injEq, Prod.mk.injEq] at H
        obtain ⟨rfl, rfl⟩ := H
        go_wp2
        go_ret2
        exact ⟨EZa, HBb GE207⟩
       rw [if_pos c24] at H
       have c24b0 : decide (x51_3 < ((rd_T64 l0 0).f3)) = true := decide_eq_true c24
       clear c24
       by_cases c25 : 0 ≤ x5_3
       rotate_left
       ·rw [if_neg c25] at H
        exact absurd H (by simp)
       rw [if_pos c25] at H
       have c25b0 := eq_true c25
       have c25b1 : decide (0 ≤ x5_3) = true := decide_eq_true c25
       clear c25
       by_cases c26 : x5_3 ≤ (l0.length : Int)
       rotate_left
       ·rw [if_neg c26] at H
        exact absurd H (by simp)
       rw [if_pos c26] at H
       have c26b0 := eq_true c26
       have c26b1 : decide (x5_3 ≤ (l0.length : Int)) = true := decide_eq_true c26
       clear c26
       obtain ⟨y208, hy208⟩ : ∃ y_ : List (S64), y_ = (l0.drop (x5_3 : Int).toNat) := ⟨_, rfl⟩
       replace H : ((Gf.f k3 y208).bind fun bt212 => (if bt212.1 = 0 then (some (0, 0)) else (Gf.l0 k3 l0 (wrap64 (x5_3 + bt212.1)) (mx x6_3 bt212.2) ((rd_T64 l0 0).f3) (wrap64 (x51_3 + 1))))) = some (r1, r2) := by first | (rw [hy208]; with_reducible exact H) | (have H2_ := (Option.bind_some _ _).symm.trans H; rw [hy208]; with_reducible exact H2_) | (have H2_ := (Option.bind_some _ _).symm.trans H; with_reducible exact H2_) | with_reducible exact H | (rw [hy208]; exact H) | exact H
       have Ny208 := Aside0.mk hy208
       clear hy208
       replace H := Option.bind_eq_some_iff.mp H
       obtain ⟨⟨t212, t213⟩, A270, H⟩ := H
       replace H : (if t212 = 0 then (some (0, 0)) else (Gf.l0 k3 l0 (wrap64 (x5_3 + t212)) (mx x6_3 t213) ((rd_T64 l0 0).f3) (wrap64 (x51_3 + 1)))) = some (r1, r2) := H
       have A27 := Aside0.mk A270
       clear A270
       by_cases c28 : t212 = 0
       ·rw [if_pos c28] at H
        have c28b0 : (t212 == 0) = true := beq_iff_eq.mpr c28
        have c28b1 : (t212 != 0) = false := bne_eq_false_iff_eq.mpr c28
        clear c28
        simp only [Option.some.injEq, Prod.mk.injEq] at H
        obtain ⟨rfl, rfl⟩ := H
        have q29 : (x5_3 : Int) ≤ ((l0.length : Int) : Int) := ODz
        obtain ⟨i029, hi029, _, hsz29, _⟩ := info_parts info64
        have hroom29 : l0.length ≤ c0 := HC0.out
        have hC29 : Kd.C k64 _ (some ad206) l0.length l0 := HR0.out
        have q029 : (0 : Int) ≤ (x5_3 : Int) := ODz
        have hcut29 := cut_from (P := Tryz.prog) 25 64 .i64 Tryz.underlying25 hi029 4 hsz29 (some ad206) l0.length c0 x5_3 q029 q29
        have hr29 := Kd.C_drop (m := (x5_3 : Int).toNat) (c := c0) hC29 (by omega) hroom29
        obtain ⟨A29, hA29⟩ : ∃ A1, A1 = (if c0 = (x5_3 : Int).toNat then (some ad206) else ((some ad206) : Option Addr).map (·.add ((x5_3 : Int).toNat * 4))) := ⟨_, rfl⟩
        obtain ⟨c29, hc29⟩ : ∃ c1, c1 = c0 - (x5_3 : Int).toNat := ⟨_, rfl⟩
        have hy29 : y208.length = l0.length - (x5_3 : Int).toNat := (by rw [Ny208.out, List.length_drop] <;> omega)
        rw [show (l0).drop (x5_3 : Int).toNat = y208 from Ny208.out.symm] at hr29
        replace hr29 : Kd.C k64 _ A29 y208.length y208 := (by rw [hA29]; exact hr29)
        rw [← hy29, ← hA29, ← hc29] at hcut29
        have HR211 := Aside0.mk hr29
        have HC211 := Aside0.mk (show y208.length ≤ c29 from by rw [hy29, hc29]; exact Nat.sub_le_sub_right hroom29 _)
        clear hr29 hC29 hroom29 hi029 hsz29 hc29
        have KY29 := Aside0.mk hy29
        have KA29 := Aside0.mk hA29
        clear hy29 hA29
        replace q29 := eq_true q29
        go_wp2_with (first | ((with_reducible refine gate_callee (f := 49) rfl ?_); refine goesL_ (some 57) rfl rfl Tryz.func49 (by kernel_rfl) rfl #[.slice A29 y208.length c29] rfl MPz ?_; (with_reducible refine (ih k3 (by have := HJ3.out; have := HJ9.out; have := HK3.out; omega) _ _ y208 t212 t213 _ ?side1 ?side2 A27.out).mono ?_); (case side1 => exact KCz (Kd.C_below HR211.out HB.out)); (case side2 => exact HC211.out); rintro e w30 ⟨rfl, hb⟩; refine ⟨_, rfl, ?_⟩; have n0_ := BBz BK207 hb; have n1_ := Aside0.mk (below_step (HBb GE207) hb); clear BK207; clear HB; have BK207 := n0_; have HB := n1_; clear n0_ n1_; (try clear hb); (try clear hb2); (try clear hk); (try clear hi)))
        go_ret2
        exact ⟨EZa, HBb GE207⟩
       rw [if_neg c28] at H
       have c28b0 : (t212 == 0) = false := beq_eq_false_iff_ne.mpr c28
       have c28b1 : (t212 != 0) = true := bne_iff_ne.mpr c28
       obtain ⟨ji31, hji31⟩ : ∃ j_ : Int, (mx x6_3 t213) = j_ := ⟨_, rfl⟩
       replace H : (Gf.l0 k3 l0 (wrap64 (x5_3 + t212)) ji31 ((rd_T64 l0 0).f3) (wrap64 (x51_3 + 1))) = some (r1, r2) := by first | (rw [hji31] at H; exact H) | (simp only [hji31] at H ⊢; exact H)
       (try rw [hji31] at A27)
       have hji31_ : (if x6_3 < t213 then t213 else x6_3) = ji31 := hji31
       have H' := Aside0.mk H
       clear H
       have q32 : (x5_3 : Int) ≤ ((l0.length : Int) : Int) := ODz
       obtain ⟨i032, hi032, _, hsz32, _⟩ := info_parts info64
       have hroom32 : l0.length ≤ c0 := HC0.out
       have hC32 : Kd.C k64 _ (some ad206) l0.length l0 := HR0.out
       have q032 : (0 : Int) ≤ (x5_3 : Int) := ODz
       have hcut32 := cut_from (P := Tryz.prog) 25 64 .i64 Tryz.underlying25 hi032 4 hsz32 (some ad206) l0.length c0 x5_3 q032 q32
       have hr32 := Kd.C_drop (m := (x5_3 : Int).toNat) (c := c0) hC32 (by omega) hroom32
       obtain ⟨A32, hA32⟩ : ∃ A1, A1 = (if c0 = (x5_3 : Int).toNat then (some ad206) else ((some ad206) : Option Addr).map (·.add ((x5_3 : Int).toNat * 4))) := ⟨_, rfl⟩
       obtain ⟨c32, hc32⟩ : ∃ c1, c1 = c0 - (x5_3 : Int).toNat := ⟨_, rfl⟩
       have hy32 : y208.length = l0.length - (x5_3 : Int).toNat := (by rw [Ny208.out, List.length_drop] <;> omega)
       rw [show (l0).drop (x5_3 : Int).toNat = y208 from Ny208.out.symm] at hr32
       replace hr32 : Kd.C k64 _ A32 y208.length y208 := (by rw [hA32]; exact hr32)
       rw [← hy32, ← hA32, ← hc32] at hcut32
       have HR211 := Aside0.mk hr32
       have HC211 := Aside0.mk (show y208.length ≤ c32 from by rw [hy32, hc32]; exact Nat.sub_le_sub_right hroom32 _)
       clear hr32 hC32 hroom32 hi032 hsz32 hc32
       have KY32 := Aside0.mk hy32
       have KA32 := Aside0.mk hA32
       clear hy32 hA32
       replace q32 := eq_true q32
       go_wp2_with (first | ((with_reducible refine gate_callee (f := 49) rfl ?_); refine goesL_ (some 57) rfl rfl Tryz.func49 (by kernel_rfl) rfl #[.slice A32 y208.length c32] rfl MPz ?_; (with_reducible refine (ih k3 (by have := HJ3.out; have := HJ9.out; have := HK3.out; omega) _ _ y208 t212 t213 _ ?side1 ?side2 A27.out).mono ?_); (case side1 => exact KCz (Kd.C_below HR211.out HB.out)); (case side2 => exact HC211.out); rintro e w33 ⟨rfl, hb⟩; refine ⟨_, rfl, ?_⟩; have n0_ := BBz BK207 hb; have n1_ := Aside0.mk (below_step (HBb GE207) hb); clear BK207; clear HB; have BK207 := n0_; have HB := n1_; clear n0_ n1_; (try clear hb); (try clear hb2); (try clear hk); (try clear hi)))
       go_roundg k3
       case measure => have := HJ3.out; have := HJ9.out; have := HK3.out; omega
       case rel => exact ⟨(wrap64 (x5_3 + t212)), (ji31), (wrap64 (x51_3 + 1)), EZc, (by first | rfl | (simp; done) | (simp only [← hji31] <;> (first | rfl | simp)) | (simp [*]; done)), EZc, H', ⟨by have := HJ3.out; have := HJ9.out; have := HK3.out; omega⟩, ⟨by (with_reducible repeat (first | refine blk_drewN ?_ _ | refine blk_drew ?_ | refine blk_alloc ?_ _)); exact BK207.out⟩, ⟨by repeat (first | (with_reducible first | exact HB.out | apply below_alloc | apply pw_below_drewN | apply below_drew1 | refine below_set ?_ GE207.out) | exact HB.out)⟩⟩
end Go.Proofs.YtmkeigielncpjaaGreatDoor.PFnExactFilterRead
