-- Laid by this session's own program out of the translation; Lean checks it.
import Derived.Test.YtgkjlfimjnhbbaaDoorQFnExactChangesRightx0
import Derived.Test.YtgkjlfimjnhbbaaDoorQFnExactChangesRightx1
import Derived.Test.YtgkjlfimjnhbbaaDoorQFnExactChangesRightx5
import Derived.Test.YtgkjlfimjnhbbaaDoorQFnExactChangesRightx6
import Derived.Test.YtgkjlfimjnhbbaaDoorQFnExactChangesRightx8
namespace Go.Proofs.YtgkjlfimjnhbbaaDoor.PFnExactChangesRight
open Go.RowKit Go.Proofs.YtgkjlfimjnhbbaaDoorW.PrintWords Go.Proofs.YtgkjlfimjnhbbaaDoorW.PrintLast Go.Proofs.YtgkjlfimjnhbbaaDoorW.PrintMore
attribute [local go_sem] max2_int min2_int max_two min_two max_three min_three max_four min_four   -- for this text's walks alone
set_option linter.unusedVariables false
set_option linter.unusedSimpArgs false
def spec_EntryRight.f (k : Nat) (l0_0 : List (S126)) (l0_1 : List (S111)) : Option (Bool) := if (l0_0.length : Int) > 0 then ((spec_DnRight.f k l0_0).bind fun t232 => (if t232 = true then ((spec_l03Attrs.f k l0_1).bind fun t233 => (some t233)) else (some false))) else (some false)
theorem spec_EntryRight.mono : ∀ a0 a1 k, LeO (spec_EntryRight.f k a0 a1) (spec_EntryRight.f (k + 1) a0 a1) := by
 intro a0 a1 k
 unfold spec_EntryRight.f
 repeat' first
   | (with_reducible exact spec_DnRight.mono _ _)
   | (with_reducible exact spec_l03Attrs.mono _ _)
   | (with_reducible exact LeO.refl _)
   | (with_reducible exact LeO.none _)
   | (with_reducible refine LeO.ite ?_ ?_)
   | (with_reducible refine LeO.bind ?_ (fun _ => ?_))
   | exact spec_DnRight.mono _ _
   | exact spec_l03Attrs.mono _ _
   | exact LeO.none _
   | refine LeO.ite ?_ ?_
   | refine LeO.bind ?_ (fun _ => ?_)
set_option maxHeartbeats 8000000 in
set_option maxRecDepth 100000 in
theorem spec_EntryRight.calls (k : Nat) (A0_0 : Option Addr) (c0_0 : Nat) (l0_0 : List (S126)) (A0_1 : Option Addr) (c0_1 : Nat) (l0_1 : List (S111)) (r : Bool) (w : World) (hr0_0 : Kd.C k126 w A0_0 l0_0.length l0_0) (hc0_0 : l0_0.length ≤ c0_0) (hr0_1 : Kd.C k111 w A0_1 l0_1.length l0_1) (hc0_1 : l0_1.length ≤ c0_1) (h : spec_EntryRight.f k l0_0 l0_1 = some r) :
  Calls Tryd.prog 96 #[.agg #[.slice A0_0 l0_0.length c0_0, .slice A0_1 l0_1.length c0_1]] w fun e w' => e = .returned (.bool r) ∧ Below w.heap.size w w' := by
 have hu81 := Tryd.underlying81
 have HR0_0 := Aside0.mk hr0_0
 have HC0_0 := Aside0.mk hc0_0
 clear hr0_0 hc0_0
 have HR0_1 := Aside0.mk hr0_1
 have HC0_1 := Aside0.mk hc0_1
 clear hr0_1 hc0_1
 have HB := Aside0.mk (Below.refl w.heap.size w)
 have H : (if (l0_0.length : Int) > 0 then ((spec_DnRight.f k l0_0).bind fun t232 => (if t232 = true then ((spec_l03Attrs.f k l0_1).bind fun t233 => (some t233)) else (some false))) else (some false)) = some r := h
 clear h
 by_cases c2 : (l0_0.length : Int) > 0
 rotate_left
 ·rw [if_neg c2] at H
  have c2b0 : decide (0 < (l0_0.length : Int)) = false := decide_eq_false c2
  have c2b1 : decide (0 < l0_0.length) = false := decide_eq_false (by omega)
  clear c2
  obtain rfl := Option.some.inj H
  go_enter Tryd.func96, Tryd.ntmps96
  go_wp2_with (first | ((with_reducible refine gate_dst (N := 1) rfl ?_); refine box_event ?hg (N := 1) ?hd (cs := #[.slice A0_0 l0_0.length c0_0, .slice A0_1 l0_1.length c0_1]) (t := 81) ?hr ?_; (case hd => rfl); (case hg => rfl); (case hr => first | (go_simp; done) | (go_simp; rfl)); intro gb231 hg w14 hbox hb; have n0_ := Aside0.mk (below_step HBa hb); have n1_ := Aside0.mk (hbox); have n2_ := BSz w hg HBa; have n3_ := BSz w hg HBa; clear HB; have HB := n0_; have BK231 := n1_; have GW231 := n2_; have GE231 := n3_; clear n0_ n1_ n2_ n3_; clear hb hbox hg; have hcz15_0 := C1z BK231; have hcz15_1 := C2z BK231; have hfz15_0 := blk_frozen BK231.out 0; have hfz15_1 := blk_frozen BK231.out 1))
  go_ret
  exact ⟨EZa, HBb GE231⟩
 rw [if_pos c2] at H
 have c2b0 : decide (0 < (l0_0.length : Int)) = true := decide_eq_true c2
 have c2b1 : decide (0 < l0_0.length) = true := decide_eq_true (by omega)
 clear c2
 replace H := Option.bind_eq_some_iff.mp H
 obtain ⟨t232, A30, H⟩ := H
 replace H : (if t232 = true then ((spec_l03Attrs.f k l0_1).bind fun t233 => (some t233)) else (some false)) = some r := H
 have A3 := Aside0.mk A30
 clear A30
 by_cases c4 : t232 = true
 ·subst c4
  have H1 : ((spec_l03Attrs.f k l0_1).bind fun t233 => (some t233)) = some r := by rw [if_pos rfl] at H; exact H
  clear H
  have H := H1
  clear H1
  replace H := Option.bind_eq_some_iff.mp H
  obtain ⟨t233, A50, H⟩ := H
  replace H : (some t233) = some r := H
  have A5 := Aside0.mk A50
  clear A50
  obtain rfl := Option.some.inj H
  go_enter Tryd.func96, Tryd.ntmps96
  go_wp2_with (first | ((with_reducible refine gate_dst (N := 1) rfl ?_); refine box_event ?hg (N := 1) ?hd (cs := #[.slice A0_0 l0_0.length c0_0, .slice A0_1 l0_1.length c0_1]) (t := 81) ?hr ?_; (case hd => rfl); (case hg => rfl); (case hr => first | (go_simp; done) | (go_simp; rfl)); intro gb231 hg w6 hbox hb; have n0_ := Aside0.mk (below_step HBa hb); have n1_ := Aside0.mk (hbox); have n2_ := BSz w hg HBa; have n3_ := BSz w hg HBa; clear HB; have HB := n0_; have BK231 := n1_; have GW231 := n2_; have GE231 := n3_; clear n0_ n1_ n2_ n3_; clear hb hbox hg; have hcz7_0 := C1z BK231; have hcz7_1 := C2z BK231; have hfz7_0 := blk_frozen BK231.out 0; have hfz7_1 := blk_frozen BK231.out 1) | (go_at_call 94; (with_reducible refine (spec_DnRight.calls k _ _ l0_0 true _ ?side1 ?side2 A3.out).mono ?_); (case side1 => exact KCz (Kd.C_below HR0_0.out HB.out)); (case side2 => exact HC0_0.out); rintro e w8 ⟨rfl, hb⟩; have n0_ := BBz BK231 hb; have n1_ := Aside0.mk (below_step (HBb GE231) hb); clear BK231; clear HB; have BK231 := n0_; have HB := n1_; clear n0_ n1_; (try clear hb); (try clear hb2); (try clear hk); (try clear hi); have hcz9_0 := C1z BK231; have hcz9_1 := C2z BK231; have hfz9_0 := blk_frozen BK231.out 0; have hfz9_1 := blk_frozen BK231.out 1) | (go_at_call 127; (with_reducible refine (spec_l03Attrs.calls k _ _ l0_1 t233 _ ?side1 ?side2 A5.out).mono ?_); (case side1 => exact KCz (Kd.C_below HR0_1.out HB.out)); (case side2 => exact HC0_1.out); rintro e w10 ⟨rfl, hb⟩; have n0_ := BBz BK231 hb; have n1_ := Aside0.mk (below_step (HBb GE231) hb); clear BK231; clear HB; have BK231 := n0_; have HB := n1_; clear n0_ n1_; (try clear hb); (try clear hb2); (try clear hk); (try clear hi)))
  go_ret
  exact ⟨EZa, HBb GE231⟩
 replace c4 := Bool.eq_false_iff.mpr c4
 subst c4
 have H1 : (some false) = some r := by rw [if_neg (show ¬ (false = true) by decide)] at H; exact H
 clear H
 have H := H1
 clear H1
 obtain rfl := Option.some.inj H
 go_enter Tryd.func96, Tryd.ntmps96
 go_wp2_with (first | ((with_reducible refine gate_dst (N := 1) rfl ?_); refine box_event ?hg (N := 1) ?hd (cs := #[.slice A0_0 l0_0.length c0_0, .slice A0_1 l0_1.length c0_1]) (t := 81) ?hr ?_; (case hd => rfl); (case hg => rfl); (case hr => first | (go_simp; done) | (go_simp; rfl)); intro gb231 hg w11 hbox hb; have n0_ := Aside0.mk (below_step HBa hb); have n1_ := Aside0.mk (hbox); have n2_ := BSz w hg HBa; have n3_ := BSz w hg HBa; clear HB; have HB := n0_; have BK231 := n1_; have GW231 := n2_; have GE231 := n3_; clear n0_ n1_ n2_ n3_; clear hb hbox hg; have hcz12_0 := C1z BK231; have hcz12_1 := C2z BK231; have hfz12_0 := blk_frozen BK231.out 0; have hfz12_1 := blk_frozen BK231.out 1) | (go_at_call 94; (with_reducible refine (spec_DnRight.calls k _ _ l0_0 false _ ?side1 ?side2 A3.out).mono ?_); (case side1 => exact KCz (Kd.C_below HR0_0.out HB.out)); (case side2 => exact HC0_0.out); rintro e w13 ⟨rfl, hb⟩; have n0_ := BBz BK231 hb; have n1_ := Aside0.mk (below_step (HBb GE231) hb); clear BK231; clear HB; have BK231 := n0_; have HB := n1_; clear n0_ n1_; (try clear hb); (try clear hb2); (try clear hk); (try clear hi)))
 go_ret
 exact ⟨EZa, HBb GE231⟩
def spec_l08Right.j0 : Nat → Int → Bool → List (S126) → List (S111) → Option (Bool)
 | 0, _, _, _, _ => none
 | k + 1, x0, x19, x235000, x235001 => if x19 = true then (some false) else (if x0 = 2 then ((spec_l08None.f x235000 x235001).bind fun t237 => (some t237)) else ((spec_EntryRight.f k x235000 x235001).bind fun t238 => (some t238)))
def spec_l08Right.f (k : Nat) (a0 : Int) (l1 : List (S126)) (l2_0 : List (S126)) (l2_1 : List (S111)) : Option (Bool) := (spec_l02Is.f a0 1 4).bind fun t235 => (if t235 = true then (if (l1.length : Int) = 0 then (spec_l08Right.j0 k a0 true l2_0 l2_1) else ((spec_DnRight.f k l1).bind fun t236 => (spec_l08Right.j0 k a0 (!t236) l2_0 l2_1))) else (spec_l08Right.j0 k a0 true l2_0 l2_1))
theorem spec_l08Right.mono_l : ∀ k, (∀ y0 y1 y2 y3, LeO (spec_l08Right.j0 k y0 y1 y2 y3) (spec_l08Right.j0 (k + 1) y0 y1 y2 y3))
 | 0 => fun _ _ _ _ r h => by simp [spec_l08Right.j0] at h
 | k + 1 => by
  have ih0 := spec_l08Right.mono_l k
  ·intro y0 y1 y2 y3
   unfold spec_l08Right.j0
   repeat' first
   | (with_reducible exact ih0 _ _ _ _)
   | (with_reducible exact spec_DnRight.mono _ _)
   | (with_reducible exact spec_EntryRight.mono _ _ _)
   | (with_reducible exact LeO.refl _)
   | (with_reducible exact LeO.none _)
   | (with_reducible refine LeO.ite ?_ ?_)
   | (with_reducible refine LeO.bind ?_ (fun _ => ?_))
   | exact ih0 _ _ _ _
   | exact spec_DnRight.mono _ _
   | exact spec_EntryRight.mono _ _ _
   | exact LeO.none _
   | refine LeO.ite ?_ ?_
   | refine LeO.bind ?_ (fun _ => ?_)
theorem spec_l08Right.mono : ∀ a0 a1 a2 a3 k, LeO (spec_l08Right.f k a0 a1 a2 a3) (spec_l08Right.f (k + 1) a0 a1 a2 a3) := by
 intro a0 a1 a2 a3 k
 have ih0 := spec_l08Right.mono_l k
 unfold spec_l08Right.f
 repeat' first
   | (with_reducible exact ih0 _ _ _ _)
   | (with_reducible exact spec_DnRight.mono _ _)
   | (with_reducible exact spec_EntryRight.mono _ _ _)
   | (with_reducible exact LeO.refl _)
   | (with_reducible exact LeO.none _)
   | (with_reducible refine LeO.ite ?_ ?_)
   | (with_reducible refine LeO.bind ?_ (fun _ => ?_))
   | exact ih0 _ _ _ _
   | exact spec_DnRight.mono _ _
   | exact spec_EntryRight.mono _ _ _
   | exact LeO.none _
   | refine LeO.ite ?_ ?_
   | refine LeO.bind ?_ (fun _ => ?_)
set_option maxHeartbeats 8000000 in
set_option maxRecDepth 100000 in
theorem spec_l08Right.calls (k : Nat) (a0 : Int) (A1 : Option Addr) (c1 : Nat) (l1 : List (S126)) (A2_0 : Option Addr) (c2_0 : Nat) (l2_0 : List (S126)) (A2_1 : Option Addr) (c2_1 : Nat) (l2_1 : List (S111)) (r : Bool) (w : World) (hr1 : Kd.C k126 w A1 l1.length l1) (hc1 : l1.length ≤ c1) (hr2_0 : Kd.C k126 w A2_0 l2_0.length l2_0) (hc2_0 : l2_0.length ≤ c2_0) (hr2_1 : Kd.C k111 w A2_1 l2_1.length l2_1) (hc2_1 : l2_1.length ≤ c2_1) (h : spec_l08Right.f k a0 l1 l2_0 l2_1 = some r) :
  Calls Tryd.prog 55 #[.int .i64 a0, .slice A1 l1.length c1, .agg #[.slice A2_0 l2_0.length c2_0, .slice A2_1 l2_1.length c2_1]] w fun e w' => e = .returned (.bool r) ∧ Below w.heap.size w w' := by
 have hu81 := Tryd.underlying81
 have HR1 := Aside0.mk hr1
 have HC1 := Aside0.mk hc1
 clear hr1 hc1
 have HR2_0 := Aside0.mk hr2_0
 have HC2_0 := Aside0.mk hc2_0
 clear hr2_0 hc2_0
 have HR2_1 := Aside0.mk hr2_1
 have HC2_1 := Aside0.mk hc2_1
 clear hr2_1 hc2_1
 have HB := Aside0.mk (Below.refl w.heap.size w)
 have H : ((spec_l02Is.f a0 1 4).bind fun t235 => (if t235 = true then (if (l1.length : Int) = 0 then (spec_l08Right.j0 k a0 true l2_0 l2_1) else ((spec_DnRight.f k l1).bind fun t236 => (spec_l08Right.j0 k a0 (!t236) l2_0 l2_1))) else (spec_l08Right.j0 k a0 true l2_0 l2_1))) = some r := h
 clear h
 have HC4 := Aside0.mk H
 clear H
 go_enter Tryd.func55, Tryd.ntmps55
 go_upto_region 1 with (first | ((with_reducible refine gate_dst (N := 5) rfl ?_); (try (refine gate_guard (by rfl) ?_; dsimp only)); refine box_event ?hg (N := 5) ?hd (cs := #[.slice A2_0 l2_0.length c2_0, .slice A2_1 l2_1.length c2_1]) (t := 81) ?hr ?_; (case hd => rfl); (case hg => rfl); (case hr => first | (go_simp; done) | (go_simp; rfl)); intro gb234 hg w5 hbox hb; have n0_ := Aside0.mk (below_step HBa hb); have n1_ := Aside0.mk (hbox); have n2_ := BSz w hg HBa; have n3_ := BSz w hg HBa; clear HB; have HB := n0_; have BK234 := n1_; have GW234 := n2_; have GE234 := n3_; clear n0_ n1_ n2_ n3_; clear hb hbox hg))
 (try simp only [Act.put, List.setIfInBounds_toArray, List.set_cons_zero, List.set_cons_succ])
 go_cut [19] (fun v19 wc => ∃ (kq : Nat) (x19_3 : Bool), v19 = .bool x19_3 ∧ Aside0 (spec_l08Right.j0 kq a0 x19_3 l2_0 l2_1 = some r) ∧ Aside0 (kq ≤ k) ∧ Aside0 (wc.heap[gb234]? = some (.cells #[(.slice A2_0 l2_0.length c2_0), (.slice A2_1 l2_1.length c2_1)] 81 (0, 0))) ∧ Aside0 (Below w.heap.size w wc))
 case first =>
  have H := HC4.out
  clear HC4
  replace H := Option.bind_eq_some_iff.mp H
  obtain ⟨t235, A60, H⟩ := H
  replace H : (if t235 = true then (if (l1.length : Int) = 0 then (spec_l08Right.j0 k a0 true l2_0 l2_1) else ((spec_DnRight.f k l1).bind fun t236 => (spec_l08Right.j0 k a0 (!t236) l2_0 l2_1))) else (spec_l08Right.j0 k a0 true l2_0 l2_1)) = some r := H
  have A6 := Aside0.mk A60
  clear A60
  by_cases c7 : t235 = true
  rotate_left
  ·replace c7 := Bool.eq_false_iff.mpr c7
   subst c7
   have H1 : (spec_l08Right.j0 k a0 true l2_0 l2_1) = some r := by rw [if_neg (show ¬ (false = true) by decide)] at H; exact H
   clear H
   have H := H1
   clear H1
   have H' := Aside0.mk H
   clear H
   go_wp2_with (first | ((with_reducible refine gate_callee (f := 42) rfl ?_); refine goesL_ (some 8) rfl rfl Tryd.func42 (by kernel_rfl) rfl #[.int .i64 a0, .int .i64 1, .int .i64 4] rfl MPz ?_; (with_reducible refine (spec_l02Is.calls a0 1 4 false _ A6.out).mono ?_); rintro e w' ⟨rfl, ⟨nd, rfl⟩⟩; refine ⟨_, rfl, ?_⟩))
   go_meet
   case rel => exact ⟨_, (true), EZc, H', ⟨by first | omega | exact Nat.le_refl _⟩, ⟨by (with_reducible repeat (first | refine blk_drewN ?_ _ | refine blk_drew ?_ | refine blk_alloc ?_ _)); exact BK234.out⟩, ⟨by repeat (first | (with_reducible first | exact HB.out | apply below_alloc | apply pw_below_drewN | apply below_drew1 | refine below_set ?_ GE234.out) | exact HB.out)⟩⟩
  subst c7
  have H1 : (if (l1.length : Int) = 0 then (spec_l08Right.j0 k a0 true l2_0 l2_1) else ((spec_DnRight.f k l1).bind fun t236 => (spec_l08Right.j0 k a0 (!t236) l2_0 l2_1))) = some r := by rw [if_pos rfl] at H; exact H
  clear H
  have H := H1
  clear H1
  by_cases c8 : (l1.length : Int) = 0
  ·rw [if_pos c8] at H
   have c8b0 : ((l1.length : Int) == 0) = true := beq_iff_eq.mpr c8
   have c8b1 : ((l1.length : Int) != 0) = false := bne_eq_false_iff_eq.mpr c8
   clear c8
   (first | rw [c8b0] | rw [c8v0] | (simp only [i64_w, i32_w]; rw [c8b0]) | (simp only [i64_w, i32_w]; rw [c8v0]) | skip)
   have H' := Aside0.mk H
   clear H
   go_wp2_with (first | ((with_reducible refine gate_callee (f := 42) rfl ?_); refine goesL_ (some 8) rfl rfl Tryd.func42 (by kernel_rfl) rfl #[.int .i64 a0, .int .i64 1, .int .i64 4] rfl MPz ?_; (with_reducible refine (spec_l02Is.calls a0 1 4 true _ A6.out).mono ?_); rintro e w' ⟨rfl, ⟨nd, rfl⟩⟩; refine ⟨_, rfl, ?_⟩))
   go_meet
   case rel => exact ⟨_, (true), EZc, H', ⟨by first | omega | exact Nat.le_refl _⟩, ⟨by (with_reducible repeat (first | refine blk_drewN ?_ _ | refine blk_drew ?_ | refine blk_alloc ?_ _)); exact BK234.out⟩, ⟨by repeat (first | (with_reducible first | exact HB.out | apply below_alloc | apply pw_below_drewN | apply below_drew1 | refine below_set ?_ GE234.out) | exact HB.out)⟩⟩
  rw [if_neg c8] at H
  have c8b0 : ((l1.length : Int) == 0) = false := beq_eq_false_iff_ne.mpr c8
  have c8b1 : ((l1.length : Int) != 0) = true := bne_iff_ne.mpr c8
  have c8b2 : ¬ (l1 = []) := fun h_ => c8 (by rw [h_]; rfl)
  (first | rw [c8b0] | rw [c8v0] | (simp only [i64_w, i32_w]; rw [c8b0]) | (simp only [i64_w, i32_w]; rw [c8v0]) | skip)
  replace H := Option.bind_eq_some_iff.mp H
  obtain ⟨t236, A90, H⟩ := H
  replace H : (spec_l08Right.j0 k a0 (!t236) l2_0 l2_1) = some r := H
  have A9 := Aside0.mk A90
  clear A90
  have H' := Aside0.mk H
  clear H
  go_wp2_with (first | ((with_reducible refine gate_callee (f := 42) rfl ?_); refine goesL_ (some 8) rfl rfl Tryd.func42 (by kernel_rfl) rfl #[.int .i64 a0, .int .i64 1, .int .i64 4] rfl MPz ?_; (with_reducible refine (spec_l02Is.calls a0 1 4 true _ A6.out).mono ?_); rintro e w' ⟨rfl, ⟨nd, rfl⟩⟩; refine ⟨_, rfl, ?_⟩) | (go_at_call 94; (with_reducible refine (spec_DnRight.calls k _ _ l1 t236 _ ?side1 ?side2 A9.out).mono ?_); (case side1 => repeat (first | exact (Kd.C_below HR1.out (HBb GE234)) | (with_reducible refine Kd.C_alloc ?_ _) | (with_reducible refine Kd.C_drewN ?_ _) | (with_reducible refine Kd.C_drew ?_))); (case side2 => exact HC1.out); rintro e w10 ⟨rfl, hb⟩; have n0_ := BBz BK234 hb; have n1_ := Aside0.mk (below_step (HBb GE234) hb); clear BK234; clear HB; have BK234 := n0_; have HB := n1_; clear n0_ n1_; (try clear hb); (try clear hb2); (try clear hk); (try clear hi)))
  go_meet
  case rel => exact ⟨_, (!t236), EZc, H', ⟨by first | omega | exact Nat.le_refl _⟩, ⟨by (with_reducible repeat (first | refine blk_drewN ?_ _ | refine blk_drew ?_ | refine blk_alloc ?_ _)); exact BK234.out⟩, ⟨by repeat (first | (with_reducible first | exact HB.out | apply below_alloc | apply pw_below_drewN | apply below_drew1 | refine below_set ?_ GE234.out) | exact HB.out)⟩⟩
 case rest =>
  clear HC4
  try clear c1
  try clear c2
  try clear p2
  try clear c4
  try clear c5
  try clear c7
  try clear c8
  try clear c8b0
  try clear c8b1
  try clear c8b2
  obtain ⟨kq, x19_3, rfl, HA, HJ3, BK234, HB⟩ := hcut
  cases kq with
  | zero => exact absurd HA.out (by simp [spec_l08Right.j0])
  | succ kj3 =>
   have H := HA.out
   clear HA
   simp only [spec_l08Right.j0] at H
   by_cases c11 : x19_3 = true
   ·subst c11
    have H1 : (some false) = some r := by rw [if_pos rfl] at H; exact H
    clear H
    have H := H1
    clear H1
    obtain rfl := Option.some.inj H
    go_wp2
    go_ret
    exact ⟨EZa, HBb GE234⟩
   replace c11 := Bool.eq_false_iff.mpr c11
   subst c11
   have H1 : (if a0 = 2 then ((spec_l08None.f l2_0 l2_1).bind fun t237 => (some t237)) else ((spec_EntryRight.f kj3 l2_0 l2_1).bind fun t238 => (some t238))) = some r := by rw [if_neg (show ¬ (false = true) by decide)] at H; exact H
   clear H
   have H := H1
   clear H1
   by_cases c12 : a0 = 2
   ·rw [if_pos c12] at H
    have c12b0 : (a0 == 2) = true := beq_iff_eq.mpr c12
    have c12b1 : (a0 != 2) = false := bne_eq_false_iff_eq.mpr c12
    clear c12
    replace H := Option.bind_eq_some_iff.mp H
    obtain ⟨t237, A130, H⟩ := H
    replace H : (some t237) = some r := H
    have A13 := Aside0.mk A130
    clear A130
    obtain rfl := Option.some.inj H
    have hcz14_0 := C1z BK234
    have hcz14_1 := C2z BK234
    have hfz14_0 := blk_frozen BK234.out 0
    have hfz14_1 := blk_frozen BK234.out 1
    go_wp2_with (first | ((with_reducible refine gate_callee (f := 95) rfl ?_); refine goesL_ (some 23) rfl rfl Tryd.func95 (by kernel_rfl) rfl #[.agg #[.slice A2_0 l2_0.length c2_0, .slice A2_1 l2_1.length c2_1]] rfl MPz ?_; (with_reducible refine (spec_l08None.calls _ _ l2_0 _ _ l2_1 t237 _ ?side1 ?side2 ?side3 ?side4 A13.out).mono ?_); (case side1 => exact KCz (Kd.C_below HR2_0.out HB.out)); (case side2 => exact HC2_0.out); (case side3 => exact KCz (Kd.C_below HR2_1.out HB.out)); (case side4 => exact HC2_1.out); rintro e w15 ⟨rfl, hb⟩; refine ⟨_, rfl, ?_⟩; have n0_ := BBz BK234 hb; have n1_ := Aside0.mk (below_step (HBb GE234) hb); clear BK234; clear HB; have BK234 := n0_; have HB := n1_; clear n0_ n1_; (try clear hb); (try clear hb2); (try clear hk); (try clear hi)))
    go_ret
    exact ⟨EZa, HBb GE234⟩
   rw [if_neg c12] at H
   have c12b0 : (a0 == 2) = false := beq_eq_false_iff_ne.mpr c12
   have c12b1 : (a0 != 2) = true := bne_iff_ne.mpr c12
   replace H := Option.bind_eq_some_iff.mp H
   obtain ⟨t238, A160, H⟩ := H
   replace H : (some t238) = some r := H
   have A16 := Aside0.mk A160
   clear A160
   obtain rfl := Option.some.inj H
   have hcz17_0 := C1z BK234
   have hcz17_1 := C2z BK234
   have hfz17_0 := blk_frozen BK234.out 0
   have hfz17_1 := blk_frozen BK234.out 1
   go_wp2_with (first | ((with_reducible refine gate_callee (f := 96) rfl ?_); refine goesL_ (some 25) rfl rfl Tryd.func96 (by kernel_rfl) rfl #[.agg #[.slice A2_0 l2_0.length c2_0, .slice A2_1 l2_1.length c2_1]] rfl MPz ?_; (with_reducible refine (spec_EntryRight.calls kj3 _ _ l2_0 _ _ l2_1 t238 _ ?side1 ?side2 ?side3 ?side4 A16.out).mono ?_); (case side1 => exact KCz (Kd.C_below HR2_0.out HB.out)); (case side2 => exact HC2_0.out); (case side3 => exact KCz (Kd.C_below HR2_1.out HB.out)); (case side4 => exact HC2_1.out); rintro e w18 ⟨rfl, hb⟩; refine ⟨_, rfl, ?_⟩; have n0_ := BBz BK234 hb; have n1_ := Aside0.mk (below_step (HBb GE234) hb); clear BK234; clear HB; have BK234 := n0_; have HB := n1_; clear n0_ n1_; (try clear hb); (try clear hb2); (try clear hk); (try clear hi)))
   go_ret
   exact ⟨EZa, HBb GE234⟩
mutual
def spec_ChangesRight.j0 : Nat → Bool → Int → List (S83) → Option (Bool)
 | 0, _, _, _ => none
 | k + 1, x16, x240000, x240001 => if x16 = true then (some false) else (spec_ChangesRight.l0 k 0 x240000 x240001)
def spec_ChangesRight.l0 : Nat → Int → Int → List (S83) → Option (Bool)
 | 0, _, _, _ => none
 | k + 1, x3, x240000, x240001 => if x3 < (x240001.length : Int) then (if 0 ≤ x3 then ((spec_l02Read.f k ((rd_T83 x240001 x3).f2)).bind fun bt243 => (if bt243.2 = true then ((spec_l08Right.f k ((rd_T83 x240001 x3).f1) bt243.1 ((rd_T83 x240001 x3).f3.f0) ((rd_T83 x240001 x3).f3.f1)).bind fun t247 => (if t247 = true then (if ((rd_T83 x240001 x3).f0) < 1 then (some false) else (if ((rd_T83 x240001 x3).f0) = (wrap64 (x240000 - (wrap64 ((x240001.length : Int) - x3)))) then (spec_ChangesRight.l0 k (wrap64 (x3 + 1)) x240000 x240001) else (some false))) else (some false))) else (some false))) else (none)) else (some true)
end
def spec_ChangesRight.f (k : Nat) (a0_0 : Int) (l0_1 : List (S83)) : Option (Bool) := (spec_l02Is.f a0_0 1 1000000).bind fun t240 => (if t240 = true then (spec_ChangesRight.j0 k (decide ((l0_1.length : Int) > 40)) a0_0 l0_1) else (spec_ChangesRight.j0 k true a0_0 l0_1))
theorem spec_ChangesRight.mono_l : ∀ k, (∀ y0 y1 y2, LeO (spec_ChangesRight.j0 k y0 y1 y2) (spec_ChangesRight.j0 (k + 1) y0 y1 y2)) ∧ (∀ y0 y1 y2, LeO (spec_ChangesRight.l0 k y0 y1 y2) (spec_ChangesRight.l0 (k + 1) y0 y1 y2))
 | 0 => ⟨fun _ _ _ r h => by simp [spec_ChangesRight.j0] at h, fun _ _ _ r h => by simp [spec_ChangesRight.l0] at h⟩
 | k + 1 => by
  obtain ⟨ih0, ih1⟩ := spec_ChangesRight.mono_l k
  refine ⟨?_, ?_⟩
  ·intro y0 y1 y2
   unfold spec_ChangesRight.j0
   repeat' first
   | (with_reducible exact ih0 _ _ _)
   | (with_reducible exact ih1 _ _ _)
   | (with_reducible exact spec_l02Read.mono _ _)
   | (with_reducible exact spec_l08Right.mono _ _ _ _ _)
   | (with_reducible exact LeO.refl _)
   | (with_reducible exact LeO.none _)
   | (with_reducible refine LeO.ite ?_ ?_)
   | (with_reducible refine LeO.bind ?_ (fun _ => ?_))
   | exact ih0 _ _ _
   | exact ih1 _ _ _
   | exact spec_l02Read.mono _ _
   | exact spec_l08Right.mono _ _ _ _ _
   | exact LeO.none _
   | refine LeO.ite ?_ ?_
   | refine LeO.bind ?_ (fun _ => ?_)
  ·intro y0 y1 y2
   unfold spec_ChangesRight.l0
   repeat' first
   | (with_reducible exact ih0 _ _ _)
   | (with_reducible exact ih1 _ _ _)
   | (with_reducible exact spec_l02Read.mono _ _)
   | (with_reducible exact spec_l08Right.mono _ _ _ _ _)
   | (with_reducible exact LeO.refl _)
   | (with_reducible exact LeO.none _)
   | (with_reducible refine LeO.ite ?_ ?_)
   | (with_reducible refine LeO.bind ?_ (fun _ => ?_))
   | exact ih0 _ _ _
   | exact ih1 _ _ _
   | exact spec_l02Read.mono _ _
   | exact spec_l08Right.mono _ _ _ _ _
   | exact LeO.none _
   | refine LeO.ite ?_ ?_
   | refine LeO.bind ?_ (fun _ => ?_)
theorem spec_ChangesRight.mono : ∀ a0 a1 k, LeO (spec_ChangesRight.f k a0 a1) (spec_ChangesRight.f (k + 1) a0 a1) := by
 intro a0 a1 k
 obtain ⟨ih0, ih1⟩ := spec_ChangesRight.mono_l k
 unfold spec_ChangesRight.f
 repeat' first
   | (with_reducible exact ih0 _ _ _)
   | (with_reducible exact ih1 _ _ _)
   | (with_reducible exact spec_l02Read.mono _ _)
   | (with_reducible exact spec_l08Right.mono _ _ _ _ _)
   | (with_reducible exact LeO.refl _)
   | (with_reducible exact LeO.none _)
   | (with_reducible refine LeO.ite ?_ ?_)
   | (with_reducible refine LeO.bind ?_ (fun _ => ?_))
   | exact ih0 _ _ _
   | exact ih1 _ _ _
   | exact spec_l02Read.mono _ _
   | exact spec_l08Right.mono _ _ _ _ _
   | exact LeO.none _
   | refine LeO.ite ?_ ?_
   | refine LeO.bind ?_ (fun _ => ?_)
set_option maxHeartbeats 8000000 in
set_option maxRecDepth 100000 in
theorem spec_ChangesRight.calls (k : Nat) (a0_0 : Int) (A0_1 : Option Addr) (c0_1 : Nat) (l0_1 : List (S83)) (r : Bool) (w : World) (hr0_1 : Kd.C k83 w A0_1 l0_1.length l0_1) (hc0_1 : l0_1.length ≤ c0_1) (h : spec_ChangesRight.f k a0_0 l0_1 = some r) :
  Calls Tryd.prog 20 #[.agg #[.int .i64 a0_0, .slice A0_1 l0_1.length c0_1]] w fun e w' => e = .returned (.bool r) ∧ Below w.heap.size w w' := by
 have hu45 := Tryd.underlying45
 have hu83 := Tryd.underlying83
 have hu81 := Tryd.underlying81
 have HR0_1 := Aside0.mk hr0_1
 have HC0_1 := Aside0.mk hc0_1
 clear hr0_1 hc0_1
 have HB := Aside0.mk (Below.refl w.heap.size w)
 have H : ((spec_l02Is.f a0_0 1 1000000).bind fun t240 => (if t240 = true then (spec_ChangesRight.j0 k (decide ((l0_1.length : Int) > 40)) a0_0 l0_1) else (spec_ChangesRight.j0 k true a0_0 l0_1))) = some r := h
 clear h
 have HC2 := Aside0.mk H
 clear H
 go_enter Tryd.func20, Tryd.ntmps20
 go_upto_region 1 with (first | ((with_reducible refine gate_dst (N := 1) rfl ?_); (try (refine gate_guard (by rfl) ?_; dsimp only)); refine box_event ?hg (N := 1) ?hd (cs := #[.int .i64 a0_0, .slice A0_1 l0_1.length c0_1]) (t := 45) ?hr ?_; (case hd => rfl); (case hg => rfl); (case hr => first | (go_simp; done) | (go_simp; rfl)); intro gb239 hg w3 hbox hb; have n0_ := Aside0.mk (below_step HBa hb); have n1_ := Aside0.mk (hbox); have n2_ := BSz w hg HBa; have n3_ := BSz w hg HBa; clear HB; have HB := n0_; have BK239 := n1_; have GW239 := n2_; have GE239 := n3_; clear n0_ n1_ n2_ n3_; clear hb hbox hg))
 (try simp only [Act.put, List.setIfInBounds_toArray, List.set_cons_zero, List.set_cons_succ])
 go_cut [16] (fun v16 wc => ∃ (kq : Nat) (x16_1 : Bool), v16 = .bool x16_1 ∧ Aside0 (spec_ChangesRight.j0 kq x16_1 a0_0 l0_1 = some r) ∧ Aside0 (kq ≤ k) ∧ Aside0 (wc.heap[gb239]? = some (.cells #[.int .i64 a0_0, (.slice A0_1 l0_1.length c0_1)] 45 (0, 0))) ∧ Aside0 (Below w.heap.size w wc))
 case first =>
  have H := HC2.out
  clear HC2
  replace H := Option.bind_eq_some_iff.mp H
  obtain ⟨t240, A40, H⟩ := H
  replace H : (if t240 = true then (spec_ChangesRight.j0 k (decide ((l0_1.length : Int) > 40)) a0_0 l0_1) else (spec_ChangesRight.j0 k true a0_0 l0_1)) = some r := H
  have A4 := Aside0.mk A40
  clear A40
  by_cases c5 : t240 = true
  ·subst c5
   have H1 : (spec_ChangesRight.j0 k (decide ((l0_1.length : Int) > 40)) a0_0 l0_1) = some r := by rw [if_pos rfl] at H; exact H
   clear H
   have H := H1
   clear H1
   have H' := Aside0.mk H
   clear H
   have hcz6_0 := C1z BK239
   have hcz6_1 := C2z BK239
   have hfz6_0 := blk_frozen BK239.out 0
   have hfz6_1 := blk_frozen BK239.out 1
   go_wp2_with (first | ((with_reducible refine gate_callee (f := 42) rfl ?_); refine goesL_ (some 9) rfl rfl Tryd.func42 (by kernel_rfl) rfl #[.int .i64 a0_0, .int .i64 1, .int .i64 1000000] rfl MPz ?_; (with_reducible refine (spec_l02Is.calls a0_0 1 1000000 true _ A4.out).mono ?_); rintro e w' ⟨rfl, ⟨nd, rfl⟩⟩; refine ⟨_, rfl, ?_⟩))
   go_meet
   case rel => exact ⟨_, (decide ((l0_1.length : Int) > 40)), EZc, H', ⟨by first | omega | exact Nat.le_refl _⟩, ⟨by (with_reducible repeat (first | refine blk_drewN ?_ _ | refine blk_drew ?_ | refine blk_alloc ?_ _)); exact BK239.out⟩, ⟨by repeat (first | (with_reducible first | exact HB.out | apply below_alloc | apply pw_below_drewN | apply below_drew1 | refine below_set ?_ GE239.out) | exact HB.out)⟩⟩
  replace c5 := Bool.eq_false_iff.mpr c5
  subst c5
  have H1 : (spec_ChangesRight.j0 k true a0_0 l0_1) = some r := by rw [if_neg (show ¬ (false = true) by decide)] at H; exact H
  clear H
  have H := H1
  clear H1
  have H' := Aside0.mk H
  clear H
  have hcz7_0 := C1z BK239
  have hcz7_1 := C2z BK239
  have hfz7_0 := blk_frozen BK239.out 0
  have hfz7_1 := blk_frozen BK239.out 1
  go_wp2_with (first | ((with_reducible refine gate_callee (f := 42) rfl ?_); refine goesL_ (some 9) rfl rfl Tryd.func42 (by kernel_rfl) rfl #[.int .i64 a0_0, .int .i64 1, .int .i64 1000000] rfl MPz ?_; (with_reducible refine (spec_l02Is.calls a0_0 1 1000000 false _ A4.out).mono ?_); rintro e w' ⟨rfl, ⟨nd, rfl⟩⟩; refine ⟨_, rfl, ?_⟩))
  go_meet
  case rel => exact ⟨_, (true), EZc, H', ⟨by first | omega | exact Nat.le_refl _⟩, ⟨by (with_reducible repeat (first | refine blk_drewN ?_ _ | refine blk_drew ?_ | refine blk_alloc ?_ _)); exact BK239.out⟩, ⟨by repeat (first | (with_reducible first | exact HB.out | apply below_alloc | apply pw_below_drewN | apply below_drew1 | refine below_set ?_ GE239.out) | exact HB.out)⟩⟩
 case rest =>
  clear HC2
  try clear c2
  try clear p2
  try clear c4
  try clear c5
  try clear hcz6_0
  try clear hcz6_1
  try clear hcz7_0
  try clear hcz7_1
  try clear hfz6_0
  try clear hfz6_1
  try clear hfz7_0
  try clear hfz7_1
  obtain ⟨kq, x16_1, rfl, HA, HJ1, BK239, HB⟩ := hcut
  cases kq with
  | zero => exact absurd HA.out (by simp [spec_ChangesRight.j0])
  | succ kj1 =>
   have H := HA.out
   clear HA
   simp only [spec_ChangesRight.j0] at H
   by_cases c8 : x16_1 = true
   ·subst c8
    have H1 : (some false) = some r := by rw [if_pos rfl] at H; exact H
    clear H
    have H := H1
    clear H1
    obtain rfl := Option.some.inj H
    go_wp2
    go_ret
    exact ⟨EZa, HBb GE239⟩
   replace c8 := Bool.eq_false_iff.mpr c8
   subst c8
   have H1 : (spec_ChangesRight.l0 kj1 0 a0_0 l0_1) = some r := by rw [if_neg (show ¬ (false = true) by decide)] at H; exact H
   clear H
   have H := H1
   clear H1
   have H' := Aside0.mk H
   clear H
   go_wp2
   go_loopg [3] kj1 (fun kq v3 w' => ∃ (x3_2 : Int), v3 = .int .i64 x3_2 ∧ Aside0 (spec_ChangesRight.l0 kq x3_2 a0_0 l0_1 = some r) ∧ Aside0 (kq ≤ kj1) ∧ Aside0 (w'.heap[gb239]? = some (.cells #[.int .i64 a0_0, (.slice A0_1 l0_1.length c0_1)] 45 (0, 0))) ∧ Aside0 (Below w.heap.size w w'))
   case atStart => exact ⟨(0), EZc, H', ⟨Nat.le_refl _⟩, ⟨by (with_reducible repeat (first | refine blk_drewN ?_ _ | refine blk_drew ?_ | refine blk_alloc ?_ _)); exact BK239.out⟩, ⟨by repeat (first | (with_reducible first | exact HB.out | apply below_alloc | apply pw_below_drewN | apply below_drew1 | refine below_set ?_ GE239.out) | exact HB.out)⟩⟩
   case round =>
    clear H'
    try clear c2
    try clear p2
    try clear c4
    try clear c5
    try clear c8
    try clear hcz6_0
    try clear hcz6_1
    try clear hcz7_0
    try clear hcz7_1
    try clear hfz6_0
    try clear hfz6_1
    try clear hfz7_0
    try clear hfz7_1
    try clear p2
    obtain ⟨x3_2, rfl, HA, HK2, BK239, HB⟩ := hrel
    cases gk with
    | zero => exact absurd HA.out (by simp [spec_ChangesRight.l0])
    | succ k2 =>
     have H := HA.out
     clear HA
     simp only [spec_ChangesRight.l0] at H
     by_cases c9 : x3_2 < (l0_1.length : Int)
     rotate_left
     ·rw [if_neg c9] at H
      have c9b0 : decide (x3_2 < (l0_1.length : Int)) = false := decide_eq_false c9
      clear c9
      obtain rfl := Option.some.inj H
      have hcz59_0 := C1z BK239
      have hcz59_1 := C2z BK239
      have hfz59_0 := blk_frozen BK239.out 0
      have hfz59_1 := blk_frozen BK239.out 1
      go_wp2
      go_ret
      exact ⟨EZa, HBb GE239⟩
     rw [if_pos c9] at H
     have c9b0 : decide (x3_2 < (l0_1.length : Int)) = true := decide_eq_true c9
     clear c9
     by_cases c10 : 0 ≤ x3_2
     rotate_left
     ·rw [if_neg c10] at H
      exact absurd H (by simp)
     rw [if_pos c10] at H
     have c10b0 : decide (0 ≤ x3_2) = true := decide_eq_true c10
     clear c10
     replace H := Option.bind_eq_some_iff.mp H
     obtain ⟨⟨t243, t244⟩, A110, H⟩ := H
     replace H : (if t244 = true then ((spec_l08Right.f k2 ((rd_T83 l0_1 x3_2).f1) t243 ((rd_T83 l0_1 x3_2).f3.f0) ((rd_T83 l0_1 x3_2).f3.f1)).bind fun t247 => (if t247 = true then (if ((rd_T83 l0_1 x3_2).f0) < 1 then (some false) else (if ((rd_T83 l0_1 x3_2).f0) = (wrap64 (a0_0 - (wrap64 ((l0_1.length : Int) - x3_2)))) then (spec_ChangesRight.l0 k2 (wrap64 (x3_2 + 1)) a0_0 l0_1) else (some false))) else (some false))) else (some false)) = some r := H
     have A11 := Aside0.mk A110
     clear A110
     by_cases c12 : t244 = true
     rotate_left
     ·replace c12 := Bool.eq_false_iff.mpr c12
      subst c12
      have H1 : (some false) = some r := by rw [if_neg (show ¬ (false = true) by decide)] at H; exact H
      clear H
      have H := H1
      clear H1
      obtain rfl := Option.some.inj H
      have hcz54_0 := C1z BK239
      have hcz54_1 := C2z BK239
      have hfz54_0 := blk_frozen BK239.out 0
      have hfz54_1 := blk_frozen BK239.out 1
      have p241 : 0 ≤ (x3_2 : Int) := ODz
      have q241 : x3_2 < (l0_1.length : Int) := ODz
      obtain ⟨ad241, A241_3, c241_3, A241_4, c241_4, e241, hx241_0, hx241_1, hx241_2, hx241_3, hx241_4, hl241_3, hi241_3, hl241_4, hi241_4⟩ := at_T83 HR0_1.out x3_2 p241 q241
      cases e241
      replace hx241_0 := HXz HB hx241_0
      replace hx241_1 := HXz HB hx241_1
      replace hx241_2 := HXz HB hx241_2
      replace hx241_3 := HXz HB hx241_3
      replace hx241_4 := HXz HB hx241_4
      have HR241_3 := Aside0.mk hi241_3
      have HC241_3 := Aside0.mk hl241_3
      clear hi241_3 hl241_3
      have HR241_4 := Aside0.mk hi241_4
      have HC241_4 := Aside0.mk hl241_4
      clear hi241_4 hl241_4
      replace p241 := eq_true p241
      replace q241 := eq_true q241
      go_wp2_with (first | ((with_reducible refine gate_dst (N := 4) rfl ?_); (try (refine gate_guard (by rfl) ?_; dsimp only)); refine box_event ?hg (N := 4) ?hd (cs := #[.int .i64 0, .int .i64 0, .string (⟨#[]⟩ : ByteArray), .slice none 0 0, .slice none 0 0]) (t := 83) ?hr ?_; (case hd => rfl); (case hg => rfl); (case hr => first | (go_simp; done) | (go_simp; rfl)); intro gb242 hg w55 hbox hb; have n0_ := BBz BK239 hb; have n1_ := Aside0.mk (below_step (HBb GE239) hb); have n2_ := Aside0.mk (hbox); have n3_ := BSz w hg (HBb GE239); have n4_ := BSz w hg (HBb GE239); have n5_ := BNz BK239 hg; have n6_ := BMz BK239 hg; clear BK239; clear HB; have BK239 := n0_; have HB := n1_; have BK242 := n2_; have GW242 := n3_; have GE242 := n4_; have NB239_242 := n5_; have NB242_239 := n6_; clear n0_ n1_ n2_ n3_ n4_ n5_ n6_; clear hb hbox hg; have hnb56 := NB242_239.out; have hnc56 := NB239_242.out; have hcz57_0 := C1z BK242; have hcz57_1 := C2z BK242; have hcz57_2 := C3z BK242; have hcz57_3 := C4z BK242; have hcz57_4 := C5z BK242; have hfz57_0 := blk_frozen BK242.out 0; have hfz57_1 := blk_frozen BK242.out 1; have hfz57_2 := blk_frozen BK242.out 2; have hfz57_3 := blk_frozen BK242.out 3; have hfz57_4 := blk_frozen BK242.out 4) | ((with_reducible refine gate_callee (f := 54) rfl ?_); refine goesL_ (some 32) rfl rfl Tryd.func54 (by kernel_rfl) rfl #[.string ((rd_T83 l0_1 x3_2).f2)] rfl MPz ?_; (with_reducible refine (spec_l02Read.calls k2 ((rd_T83 l0_1 x3_2).f2) t243 false _ A11.out).mono ?_); rintro e w58 ⟨v245, rfl, ho0, hb⟩; refine ⟨_, rfl, ?_⟩; have n0_ := Aside0.mk (Kd.R_lower ho0 (below_size (HBc GE239 GE242))); have n1_ := Aside0.mk (blk_below (g := gb239) (o := .cells #[.int .i64 a0_0, .slice (some ad241) l0_1.length c0_1] 45 (0, 0)) (by (with_reducible repeat (first | refine blk_drewN ?_ _ | refine blk_drew ?_ | refine blk_alloc ?_ _)); refine blk_far ?_ NB239_242.out _; (with_reducible repeat (first | refine blk_drewN ?_ _ | refine blk_drew ?_ | refine blk_alloc ?_ _)); refine blk_far ?_ NB239_242.out _; (with_reducible repeat (first | refine blk_drewN ?_ _ | refine blk_drew ?_ | refine blk_alloc ?_ _)); refine blk_far ?_ NB239_242.out _; (with_reducible repeat (first | refine blk_drewN ?_ _ | refine blk_drew ?_ | refine blk_alloc ?_ _)); refine blk_far ?_ NB239_242.out _; (with_reducible repeat (first | refine blk_drewN ?_ _ | refine blk_drew ?_ | refine blk_alloc ?_ _)); refine blk_far ?_ NB239_242.out _; (with_reducible repeat (first | refine blk_drewN ?_ _ | refine blk_drew ?_ | refine blk_alloc ?_ _)); exact BK239.out) hb); have n2_ := Aside0.mk (blk_below (g := gb242) (o := .cells #[.int .i64 ((rd_T83 l0_1 x3_2).f0), .int .i64 ((rd_T83 l0_1 x3_2).f1), .string ((rd_T83 l0_1 x3_2).f2), .slice A241_3 ((rd_T83 l0_1 x3_2).f3.f0).length c241_3, .slice A241_4 ((rd_T83 l0_1 x3_2).f3.f1).length c241_4] 83 (0, 0)) (by (with_reducible repeat (first | refine blk_drewN ?_ _ | refine blk_drew ?_ | refine blk_alloc ?_ _)); refine blk_put (cs := #[.int .i64 ((rd_T83 l0_1 x3_2).f0), .int .i64 ((rd_T83 l0_1 x3_2).f1), .string ((rd_T83 l0_1 x3_2).f2), .slice A241_3 ((rd_T83 l0_1 x3_2).f3.f0).length c241_3, .slice none 0 0]) ?_ 4 _ rfl; (with_reducible repeat (first | refine blk_drewN ?_ _ | refine blk_drew ?_ | refine blk_alloc ?_ _)); refine blk_put (cs := #[.int .i64 ((rd_T83 l0_1 x3_2).f0), .int .i64 ((rd_T83 l0_1 x3_2).f1), .string ((rd_T83 l0_1 x3_2).f2), .slice none 0 0, .slice none 0 0]) ?_ 3 _ rfl; (with_reducible repeat (first | refine blk_drewN ?_ _ | refine blk_drew ?_ | refine blk_alloc ?_ _)); refine blk_put (cs := #[.int .i64 ((rd_T83 l0_1 x3_2).f0), .int .i64 ((rd_T83 l0_1 x3_2).f1), .string (⟨#[]⟩ : ByteArray), .slice none 0 0, .slice none 0 0]) ?_ 2 _ rfl; (with_reducible repeat (first | refine blk_drewN ?_ _ | refine blk_drew ?_ | refine blk_alloc ?_ _)); refine blk_put (cs := #[.int .i64 ((rd_T83 l0_1 x3_2).f0), .int .i64 0, .string (⟨#[]⟩ : ByteArray), .slice none 0 0, .slice none 0 0]) ?_ 1 _ rfl; (with_reducible repeat (first | refine blk_drewN ?_ _ | refine blk_drew ?_ | refine blk_alloc ?_ _)); refine blk_put (cs := #[.int .i64 0, .int .i64 0, .string (⟨#[]⟩ : ByteArray), .slice none 0 0, .slice none 0 0]) ?_ 0 _ rfl; (with_reducible repeat (first | refine blk_drewN ?_ _ | refine blk_drew ?_ | refine blk_alloc ?_ _)); exact BK242.out) hb); have n3_ := Aside0.mk (below_step (HBc GE239 GE242) hb); clear BK239; clear BK242; clear HB; have HO246 := n0_; have BK239 := n1_; have BK242 := n2_; have HB := n3_; clear n0_ n1_ n2_ n3_; (try clear hb); (try clear hb2); (try clear hk); (try clear hi); (try clear ho0)))
      go_ret
      exact ⟨EZa, HBc GE239 GE242⟩
     subst c12
     have H1 : ((spec_l08Right.f k2 ((rd_T83 l0_1 x3_2).f1) t243 ((rd_T83 l0_1 x3_2).f3.f0) ((rd_T83 l0_1 x3_2).f3.f1)).bind fun t247 => (if t247 = true then (if ((rd_T83 l0_1 x3_2).f0) < 1 then (some false) else (if ((rd_T83 l0_1 x3_2).f0) = (wrap64 (a0_0 - (wrap64 ((l0_1.length : Int) - x3_2)))) then (spec_ChangesRight.l0 k2 (wrap64 (x3_2 + 1)) a0_0 l0_1) else (some false))) else (some false))) = some r := by rw [if_pos rfl] at H; exact H
     clear H
     have H := H1
     clear H1
     replace H := Option.bind_eq_some_iff.mp H
     obtain ⟨t247, A130, H⟩ := H
     replace H : (if t247 = true then (if ((rd_T83 l0_1 x3_2).f0) < 1 then (some false) else (if ((rd_T83 l0_1 x3_2).f0) = (wrap64 (a0_0 - (wrap64 ((l0_1.length : Int) - x3_2)))) then (spec_ChangesRight.l0 k2 (wrap64 (x3_2 + 1)) a0_0 l0_1) else (some false))) else (some false)) = some r := H
     have A13 := Aside0.mk A130
     clear A130
     by_cases c14 : t247 = true
     rotate_left
     ·replace c14 := Bool.eq_false_iff.mpr c14
      subst c14
      have H1 : (some false) = some r := by rw [if_neg (show ¬ (false = true) by decide)] at H; exact H
      clear H
      have H := H1
      clear H1
      obtain rfl := Option.some.inj H
      have hcz46_0 := C1z BK239
      have hcz46_1 := C2z BK239
      have hfz46_0 := blk_frozen BK239.out 0
      have hfz46_1 := blk_frozen BK239.out 1
      have p241 : 0 ≤ (x3_2 : Int) := ODz
      have q241 : x3_2 < (l0_1.length : Int) := ODz
      obtain ⟨ad241, A241_3, c241_3, A241_4, c241_4, e241, hx241_0, hx241_1, hx241_2, hx241_3, hx241_4, hl241_3, hi241_3, hl241_4, hi241_4⟩ := at_T83 HR0_1.out x3_2 p241 q241
      cases e241
      replace hx241_0 := HXz HB hx241_0
      replace hx241_1 := HXz HB hx241_1
      replace hx241_2 := HXz HB hx241_2
      replace hx241_3 := HXz HB hx241_3
      replace hx241_4 := HXz HB hx241_4
      have HR241_3 := Aside0.mk hi241_3
      have HC241_3 := Aside0.mk hl241_3
      clear hi241_3 hl241_3
      have HR241_4 := Aside0.mk hi241_4
      have HC241_4 := Aside0.mk hl241_4
      clear hi241_4 hl241_4
      replace p241 := eq_true p241
      replace q241 := eq_true q241
      go_wp2_with (first | ((with_reducible refine gate_dst (N := 4) rfl ?_); (try (refine gate_guard (by rfl) ?_; dsimp only)); refine box_event ?hg (N := 4) ?hd (cs := #[.int .i64 0, .int .i64 0, .string (⟨#[]⟩ : ByteArray), .slice none 0 0, .slice none 0 0]) (t := 83) ?hr ?_; (case hd => rfl); (case hg => rfl); (case hr => first | (go_simp; done) | (go_simp; rfl)); intro gb242 hg w47 hbox hb; have n0_ := BBz BK239 hb; have n1_ := Aside0.mk (below_step (HBb GE239) hb); have n2_ := Aside0.mk (hbox); have n3_ := BSz w hg (HBb GE239); have n4_ := BSz w hg (HBb GE239); have n5_ := BNz BK239 hg; have n6_ := BMz BK239 hg; clear BK239; clear HB; have BK239 := n0_; have HB := n1_; have BK242 := n2_; have GW242 := n3_; have GE242 := n4_; have NB239_242 := n5_; have NB242_239 := n6_; clear n0_ n1_ n2_ n3_ n4_ n5_ n6_; clear hb hbox hg; have hnb48 := NB242_239.out; have hnc48 := NB239_242.out; have hcz49_0 := C1z BK242; have hcz49_1 := C2z BK242; have hcz49_2 := C3z BK242; have hcz49_3 := C4z BK242; have hcz49_4 := C5z BK242; have hfz49_0 := blk_frozen BK242.out 0; have hfz49_1 := blk_frozen BK242.out 1; have hfz49_2 := blk_frozen BK242.out 2; have hfz49_3 := blk_frozen BK242.out 3; have hfz49_4 := blk_frozen BK242.out 4) | ((with_reducible refine gate_callee (f := 54) rfl ?_); refine goesL_ (some 32) rfl rfl Tryd.func54 (by kernel_rfl) rfl #[.string ((rd_T83 l0_1 x3_2).f2)] rfl MPz ?_; (with_reducible refine (spec_l02Read.calls k2 ((rd_T83 l0_1 x3_2).f2) t243 true _ A11.out).mono ?_); rintro e w50 ⟨v245, rfl, ho0, hb⟩; refine ⟨_, rfl, ?_⟩; have n0_ := Aside0.mk (Kd.R_lower ho0 (below_size (HBc GE239 GE242))); have n1_ := Aside0.mk (blk_below (g := gb239) (o := .cells #[.int .i64 a0_0, .slice (some ad241) l0_1.length c0_1] 45 (0, 0)) (by (with_reducible repeat (first | refine blk_drewN ?_ _ | refine blk_drew ?_ | refine blk_alloc ?_ _)); refine blk_far ?_ NB239_242.out _; (with_reducible repeat (first | refine blk_drewN ?_ _ | refine blk_drew ?_ | refine blk_alloc ?_ _)); refine blk_far ?_ NB239_242.out _; (with_reducible repeat (first | refine blk_drewN ?_ _ | refine blk_drew ?_ | refine blk_alloc ?_ _)); refine blk_far ?_ NB239_242.out _; (with_reducible repeat (first | refine blk_drewN ?_ _ | refine blk_drew ?_ | refine blk_alloc ?_ _)); refine blk_far ?_ NB239_242.out _; (with_reducible repeat (first | refine blk_drewN ?_ _ | refine blk_drew ?_ | refine blk_alloc ?_ _)); refine blk_far ?_ NB239_242.out _; (with_reducible repeat (first | refine blk_drewN ?_ _ | refine blk_drew ?_ | refine blk_alloc ?_ _)); exact BK239.out) hb); have n2_ := Aside0.mk (blk_below (g := gb242) (o := .cells #[.int .i64 ((rd_T83 l0_1 x3_2).f0), .int .i64 ((rd_T83 l0_1 x3_2).f1), .string ((rd_T83 l0_1 x3_2).f2), .slice A241_3 ((rd_T83 l0_1 x3_2).f3.f0).length c241_3, .slice A241_4 ((rd_T83 l0_1 x3_2).f3.f1).length c241_4] 83 (0, 0)) (by (with_reducible repeat (first | refine blk_drewN ?_ _ | refine blk_drew ?_ | refine blk_alloc ?_ _)); refine blk_put (cs := #[.int .i64 ((rd_T83 l0_1 x3_2).f0), .int .i64 ((rd_T83 l0_1 x3_2).f1), .string ((rd_T83 l0_1 x3_2).f2), .slice A241_3 ((rd_T83 l0_1 x3_2).f3.f0).length c241_3, .slice none 0 0]) ?_ 4 _ rfl; (with_reducible repeat (first | refine blk_drewN ?_ _ | refine blk_drew ?_ | refine blk_alloc ?_ _)); refine blk_put (cs := #[.int .i64 ((rd_T83 l0_1 x3_2).f0), .int .i64 ((rd_T83 l0_1 x3_2).f1), .string ((rd_T83 l0_1 x3_2).f2), .slice none 0 0, .slice none 0 0]) ?_ 3 _ rfl; (with_reducible repeat (first | refine blk_drewN ?_ _ | refine blk_drew ?_ | refine blk_alloc ?_ _)); refine blk_put (cs := #[.int .i64 ((rd_T83 l0_1 x3_2).f0), .int .i64 ((rd_T83 l0_1 x3_2).f1), .string (⟨#[]⟩ : ByteArray), .slice none 0 0, .slice none 0 0]) ?_ 2 _ rfl; (with_reducible repeat (first | refine blk_drewN ?_ _ | refine blk_drew ?_ | refine blk_alloc ?_ _)); refine blk_put (cs := #[.int .i64 ((rd_T83 l0_1 x3_2).f0), .int .i64 0, .string (⟨#[]⟩ : ByteArray), .slice none 0 0, .slice none 0 0]) ?_ 1 _ rfl; (with_reducible repeat (first | refine blk_drewN ?_ _ | refine blk_drew ?_ | refine blk_alloc ?_ _)); refine blk_put (cs := #[.int .i64 0, .int .i64 0, .string (⟨#[]⟩ : ByteArray), .slice none 0 0, .slice none 0 0]) ?_ 0 _ rfl; (with_reducible repeat (first | refine blk_drewN ?_ _ | refine blk_drew ?_ | refine blk_alloc ?_ _)); exact BK242.out) hb); have n3_ := Aside0.mk (below_step (HBc GE239 GE242) hb); clear BK239; clear BK242; clear HB; have HO246 := n0_; have BK239 := n1_; have BK242 := n2_; have HB := n3_; clear n0_ n1_ n2_ n3_; (try clear hb); (try clear hb2); (try clear hk); (try clear hi); (try clear ho0); have hcz51_0 := C1z BK242; have hcz51_1 := C2z BK242; have hcz51_2 := C3z BK242; have hcz51_3 := C4z BK242; have hcz51_4 := C5z BK242; have hfz51_0 := blk_frozen BK242.out 0; have hfz51_1 := blk_frozen BK242.out 1; have hfz51_2 := blk_frozen BK242.out 2; have hfz51_3 := blk_frozen BK242.out 3; have hfz51_4 := blk_frozen BK242.out 4; obtain ⟨Ao52, co52, eo52⟩ := Kd.R_slice HO246.out; subst eo52) | (go_at_call 55; (with_reducible refine (spec_l08Right.calls k2 ((rd_T83 l0_1 x3_2).f1) _ _ t243 _ _ ((rd_T83 l0_1 x3_2).f3.f0) _ _ ((rd_T83 l0_1 x3_2).f3.f1) false _ ?side1 ?side2 ?side3 ?side4 ?side5 ?side6 A13.out).mono ?_); (case side1 => repeat (first | exact (Kd.R_reads' HO246.out).2.2 | (with_reducible refine Kd.C_alloc ?_ _) | (with_reducible refine Kd.C_drewN ?_ _) | (with_reducible refine Kd.C_drew ?_))); (case side2 => exact (Kd.R_reads' HO246.out).2.1); (case side3 => exact KCz (Kd.C_below HR241_3.out HB.out)); (case side4 => exact HC241_3.out); (case side5 => exact KCz (Kd.C_below HR241_4.out HB.out)); (case side6 => exact HC241_4.out); rintro e w53 ⟨rfl, hb⟩; have n0_ := Aside0.mk (Kd.R_below (KRz HO246) hb); have n1_ := BBz BK239 hb; have n2_ := BBz BK242 hb; have n3_ := Aside0.mk (below_step (HBc GE239 GE242) hb); clear HO246; clear BK239; clear BK242; clear HB; have HO246 := n0_; have BK239 := n1_; have BK242 := n2_; have HB := n3_; clear n0_ n1_ n2_ n3_; (try clear hb); (try clear hb2); (try clear hk); (try clear hi)))
      go_ret
      exact ⟨EZa, HBc GE239 GE242⟩
     subst c14
     have H1 : (if ((rd_T83 l0_1 x3_2).f0) < 1 then (some false) else (if ((rd_T83 l0_1 x3_2).f0) = (wrap64 (a0_0 - (wrap64 ((l0_1.length : Int) - x3_2)))) then (spec_ChangesRight.l0 k2 (wrap64 (x3_2 + 1)) a0_0 l0_1) else (some false))) = some r := by rw [if_pos rfl] at H; exact H
     clear H
     have H := H1
     clear H1
     by_cases c15 : ((rd_T83 l0_1 x3_2).f0) < 1
     ·rw [if_pos c15] at H
      have c15b0 : decide (((rd_T83 l0_1 x3_2).f0) < 1) = true := decide_eq_true c15
      clear c15
      obtain rfl := Option.some.inj H
      have hcz16_0 := C1z BK239
      have hcz16_1 := C2z BK239
      have hfz16_0 := blk_frozen BK239.out 0
      have hfz16_1 := blk_frozen BK239.out 1
      have p241 : 0 ≤ (x3_2 : Int) := ODz
      have q241 : x3_2 < (l0_1.length : Int) := ODz
      obtain ⟨ad241, A241_3, c241_3, A241_4, c241_4, e241, hx241_0, hx241_1, hx241_2, hx241_3, hx241_4, hl241_3, hi241_3, hl241_4, hi241_4⟩ := at_T83 HR0_1.out x3_2 p241 q241
      cases e241
      replace hx241_0 := HXz HB hx241_0
      replace hx241_1 := HXz HB hx241_1
      replace hx241_2 := HXz HB hx241_2
      replace hx241_3 := HXz HB hx241_3
      replace hx241_4 := HXz HB hx241_4
      have HR241_3 := Aside0.mk hi241_3
      have HC241_3 := Aside0.mk hl241_3
      clear hi241_3 hl241_3
      have HR241_4 := Aside0.mk hi241_4
      have HC241_4 := Aside0.mk hl241_4
      clear hi241_4 hl241_4
      replace p241 := eq_true p241
      replace q241 := eq_true q241
      go_wp2_with (first | ((with_reducible refine gate_dst (N := 4) rfl ?_); (try (refine gate_guard (by rfl) ?_; dsimp only)); refine box_event ?hg (N := 4) ?hd (cs := #[.int .i64 0, .int .i64 0, .string (⟨#[]⟩ : ByteArray), .slice none 0 0, .slice none 0 0]) (t := 83) ?hr ?_; (case hd => rfl); (case hg => rfl); (case hr => first | (go_simp; done) | (go_simp; rfl)); intro gb242 hg w17 hbox hb; have n0_ := BBz BK239 hb; have n1_ := Aside0.mk (below_step (HBb GE239) hb); have n2_ := Aside0.mk (hbox); have n3_ := BSz w hg (HBb GE239); have n4_ := BSz w hg (HBb GE239); have n5_ := BNz BK239 hg; have n6_ := BMz BK239 hg; clear BK239; clear HB; have BK239 := n0_; have HB := n1_; have BK242 := n2_; have GW242 := n3_; have GE242 := n4_; have NB239_242 := n5_; have NB242_239 := n6_; clear n0_ n1_ n2_ n3_ n4_ n5_ n6_; clear hb hbox hg; have hnb18 := NB242_239.out; have hnc18 := NB239_242.out; have hcz19_0 := C1z BK242; have hcz19_1 := C2z BK242; have hcz19_2 := C3z BK242; have hcz19_3 := C4z BK242; have hcz19_4 := C5z BK242; have hfz19_0 := blk_frozen BK242.out 0; have hfz19_1 := blk_frozen BK242.out 1; have hfz19_2 := blk_frozen BK242.out 2; have hfz19_3 := blk_frozen BK242.out 3; have hfz19_4 := blk_frozen BK242.out 4) | ((with_reducible refine gate_callee (f := 54) rfl ?_); refine goesL_ (some 32) rfl rfl Tryd.func54 (by kernel_rfl) rfl #[.string ((rd_T83 l0_1 x3_2).f2)] rfl MPz ?_; (with_reducible refine (spec_l02Read.calls k2 ((rd_T83 l0_1 x3_2).f2) t243 true _ A11.out).mono ?_); rintro e w20 ⟨v245, rfl, ho0, hb⟩; refine ⟨_, rfl, ?_⟩; have n0_ := Aside0.mk (Kd.R_lower ho0 (below_size (HBc GE239 GE242))); have n1_ := Aside0.mk (blk_below (g := gb239) (o := .cells #[.int .i64 a0_0, .slice (some ad241) l0_1.length c0_1] 45 (0, 0)) (by (with_reducible repeat (first | refine blk_drewN ?_ _ | refine blk_drew ?_ | refine blk_alloc ?_ _)); refine blk_far ?_ NB239_242.out _; (with_reducible repeat (first | refine blk_drewN ?_ _ | refine blk_drew ?_ | refine blk_alloc ?_ _)); refine blk_far ?_ NB239_242.out _; (with_reducible repeat (first | refine blk_drewN ?_ _ | refine blk_drew ?_ | refine blk_alloc ?_ _)); refine blk_far ?_ NB239_242.out _; (with_reducible repeat (first | refine blk_drewN ?_ _ | refine blk_drew ?_ | refine blk_alloc ?_ _)); refine blk_far ?_ NB239_242.out _; (with_reducible repeat (first | refine blk_drewN ?_ _ | refine blk_drew ?_ | refine blk_alloc ?_ _)); refine blk_far ?_ NB239_242.out _; (with_reducible repeat (first | refine blk_drewN ?_ _ | refine blk_drew ?_ | refine blk_alloc ?_ _)); exact BK239.out) hb); have n2_ := Aside0.mk (blk_below (g := gb242) (o := .cells #[.int .i64 ((rd_T83 l0_1 x3_2).f0), .int .i64 ((rd_T83 l0_1 x3_2).f1), .string ((rd_T83 l0_1 x3_2).f2), .slice A241_3 ((rd_T83 l0_1 x3_2).f3.f0).length c241_3, .slice A241_4 ((rd_T83 l0_1 x3_2).f3.f1).length c241_4] 83 (0, 0)) (by (with_reducible repeat (first | refine blk_drewN ?_ _ | refine blk_drew ?_ | refine blk_alloc ?_ _)); refine blk_put (cs := #[.int .i64 ((rd_T83 l0_1 x3_2).f0), .int .i64 ((rd_T83 l0_1 x3_2).f1), .string ((rd_T83 l0_1 x3_2).f2), .slice A241_3 ((rd_T83 l0_1 x3_2).f3.f0).length c241_3, .slice none 0 0]) ?_ 4 _ rfl; (with_reducible repeat (first | refine blk_drewN ?_ _ | refine blk_drew ?_ | refine blk_alloc ?_ _)); refine blk_put (cs := #[.int .i64 ((rd_T83 l0_1 x3_2).f0), .int .i64 ((rd_T83 l0_1 x3_2).f1), .string ((rd_T83 l0_1 x3_2).f2), .slice none 0 0, .slice none 0 0]) ?_ 3 _ rfl; (with_reducible repeat (first | refine blk_drewN ?_ _ | refine blk_drew ?_ | refine blk_alloc ?_ _)); refine blk_put (cs := #[.int .i64 ((rd_T83 l0_1 x3_2).f0), .int .i64 ((rd_T83 l0_1 x3_2).f1), .string (⟨#[]⟩ : ByteArray), .slice none 0 0, .slice none 0 0]) ?_ 2 _ rfl; (with_reducible repeat (first | refine blk_drewN ?_ _ | refine blk_drew ?_ | refine blk_alloc ?_ _)); refine blk_put (cs := #[.int .i64 ((rd_T83 l0_1 x3_2).f0), .int .i64 0, .string (⟨#[]⟩ : ByteArray), .slice none 0 0, .slice none 0 0]) ?_ 1 _ rfl; (with_reducible repeat (first | refine blk_drewN ?_ _ | refine blk_drew ?_ | refine blk_alloc ?_ _)); refine blk_put (cs := #[.int .i64 0, .int .i64 0, .string (⟨#[]⟩ : ByteArray), .slice none 0 0, .slice none 0 0]) ?_ 0 _ rfl; (with_reducible repeat (first | refine blk_drewN ?_ _ | refine blk_drew ?_ | refine blk_alloc ?_ _)); exact BK242.out) hb); have n3_ := Aside0.mk (below_step (HBc GE239 GE242) hb); clear BK239; clear BK242; clear HB; have HO246 := n0_; have BK239 := n1_; have BK242 := n2_; have HB := n3_; clear n0_ n1_ n2_ n3_; (try clear hb); (try clear hb2); (try clear hk); (try clear hi); (try clear ho0); have hcz21_0 := C1z BK242; have hcz21_1 := C2z BK242; have hcz21_2 := C3z BK242; have hcz21_3 := C4z BK242; have hcz21_4 := C5z BK242; have hfz21_0 := blk_frozen BK242.out 0; have hfz21_1 := blk_frozen BK242.out 1; have hfz21_2 := blk_frozen BK242.out 2; have hfz21_3 := blk_frozen BK242.out 3; have hfz21_4 := blk_frozen BK242.out 4; obtain ⟨Ao22, co22, eo22⟩ := Kd.R_slice HO246.out; subst eo22) | (go_at_call 55; (with_reducible refine (spec_l08Right.calls k2 ((rd_T83 l0_1 x3_2).f1) _ _ t243 _ _ ((rd_T83 l0_1 x3_2).f3.f0) _ _ ((rd_T83 l0_1 x3_2).f3.f1) true _ ?side1 ?side2 ?side3 ?side4 ?side5 ?side6 A13.out).mono ?_); (case side1 => repeat (first | exact (Kd.R_reads' HO246.out).2.2 | (with_reducible refine Kd.C_alloc ?_ _) | (with_reducible refine Kd.C_drewN ?_ _) | (with_reducible refine Kd.C_drew ?_))); (case side2 => exact (Kd.R_reads' HO246.out).2.1); (case side3 => exact KCz (Kd.C_below HR241_3.out HB.out)); (case side4 => exact HC241_3.out); (case side5 => exact KCz (Kd.C_below HR241_4.out HB.out)); (case side6 => exact HC241_4.out); rintro e w23 ⟨rfl, hb⟩; have n0_ := Aside0.mk (Kd.R_below (KRz HO246) hb); have n1_ := BBz BK239 hb; have n2_ := BBz BK242 hb; have n3_ := Aside0.mk (below_step (HBc GE239 GE242) hb); clear HO246; clear BK239; clear BK242; clear HB; have HO246 := n0_; have BK239 := n1_; have BK242 := n2_; have HB := n3_; clear n0_ n1_ n2_ n3_; (try clear hb); (try clear hb2); (try clear hk); (try clear hi); have hcz24_0 := C1z BK242; have hcz24_1 := C2z BK242; have hcz24_2 := C3z BK242; have hcz24_3 := C4z BK242; have hcz24_4 := C5z BK242; have hfz24_0 := blk_frozen BK242.out 0; have hfz24_1 := blk_frozen BK242.out 1; have hfz24_2 := blk_frozen BK242.out 2; have hfz24_3 := blk_frozen BK242.out 3; have hfz24_4 := blk_frozen BK242.out 4))
      go_ret
      exact ⟨EZa, HBc GE239 GE242⟩
     rw [if_neg c15] at H
     have c15b0 : decide (((rd_T83 l0_1 x3_2).f0) < 1) = false := decide_eq_false c15
     clear c15
     by_cases c25 : ((rd_T83 l0_1 x3_2).f0) = (wrap64 (a0_0 - (wrap64 ((l0_1.length : Int) - x3_2))))
     rotate_left
     ·rw [if_neg c25] at H
      have c25b0 : (((rd_T83 l0_1 x3_2).f0) == (wrap64 (a0_0 - (wrap64 ((l0_1.length : Int) - x3_2))))) = false := beq_eq_false_iff_ne.mpr c25
      (try (have c25v0 := c25b0; (try rw [show wrap64 ((l0_1.length : Int) - x3_2) = (l0_1.length : Int) - x3_2 from by unfold wrap64; omega] at c25v0); (try rw [show wrap64 (a0_0 - (wrap64 ((l0_1.length : Int) - x3_2))) = a0_0 - (wrap64 ((l0_1.length : Int) - x3_2)) from by unfold wrap64; omega] at c25v0)))
      have c25b1 : (((rd_T83 l0_1 x3_2).f0) != (wrap64 (a0_0 - (wrap64 ((l0_1.length : Int) - x3_2))))) = true := bne_iff_ne.mpr c25
      (try (have c25v1 := c25b1; (try rw [show wrap64 ((l0_1.length : Int) - x3_2) = (l0_1.length : Int) - x3_2 from by unfold wrap64; omega] at c25v1); (try rw [show wrap64 (a0_0 - (wrap64 ((l0_1.length : Int) - x3_2))) = a0_0 - (wrap64 ((l0_1.length : Int) - x3_2)) from by unfold wrap64; omega] at c25v1)))
      obtain rfl := Option.some.inj H
      have hcz36_0 := C1z BK239
      have hcz36_1 := C2z BK239
      have hfz36_0 := blk_frozen BK239.out 0
      have hfz36_1 := blk_frozen BK239.out 1
      have p241 : 0 ≤ (x3_2 : Int) := ODz
      have q241 : x3_2 < (l0_1.length : Int) := ODz
      obtain ⟨ad241, A241_3, c241_3, A241_4, c241_4, e241, hx241_0, hx241_1, hx241_2, hx241_3, hx241_4, hl241_3, hi241_3, hl241_4, hi241_4⟩ := at_T83 HR0_1.out x3_2 p241 q241
      cases e241
      replace hx241_0 := HXz HB hx241_0
      replace hx241_1 := HXz HB hx241_1
      replace hx241_2 := HXz HB hx241_2
      replace hx241_3 := HXz HB hx241_3
      replace hx241_4 := HXz HB hx241_4
      have HR241_3 := Aside0.mk hi241_3
      have HC241_3 := Aside0.mk hl241_3
      clear hi241_3 hl241_3
      have HR241_4 := Aside0.mk hi241_4
      have HC241_4 := Aside0.mk hl241_4
      clear hi241_4 hl241_4
      replace p241 := eq_true p241
      replace q241 := eq_true q241
      go_wp2_with (first | ((with_reducible refine gate_dst (N := 4) rfl ?_); (try (refine gate_guard (by rfl) ?_; dsimp only)); refine box_event ?hg (N := 4) ?hd (cs := #[.int .i64 0, .int .i64 0, .string (⟨#[]⟩ : ByteArray), .slice none 0 0, .slice none 0 0]) (t := 83) ?hr ?_; (case hd => rfl); (case hg => rfl); (case hr => first | (go_simp; done) | (go_simp; rfl)); intro gb242 hg w37 hbox hb; have n0_ := BBz BK239 hb; have n1_ := Aside0.mk (below_step (HBb GE239) hb); have n2_ := Aside0.mk (hbox); have n3_ := BSz w hg (HBb GE239); have n4_ := BSz w hg (HBb GE239); have n5_ := BNz BK239 hg; have n6_ := BMz BK239 hg; clear BK239; clear HB; have BK239 := n0_; have HB := n1_; have BK242 := n2_; have GW242 := n3_; have GE242 := n4_; have NB239_242 := n5_; have NB242_239 := n6_; clear n0_ n1_ n2_ n3_ n4_ n5_ n6_; clear hb hbox hg; have hnb38 := NB242_239.out; have hnc38 := NB239_242.out; have hcz39_0 := C1z BK242; have hcz39_1 := C2z BK242; have hcz39_2 := C3z BK242; have hcz39_3 := C4z BK242; have hcz39_4 := C5z BK242; have hfz39_0 := blk_frozen BK242.out 0; have hfz39_1 := blk_frozen BK242.out 1; have hfz39_2 := blk_frozen BK242.out 2; have hfz39_3 := blk_frozen BK242.out 3; have hfz39_4 := blk_frozen BK242.out 4) | ((with_reducible refine gate_callee (f := 54) rfl ?_); refine goesL_ (some 32) rfl rfl Tryd.func54 (by kernel_rfl) rfl #[.string ((rd_T83 l0_1 x3_2).f2)] rfl MPz ?_; (with_reducible refine (spec_l02Read.calls k2 ((rd_T83 l0_1 x3_2).f2) t243 true _ A11.out).mono ?_); rintro e w40 ⟨v245, rfl, ho0, hb⟩; refine ⟨_, rfl, ?_⟩; have n0_ := Aside0.mk (Kd.R_lower ho0 (below_size (HBc GE239 GE242))); have n1_ := Aside0.mk (blk_below (g := gb239) (o := .cells #[.int .i64 a0_0, .slice (some ad241) l0_1.length c0_1] 45 (0, 0)) (by (with_reducible repeat (first | refine blk_drewN ?_ _ | refine blk_drew ?_ | refine blk_alloc ?_ _)); refine blk_far ?_ NB239_242.out _; (with_reducible repeat (first | refine blk_drewN ?_ _ | refine blk_drew ?_ | refine blk_alloc ?_ _)); refine blk_far ?_ NB239_242.out _; (with_reducible repeat (first | refine blk_drewN ?_ _ | refine blk_drew ?_ | refine blk_alloc ?_ _)); refine blk_far ?_ NB239_242.out _; (with_reducible repeat (first | refine blk_drewN ?_ _ | refine blk_drew ?_ | refine blk_alloc ?_ _)); refine blk_far ?_ NB239_242.out _; (with_reducible repeat (first | refine blk_drewN ?_ _ | refine blk_drew ?_ | refine blk_alloc ?_ _)); refine blk_far ?_ NB239_242.out _; (with_reducible repeat (first | refine blk_drewN ?_ _ | refine blk_drew ?_ | refine blk_alloc ?_ _)); exact BK239.out) hb); have n2_ := Aside0.mk (blk_below (g := gb242) (o := .cells #[.int .i64 ((rd_T83 l0_1 x3_2).f0), .int .i64 ((rd_T83 l0_1 x3_2).f1), .string ((rd_T83 l0_1 x3_2).f2), .slice A241_3 ((rd_T83 l0_1 x3_2).f3.f0).length c241_3, .slice A241_4 ((rd_T83 l0_1 x3_2).f3.f1).length c241_4] 83 (0, 0)) (by (with_reducible repeat (first | refine blk_drewN ?_ _ | refine blk_drew ?_ | refine blk_alloc ?_ _)); refine blk_put (cs := #[.int .i64 ((rd_T83 l0_1 x3_2).f0), .int .i64 ((rd_T83 l0_1 x3_2).f1), .string ((rd_T83 l0_1 x3_2).f2), .slice A241_3 ((rd_T83 l0_1 x3_2).f3.f0).length c241_3, .slice none 0 0]) ?_ 4 _ rfl; (with_reducible repeat (first | refine blk_drewN ?_ _ | refine blk_drew ?_ | refine blk_alloc ?_ _)); refine blk_put (cs := #[.int .i64 ((rd_T83 l0_1 x3_2).f0), .int .i64 ((rd_T83 l0_1 x3_2).f1), .string ((rd_T83 l0_1 x3_2).f2), .slice none 0 0, .slice none 0 0]) ?_ 3 _ rfl; (with_reducible repeat (first | refine blk_drewN ?_ _ | refine blk_drew ?_ | refine blk_alloc ?_ _)); refine blk_put (cs := #[.int .i64 ((rd_T83 l0_1 x3_2).f0), .int .i64 ((rd_T83 l0_1 x3_2).f1), .string (⟨#[]⟩ : ByteArray), .slice none 0 0, .slice none 0 0]) ?_ 2 _ rfl; (with_reducible repeat (first | refine blk_drewN ?_ _ | refine blk_drew ?_ | refine blk_alloc ?_ _)); refine blk_put (cs := #[.int .i64 ((rd_T83 l0_1 x3_2).f0), .int .i64 0, .string (⟨#[]⟩ : ByteArray), .slice none 0 0, .slice none 0 0]) ?_ 1 _ rfl; (with_reducible repeat (first | refine blk_drewN ?_ _ | refine blk_drew ?_ | refine blk_alloc ?_ _)); refine blk_put (cs := #[.int .i64 0, .int .i64 0, .string (⟨#[]⟩ : ByteArray), .slice none 0 0, .slice none 0 0]) ?_ 0 _ rfl; (with_reducible repeat (first | refine blk_drewN ?_ _ | refine blk_drew ?_ | refine blk_alloc ?_ _)); exact BK242.out) hb); have n3_ := Aside0.mk (below_step (HBc GE239 GE242) hb); clear BK239; clear BK242; clear HB; have HO246 := n0_; have BK239 := n1_; have BK242 := n2_; have HB := n3_; clear n0_ n1_ n2_ n3_; (try clear hb); (try clear hb2); (try clear hk); (try clear hi); (try clear ho0); have hcz41_0 := C1z BK242; have hcz41_1 := C2z BK242; have hcz41_2 := C3z BK242; have hcz41_3 := C4z BK242; have hcz41_4 := C5z BK242; have hfz41_0 := blk_frozen BK242.out 0; have hfz41_1 := blk_frozen BK242.out 1; have hfz41_2 := blk_frozen BK242.out 2; have hfz41_3 := blk_frozen BK242.out 3; have hfz41_4 := blk_frozen BK242.out 4; obtain ⟨Ao42, co42, eo42⟩ := Kd.R_slice HO246.out; subst eo42) | (go_at_call 55; (with_reducible refine (spec_l08Right.calls k2 ((rd_T83 l0_1 x3_2).f1) _ _ t243 _ _ ((rd_T83 l0_1 x3_2).f3.f0) _ _ ((rd_T83 l0_1 x3_2).f3.f1) true _ ?side1 ?side2 ?side3 ?side4 ?side5 ?side6 A13.out).mono ?_); (case side1 => repeat (first | exact (Kd.R_reads' HO246.out).2.2 | (with_reducible refine Kd.C_alloc ?_ _) | (with_reducible refine Kd.C_drewN ?_ _) | (with_reducible refine Kd.C_drew ?_))); (case side2 => exact (Kd.R_reads' HO246.out).2.1); (case side3 => exact KCz (Kd.C_below HR241_3.out HB.out)); (case side4 => exact HC241_3.out); (case side5 => exact KCz (Kd.C_below HR241_4.out HB.out)); (case side6 => exact HC241_4.out); rintro e w43 ⟨rfl, hb⟩; have n0_ := Aside0.mk (Kd.R_below (KRz HO246) hb); have n1_ := BBz BK239 hb; have n2_ := BBz BK242 hb; have n3_ := Aside0.mk (below_step (HBc GE239 GE242) hb); clear HO246; clear BK239; clear BK242; clear HB; have HO246 := n0_; have BK239 := n1_; have BK242 := n2_; have HB := n3_; clear n0_ n1_ n2_ n3_; (try clear hb); (try clear hb2); (try clear hk); (try clear hi); have hcz44_0 := C1z BK242; have hcz44_1 := C2z BK242; have hcz44_2 := C3z BK242; have hcz44_3 := C4z BK242; have hcz44_4 := C5z BK242; have hfz44_0 := blk_frozen BK242.out 0; have hfz44_1 := blk_frozen BK242.out 1; have hfz44_2 := blk_frozen BK242.out 2; have hfz44_3 := blk_frozen BK242.out 3; have hfz44_4 := blk_frozen BK242.out 4; have hcz45_0 := C1z BK239; have hcz45_1 := C2z BK239; have hfz45_0 := blk_frozen BK239.out 0; have hfz45_1 := blk_frozen BK239.out 1))
      go_ret
      exact ⟨EZa, HBc GE239 GE242⟩
     rw [if_pos c25] at H
     have c25b0 : (((rd_T83 l0_1 x3_2).f0) == (wrap64 (a0_0 - (wrap64 ((l0_1.length : Int) - x3_2))))) = true := beq_iff_eq.mpr c25
     (try (have c25v0 := c25b0; (try rw [show wrap64 ((l0_1.length : Int) - x3_2) = (l0_1.length : Int) - x3_2 from by unfold wrap64; omega] at c25v0); (try rw [show wrap64 (a0_0 - (wrap64 ((l0_1.length : Int) - x3_2))) = a0_0 - (wrap64 ((l0_1.length : Int) - x3_2)) from by unfold wrap64; omega] at c25v0)))
     have c25b1 : (((rd_T83 l0_1 x3_2).f0) != (wrap64 (a0_0 - (wrap64 ((l0_1.length : Int) - x3_2))))) = false := bne_eq_false_iff_eq.mpr c25
     (try (have c25v1 := c25b1; (try rw [show wrap64 ((l0_1.length : Int) - x3_2) = (l0_1.length : Int) - x3_2 from by unfold wrap64; omega] at c25v1); (try rw [show wrap64 (a0_0 - (wrap64 ((l0_1.length : Int) - x3_2))) = a0_0 - (wrap64 ((l0_1.length : Int) - x3_2)) from by unfold wrap64; omega] at c25v1)))
     clear c25
     have H' := Aside0.mk H
     clear H
     have hcz26_0 := C1z BK239
     have hcz26_1 := C2z BK239
     have hfz26_0 := blk_frozen BK239.out 0
     have hfz26_1 := blk_frozen BK239.out 1
     have p241 : 0 ≤ (x3_2 : Int) := ODz
     have q241 : x3_2 < (l0_1.length : Int) := ODz
     obtain ⟨ad241, A241_3, c241_3, A241_4, c241_4, e241, hx241_0, hx241_1, hx241_2, hx241_3, hx241_4, hl241_3, hi241_3, hl241_4, hi241_4⟩ := at_T83 HR0_1.out x3_2 p241 q241
     cases e241
     replace hx241_0 := HXz HB hx241_0
     replace hx241_1 := HXz HB hx241_1
     replace hx241_2 := HXz HB hx241_2
     replace hx241_3 := HXz HB hx241_3
     replace hx241_4 := HXz HB hx241_4
     have HR241_3 := Aside0.mk hi241_3
     have HC241_3 := Aside0.mk hl241_3
     clear hi241_3 hl241_3
     have HR241_4 := Aside0.mk hi241_4
     have HC241_4 := Aside0.mk hl241_4
     clear hi241_4 hl241_4
     replace p241 := eq_true p241
     replace q241 := eq_true q241
     go_wp2_with (first | ((with_reducible refine gate_dst (N := 4) rfl ?_); (try (refine gate_guard (by rfl) ?_; dsimp only)); refine box_event ?hg (N := 4) ?hd (cs := #[.int .i64 0, .int .i64 0, .string (⟨#[]⟩ : ByteArray), .slice none 0 0, .slice none 0 0]) (t := 83) ?hr ?_; (case hd => rfl); (case hg => rfl); (case hr => first | (go_simp; done) | (go_simp; rfl)); intro gb242 hg w27 hbox hb; have n0_ := BBz BK239 hb; have n1_ := Aside0.mk (below_step (HBb GE239) hb); have n2_ := Aside0.mk (hbox); have n3_ := BSz w hg (HBb GE239); have n4_ := BSz w hg (HBb GE239); have n5_ := BNz BK239 hg; have n6_ := BMz BK239 hg; clear BK239; clear HB; have BK239 := n0_; have HB := n1_; have BK242 := n2_; have GW242 := n3_; have GE242 := n4_; have NB239_242 := n5_; have NB242_239 := n6_; clear n0_ n1_ n2_ n3_ n4_ n5_ n6_; clear hb hbox hg; have hnb28 := NB242_239.out; have hnc28 := NB239_242.out; have hcz29_0 := C1z BK242; have hcz29_1 := C2z BK242; have hcz29_2 := C3z BK242; have hcz29_3 := C4z BK242; have hcz29_4 := C5z BK242; have hfz29_0 := blk_frozen BK242.out 0; have hfz29_1 := blk_frozen BK242.out 1; have hfz29_2 := blk_frozen BK242.out 2; have hfz29_3 := blk_frozen BK242.out 3; have hfz29_4 := blk_frozen BK242.out 4) | ((with_reducible refine gate_callee (f := 54) rfl ?_); refine goesL_ (some 32) rfl rfl Tryd.func54 (by kernel_rfl) rfl #[.string ((rd_T83 l0_1 x3_2).f2)] rfl MPz ?_; (with_reducible refine (spec_l02Read.calls k2 ((rd_T83 l0_1 x3_2).f2) t243 true _ A11.out).mono ?_); rintro e w30 ⟨v245, rfl, ho0, hb⟩; refine ⟨_, rfl, ?_⟩; have n0_ := Aside0.mk (Kd.R_lower ho0 (below_size (HBc GE239 GE242))); have n1_ := Aside0.mk (blk_below (g := gb239) (o := .cells #[.int .i64 a0_0, .slice (some ad241) l0_1.length c0_1] 45 (0, 0)) (by (with_reducible repeat (first | refine blk_drewN ?_ _ | refine blk_drew ?_ | refine blk_alloc ?_ _)); refine blk_far ?_ NB239_242.out _; (with_reducible repeat (first | refine blk_drewN ?_ _ | refine blk_drew ?_ | refine blk_alloc ?_ _)); refine blk_far ?_ NB239_242.out _; (with_reducible repeat (first | refine blk_drewN ?_ _ | refine blk_drew ?_ | refine blk_alloc ?_ _)); refine blk_far ?_ NB239_242.out _; (with_reducible repeat (first | refine blk_drewN ?_ _ | refine blk_drew ?_ | refine blk_alloc ?_ _)); refine blk_far ?_ NB239_242.out _; (with_reducible repeat (first | refine blk_drewN ?_ _ | refine blk_drew ?_ | refine blk_alloc ?_ _)); refine blk_far ?_ NB239_242.out _; (with_reducible repeat (first | refine blk_drewN ?_ _ | refine blk_drew ?_ | refine blk_alloc ?_ _)); exact BK239.out) hb); have n2_ := Aside0.mk (blk_below (g := gb242) (o := .cells #[.int .i64 ((rd_T83 l0_1 x3_2).f0), .int .i64 ((rd_T83 l0_1 x3_2).f1), .string ((rd_T83 l0_1 x3_2).f2), .slice A241_3 ((rd_T83 l0_1 x3_2).f3.f0).length c241_3, .slice A241_4 ((rd_T83 l0_1 x3_2).f3.f1).length c241_4] 83 (0, 0)) (by (with_reducible repeat (first | refine blk_drewN ?_ _ | refine blk_drew ?_ | refine blk_alloc ?_ _)); refine blk_put (cs := #[.int .i64 ((rd_T83 l0_1 x3_2).f0), .int .i64 ((rd_T83 l0_1 x3_2).f1), .string ((rd_T83 l0_1 x3_2).f2), .slice A241_3 ((rd_T83 l0_1 x3_2).f3.f0).length c241_3, .slice none 0 0]) ?_ 4 _ rfl; (with_reducible repeat (first | refine blk_drewN ?_ _ | refine blk_drew ?_ | refine blk_alloc ?_ _)); refine blk_put (cs := #[.int .i64 ((rd_T83 l0_1 x3_2).f0), .int .i64 ((rd_T83 l0_1 x3_2).f1), .string ((rd_T83 l0_1 x3_2).f2), .slice none 0 0, .slice none 0 0]) ?_ 3 _ rfl; (with_reducible repeat (first | refine blk_drewN ?_ _ | refine blk_drew ?_ | refine blk_alloc ?_ _)); refine blk_put (cs := #[.int .i64 ((rd_T83 l0_1 x3_2).f0), .int .i64 ((rd_T83 l0_1 x3_2).f1), .string (⟨#[]⟩ : ByteArray), .slice none 0 0, .slice none 0 0]) ?_ 2 _ rfl; (with_reducible repeat (first | refine blk_drewN ?_ _ | refine blk_drew ?_ | refine blk_alloc ?_ _)); refine blk_put (cs := #[.int .i64 ((rd_T83 l0_1 x3_2).f0), .int .i64 0, .string (⟨#[]⟩ : ByteArray), .slice none 0 0, .slice none 0 0]) ?_ 1 _ rfl; (with_reducible repeat (first | refine blk_drewN ?_ _ | refine blk_drew ?_ | refine blk_alloc ?_ _)); refine blk_put (cs := #[.int .i64 0, .int .i64 0, .string (⟨#[]⟩ : ByteArray), .slice none 0 0, .slice none 0 0]) ?_ 0 _ rfl; (with_reducible repeat (first | refine blk_drewN ?_ _ | refine blk_drew ?_ | refine blk_alloc ?_ _)); exact BK242.out) hb); have n3_ := Aside0.mk (below_step (HBc GE239 GE242) hb); clear BK239; clear BK242; clear HB; have HO246 := n0_; have BK239 := n1_; have BK242 := n2_; have HB := n3_; clear n0_ n1_ n2_ n3_; (try clear hb); (try clear hb2); (try clear hk); (try clear hi); (try clear ho0); have hcz31_0 := C1z BK242; have hcz31_1 := C2z BK242; have hcz31_2 := C3z BK242; have hcz31_3 := C4z BK242; have hcz31_4 := C5z BK242; have hfz31_0 := blk_frozen BK242.out 0; have hfz31_1 := blk_frozen BK242.out 1; have hfz31_2 := blk_frozen BK242.out 2; have hfz31_3 := blk_frozen BK242.out 3; have hfz31_4 := blk_frozen BK242.out 4; obtain ⟨Ao32, co32, eo32⟩ := Kd.R_slice HO246.out; subst eo32) | (go_at_call 55; (with_reducible refine (spec_l08Right.calls k2 ((rd_T83 l0_1 x3_2).f1) _ _ t243 _ _ ((rd_T83 l0_1 x3_2).f3.f0) _ _ ((rd_T83 l0_1 x3_2).f3.f1) true _ ?side1 ?side2 ?side3 ?side4 ?side5 ?side6 A13.out).mono ?_); (case side1 => repeat (first | exact (Kd.R_reads' HO246.out).2.2 | (with_reducible refine Kd.C_alloc ?_ _) | (with_reducible refine Kd.C_drewN ?_ _) | (with_reducible refine Kd.C_drew ?_))); (case side2 => exact (Kd.R_reads' HO246.out).2.1); (case side3 => exact KCz (Kd.C_below HR241_3.out HB.out)); (case side4 => exact HC241_3.out); (case side5 => exact KCz (Kd.C_below HR241_4.out HB.out)); (case side6 => exact HC241_4.out); rintro e w33 ⟨rfl, hb⟩; have n0_ := Aside0.mk (Kd.R_below (KRz HO246) hb); have n1_ := BBz BK239 hb; have n2_ := BBz BK242 hb; have n3_ := Aside0.mk (below_step (HBc GE239 GE242) hb); clear HO246; clear BK239; clear BK242; clear HB; have HO246 := n0_; have BK239 := n1_; have BK242 := n2_; have HB := n3_; clear n0_ n1_ n2_ n3_; (try clear hb); (try clear hb2); (try clear hk); (try clear hi); have hcz34_0 := C1z BK242; have hcz34_1 := C2z BK242; have hcz34_2 := C3z BK242; have hcz34_3 := C4z BK242; have hcz34_4 := C5z BK242; have hfz34_0 := blk_frozen BK242.out 0; have hfz34_1 := blk_frozen BK242.out 1; have hfz34_2 := blk_frozen BK242.out 2; have hfz34_3 := blk_frozen BK242.out 3; have hfz34_4 := blk_frozen BK242.out 4; have hcz35_0 := C1z BK239; have hcz35_1 := C2z BK239; have hfz35_0 := blk_frozen BK239.out 0; have hfz35_1 := blk_frozen BK239.out 1))
     go_roundg k2
     case measure => have := HJ1.out; have := HK2.out; omega
     case rel => exact ⟨(wrap64 (x3_2 + 1)), EZc, H', ⟨by have := HJ1.out; have := HK2.out; omega⟩, ⟨by (with_reducible repeat (first | refine blk_drewN ?_ _ | refine blk_drew ?_ | refine blk_alloc ?_ _)); exact BK239.out⟩, ⟨by repeat (first | (with_reducible first | exact HB.out | apply below_alloc | apply pw_below_drewN | apply below_drew1 | refine below_set ?_ GE239.out | refine below_set ?_ GE242.out) | exact HB.out)⟩⟩
def laws_toRdn.f (a0_0 : ByteArray) (a0_1 : ByteArray) : Option (ByteArray × ByteArray) := some (a0_0, a0_1)
set_option maxHeartbeats 8000000 in
set_option maxRecDepth 100000 in
theorem laws_toRdn.calls (a0_0 : ByteArray) (a0_1 : ByteArray) (r1 : ByteArray) (r2 : ByteArray) (w : World) (h : laws_toRdn.f a0_0 a0_1 = some (r1, r2)) :
  Calls Tryd.prog 184 #[.agg #[.string a0_0, .string a0_1]] w fun e w' => e = .returned (.agg #[.string r1, .string r2]) ∧ Below w.heap.size w w' := by
 have hu195 := Tryd.underlying195
 have hu126 := Tryd.underlying126
 have HB := Aside0.mk (Below.refl w.heap.size w)
 have H : (some (a0_0, a0_1)) = some (r1, r2) := h
 clear h
 simp only [Option.some.injEq, Prod.mk.injEq] at H
 obtain ⟨rfl, rfl⟩ := H
 go_enter Tryd.func184, Tryd.ntmps184
 go_wp2_with (first | ((with_reducible refine gate_dst (N := 1) rfl ?_); refine box_event ?hg (N := 1) ?hd (cs := #[.string a0_0, .string a0_1]) (t := 195) ?hr ?_; (case hd => rfl); (case hg => rfl); (case hr => first | (go_simp; done) | (go_simp; rfl)); intro gb248 hg w2 hbox hb; have n0_ := Aside0.mk (below_step HBa hb); have n1_ := Aside0.mk (hbox); have n2_ := BSz w hg HBa; have n3_ := BSz w hg HBa; clear HB; have HB := n0_; have BK248 := n1_; have GW248 := n2_; have GE248 := n3_; clear n0_ n1_ n2_ n3_; clear hb hbox hg) | ((with_reducible refine gate_dst (N := 2) rfl ?_); refine box_event ?hg (N := 2) ?hd (cs := #[.string (⟨#[]⟩ : ByteArray), .string (⟨#[]⟩ : ByteArray)]) (t := 126) ?hr ?_; (case hd => rfl); (case hg => rfl); (case hr => first | (go_simp; done) | (go_simp; rfl)); intro gb249 hg w3 hbox hb; have n0_ := BBz BK248 hb; have n1_ := Aside0.mk (below_step (HBb GE248) hb); have n2_ := Aside0.mk (hbox); have n3_ := BSz w hg (HBb GE248); have n4_ := BSz w hg (HBb GE248); have n5_ := BNz BK248 hg; have n6_ := BMz BK248 hg; clear BK248; clear HB; have BK248 := n0_; have HB := n1_; have BK249 := n2_; have GW249 := n3_; have GE249 := n4_; have NB248_249 := n5_; have NB249_248 := n6_; clear n0_ n1_ n2_ n3_ n4_ n5_ n6_; clear hb hbox hg) | ((with_reducible refine gate_dst (N := 3) rfl ?_); refine box_event ?hg (N := 3) ?hd (cs := #[.string (⟨#[]⟩ : ByteArray), .string (⟨#[]⟩ : ByteArray)]) (t := 126) ?hr ?_; (case hd => rfl); (case hg => rfl); (case hr => first | (go_simp; done) | (go_simp; rfl)); intro gb250 hg w4 hbox hb; have n0_ := BBz BK248 hb; have n1_ := BBz BK249 hb; have n2_ := Aside0.mk (below_step (HBc GE248 GE249) hb); have n3_ := Aside0.mk (hbox); have n4_ := BSz w hg (HBc GE248 GE249); have n5_ := BSz w hg (HBc GE248 GE249); have n6_ := BNz BK248 hg; have n7_ := BMz BK248 hg; have n8_ := BNz BK249 hg; have n9_ := BMz BK249 hg; clear BK248; clear BK249; clear HB; have BK248 := n0_; have BK249 := n1_; have HB := n2_; have BK250 := n3_; have GW250 := n4_; have GE250 := n5_; have NB248_250 := n6_; have NB250_248 := n7_; have NB249_250 := n8_; have NB250_249 := n9_; clear n0_ n1_ n2_ n3_ n4_ n5_ n6_ n7_ n8_ n9_; clear hb hbox hg; have hnb5 := NB248_249.out; have hnc5 := NB249_248.out; have hnb6 := NB248_250.out; have hnc6 := NB250_248.out; have hcz7_0 := C1z BK248; have hcz7_1 := C2z BK248; have hfz7_0 := blk_frozen BK248.out 0; have hfz7_1 := blk_frozen BK248.out 1; have hnb8 := NB250_249.out; have hnc8 := NB249_250.out; have hcz9_0 := C1z BK250; have hcz9_1 := C2z BK250; have hfz9_0 := blk_frozen BK250.out 0; have hfz9_1 := blk_frozen BK250.out 1; have hcz10_0 := C1z BK249; have hcz10_1 := C2z BK249; have hfz10_0 := blk_frozen BK249.out 0; have hfz10_1 := blk_frozen BK249.out 1))
 refine bodyPost_ret (results_cell_row rfl _ _ gb249 126 #[.string a0_0, .string a0_1] (0, 0) _ rfl (by (with_reducible repeat (first | refine blk_drewN ?_ _ | refine blk_drew ?_ | refine blk_alloc ?_ _)); refine blk_put (cs := #[.string a0_0, .string (⟨#[]⟩ : ByteArray)]) ?_ 1 _ rfl; (with_reducible repeat (first | refine blk_drewN ?_ _ | refine blk_drew ?_ | refine blk_alloc ?_ _)); refine blk_put (cs := #[.string (⟨#[]⟩ : ByteArray), .string (⟨#[]⟩ : ByteArray)]) ?_ 0 _ rfl; (with_reducible repeat (first | refine blk_drewN ?_ _ | refine blk_drew ?_ | refine blk_alloc ?_ _)); refine blk_far ?_ NB249_250.out _; (with_reducible repeat (first | refine blk_drewN ?_ _ | refine blk_drew ?_ | refine blk_alloc ?_ _)); refine blk_far ?_ NB249_250.out _; (with_reducible repeat (first | refine blk_drewN ?_ _ | refine blk_drew ?_ | refine blk_alloc ?_ _)); exact BK249.out) Tryd.underlying126 rfl (by kernel_rfl)) rfl ?_
 exact ⟨EZa, HBd GE248 GE249 GE250⟩
def laws_toRdnS.l0 : Nat → List (S195) → List (S126) → Int → Option ((List (S126)))
 | 0, _, _, _ => none
 | k + 1, x0, x3, x4 => if x4 < (x0.length : Int) then (if 0 ≤ x4 then ((laws_toRdn.f ((rd_T195 x0 x4).f0) ((rd_T195 x0 x4).f1)).bind fun bt255 => (if x4 < (x3.length : Int) then (laws_toRdnS.l0 k x0 (x3.set (x4 : Int).toNat (⟨bt255.1, bt255.2⟩ : S126)) (wrap64 (x4 + 1))) else (none))) else (none)) else (some x3)
def laws_toRdnS.f (k : Nat) (l0 : List (S195)) : Option ((List (S126))) := if 0 ≤ (l0.length : Int) then (if ((l0.length : Int) : Int).toNat ≤ 8796093022208 then (laws_toRdnS.l0 k l0 (List.replicate ((l0.length : Int) : Int).toNat z126) 0) else (none)) else (none)
theorem laws_toRdnS.mono_l : ∀ k, (∀ y0 y1 y2, LeO (laws_toRdnS.l0 k y0 y1 y2) (laws_toRdnS.l0 (k + 1) y0 y1 y2))
 | 0 => fun _ _ _ r h => by simp [laws_toRdnS.l0] at h
 | k + 1 => by
  have ih0 := laws_toRdnS.mono_l k
  ·intro y0 y1 y2
   unfold laws_toRdnS.l0
   repeat' first
   | (with_reducible exact ih0 _ _ _)
   | (with_reducible exact LeO.refl _)
   | (with_reducible exact LeO.none _)
   | (with_reducible refine LeO.ite ?_ ?_)
   | (with_reducible refine LeO.bind ?_ (fun _ => ?_))
   | exact ih0 _ _ _
   | exact LeO.none _
   | refine LeO.ite ?_ ?_
   | refine LeO.bind ?_ (fun _ => ?_)
theorem laws_toRdnS.mono : ∀ a0 k, LeO (laws_toRdnS.f k a0) (laws_toRdnS.f (k + 1) a0) := by
 intro a0 k
 have ih0 := laws_toRdnS.mono_l k
 unfold laws_toRdnS.f
 repeat' first
   | (with_reducible exact ih0 _ _ _)
   | (with_reducible exact LeO.refl _)
   | (with_reducible exact LeO.none _)
   | (with_reducible refine LeO.ite ?_ ?_)
   | (with_reducible refine LeO.bind ?_ (fun _ => ?_))
   | exact ih0 _ _ _
   | exact LeO.none _
   | refine LeO.ite ?_ ?_
   | refine LeO.bind ?_ (fun _ => ?_)
set_option maxHeartbeats 8000000 in
set_option maxRecDepth 100000 in
theorem laws_toRdnS.calls (k : Nat) (A0 : Option Addr) (c0 : Nat) (l0 : List (S195)) (r : List (S126)) (w : World) (hr0 : Kd.C k195 w A0 l0.length l0) (hc0 : l0.length ≤ c0) (h : laws_toRdnS.f k l0 = some r) :
  Calls Tryd.prog 156 #[.slice A0 l0.length c0] w fun e w' => ∃ v0_ : Value, e = .returned (v0_) ∧ Kd.R k126 126 w' w.heap.size (fun _ => True) v0_ r ∧ Below w.heap.size w w' := by
 have hu195 := Tryd.underlying195
 have hu126 := Tryd.underlying126
 have HR0 := Aside0.mk hr0
 have HC0 := Aside0.mk hc0
 clear hr0 hc0
 have HB := Aside0.mk (Below.refl w.heap.size w)
 have H : (if 0 ≤ (l0.length : Int) then (if ((l0.length : Int) : Int).toNat ≤ 8796093022208 then (laws_toRdnS.l0 k l0 (List.replicate ((l0.length : Int) : Int).toNat z126) 0) else (none)) else (none)) = some r := h
 clear h
 by_cases c2 : 0 ≤ (l0.length : Int)
 rotate_left
 ·rw [if_neg c2] at H
  exact absurd H (by simp)
 rw [if_pos c2] at H
 have c2b0 := eq_true c2
 have c2b1 : decide (0 ≤ (l0.length : Int)) = true := decide_eq_true c2
 clear c2
 by_cases c3 : ((l0.length : Int) : Int).toNat ≤ 8796093022208
 rotate_left
 ·rw [if_neg c3] at H
  exact absurd H (by simp)
 rw [if_pos c3] at H
 have c3b0 := eq_true c3
 have c3b1 : decide (((l0.length : Int) : Int).toNat ≤ 8796093022208) = true := decide_eq_true c3
 clear c3
 obtain ⟨y251, hy251⟩ : ∃ y_ : List (S126), y_ = (List.replicate ((l0.length : Int) : Int).toNat z126) := ⟨_, rfl⟩
 replace H : (laws_toRdnS.l0 k l0 y251 0) = some r := by first | (rw [hy251]; with_reducible exact H) | (have H2_ := (Option.bind_some _ _).symm.trans H; rw [hy251]; with_reducible exact H2_) | (have H2_ := (Option.bind_some _ _).symm.trans H; with_reducible exact H2_) | with_reducible exact H | (rw [hy251]; exact H) | exact H
 have Ny251 := Aside0.mk hy251
 clear hy251
 have H' := Aside0.mk H
 clear H
 go_enter Tryd.func156, Tryd.ntmps156
 go_wp2_with (first | ((with_reducible refine gate_dst (N := 7) rfl ?_); refine Kd.R_make k126 _ 126 rfl (N := 7) rfl 78 _ _ rfl (l0.length : Int) rfl rfl Tryd.underlying78 (.agg #[(.string ⟨#[]⟩), (.string ⟨#[]⟩)]) 32 info126 rfl (by decide) (by omega) z126 (ok := fun _ => True) (okp := fun _ => True) (k126_mkM _ _ _ z126 ) (fun _ hk => hk) trivial (ODz) (Nat.le_trans (Nat.mul_le_mul_right _ (ODz : (l0.length : Int).toNat ≤ 8796093022208)) (by omega)) (Below.refl _ _) (Nat.le_refl _) ?_; intro v252 w4 ho5 hb hg_ hnew_; clear hg_ hnew_; (first | rw [← Ny251.out] at ho5 | (simp only [Int.reduceToNat] at ho5; rw [← Ny251.out] at ho5)); have n0_ := Aside0.mk (Kd.R_lower ho5 (below_size HBa)); have n1_ := Aside0.mk (below_step HBa hb); clear HB; have HO253 := n0_; have HB := n1_; clear n0_ n1_; clear hb ho5))
 go_loopg [4] k (fun kq v4 w' => ∃ (x3_1 : List (S126)) (x4_1 : Int), v4 = .int .i64 x4_1 ∧ Aside0 (laws_toRdnS.l0 kq l0 x3_1 x4_1 = some r) ∧ Aside0 (kq ≤ k) ∧ Aside0 (Kd.R k126 126 w' w.heap.size (fun _ => True) v252 x3_1) ∧ Aside0 (Below w.heap.size w w'))
 case atStart => exact ⟨(y251), (0), EZc, H', ⟨Nat.le_refl _⟩, ⟨by (with_reducible repeat (first | apply Kd.R_alloc | apply Kd.R_drewN | apply Kd.R_drew)); exact HO253.out⟩, ⟨HBa⟩⟩
 case round =>
  clear H'
  try clear c1
  try clear c2
  try clear c2b0
  try clear c2b1
  try clear p2
  try clear c3
  try clear c3b0
  try clear c3b1
  obtain ⟨x3_1, x4_1, rfl, HA, HK1, HO_3, HB⟩ := hrel
  cases gk with
  | zero => exact absurd HA.out (by simp [laws_toRdnS.l0])
  | succ k1 =>
   have H := HA.out
   clear HA
   simp only [laws_toRdnS.l0] at H
   by_cases c6 : x4_1 < (l0.length : Int)
   rotate_left
   ·rw [if_neg c6] at H
    have c6b0 : decide (x4_1 < (l0.length : Int)) = false := decide_eq_false c6
    clear c6
    obtain rfl := Option.some.inj H
    go_wp2
    go_ret
    exact ⟨_, EZa, by (with_reducible repeat (first | apply Kd.R_alloc | apply Kd.R_drewN | apply Kd.R_drew)); exact HO_3.out, HBa⟩
   rw [if_pos c6] at H
   have c6b0 : decide (x4_1 < (l0.length : Int)) = true := decide_eq_true c6
   clear c6
   by_cases c7 : 0 ≤ x4_1
   rotate_left
   ·rw [if_neg c7] at H
    exact absurd H (by simp)
   rw [if_pos c7] at H
   have c7b0 : decide (0 ≤ x4_1) = true := decide_eq_true c7
   clear c7
   replace H := Option.bind_eq_some_iff.mp H
   obtain ⟨⟨t255, t256⟩, A80, H⟩ := H
   replace H : (if x4_1 < (x3_1.length : Int) then (laws_toRdnS.l0 k1 l0 (x3_1.set (x4_1 : Int).toNat (⟨t255, t256⟩ : S126)) (wrap64 (x4_1 + 1))) else (none)) = some r := H
   have A8 := Aside0.mk A80
   clear A80
   by_cases c9 : x4_1 < (x3_1.length : Int)
   rotate_left
   ·rw [if_neg c9] at H
    exact absurd H (by simp)
   rw [if_pos c9] at H
   have c9b0 : decide (x4_1 < (x3_1.length : Int)) = true := decide_eq_true c9
   clear c9
   obtain ⟨y257, hy257⟩ : ∃ y_ : List (S126), y_ = (x3_1.set (x4_1 : Int).toNat (⟨t255, t256⟩ : S126)) := ⟨_, rfl⟩
   replace H : (laws_toRdnS.l0 k1 l0 y257 (wrap64 (x4_1 + 1))) = some r := by first | (rw [hy257]; with_reducible exact H) | (have H2_ := (Option.bind_some _ _).symm.trans H; rw [hy257]; with_reducible exact H2_) | (have H2_ := (Option.bind_some _ _).symm.trans H; with_reducible exact H2_) | with_reducible exact H | (rw [hy257]; exact H) | exact H
   have Ny257 := Aside0.mk hy257
   clear hy257
   have H' := Aside0.mk H
   clear H
   have p254 : 0 ≤ (x4_1 : Int) := ODz
   have q254 : x4_1 < (l0.length : Int) := ODz
   obtain ⟨ad254, e254, hx254_0, hx254_1⟩ := at_T195 HR0.out x4_1 p254 q254
   cases e254
   replace hx254_0 := HXz HB hx254_0
   replace hx254_1 := HXz HB hx254_1
   replace p254 := eq_true p254
   replace q254 := eq_true q254
   go_wp2_with (first | ((with_reducible refine gate_callee (f := 184) rfl ?_); refine goesL_ (some 20) rfl rfl Tryd.func184 (by kernel_rfl) rfl #[.agg #[.string ((rd_T195 l0 x4_1).f0), .string ((rd_T195 l0 x4_1).f1)]] rfl MPz ?_; (with_reducible refine (laws_toRdn.calls ((rd_T195 l0 x4_1).f0) ((rd_T195 l0 x4_1).f1) t255 t256 _ A8.out).mono ?_); rintro e w11 ⟨rfl, hb⟩; refine ⟨_, rfl, ?_⟩; have n0_ := Aside0.mk (Kd.R_below (KRz HO_3) hb); have n1_ := Aside0.mk (below_step HBa hb); clear HO_3; clear HB; have HO_3 := n0_; have HB := n1_; clear n0_ n1_; (try clear hb); (try clear hb2); (try clear hk); (try clear hi); have p10 : 0 ≤ (x4_1 : Int) := ODz; have q10 : (x4_1 : Int) < ((x3_1.length : Int) : Int) := ODz; obtain ⟨go10, co10, eo10, gb10, gl10, cl10, HG10⟩ := Kd.R_form HO_3.out (by omega); (first | cases eo10 | (injection eo10 with ea_ en_ ec_; (first | subst ea_ | (injection ea_ with ea_; subst ea_)); subst ec_; clear en_)); have GB10 := Aside0.mk gb10; have GG10 := Aside0.mk HG10; clear gb10 gl10 HG10; obtain ⟨ce10, hcl10, hM10, hcc10, hfr10⟩ := Kd.R_elem HO_3.out z126 (x4_1 : Int) p10 q10; obtain rfl := k126_openM hM10; have hx10_0 : w11.cell? ⟨go10, (x4_1 : Int).toNat * 2, none⟩ = some (.string ((rd_T126 x3_1 x4_1).f0)) := hcc10 0 _ rfl; have hx10_1 : w11.cell? ⟨go10, (x4_1 : Int).toNat * 2 + 1, none⟩ = some (.string ((rd_T126 x3_1 x4_1).f1)) := hcc10 1 _ rfl; have hf10_0 : w11.frozen? ⟨go10, (x4_1 : Int).toNat * 2, none⟩ = false := hfr10 0; have hf10_1 : w11.frozen? ⟨go10, (x4_1 : Int).toNat * 2 + 1, none⟩ = false := hfr10 1; clear hcl10 hcc10 hfr10 hM10; replace p10 := eq_true p10; replace q10 := eq_true q10; have HX12 := Aside0.mk (show Kd.R k126 126 w11 w.heap.size (fun _ => True) (.slice (some ⟨go10, 0, none⟩) x3_1.length co10) x3_1 from (KRz HO_3)); obtain ⟨ce12, hcl12, hM12, hcc12, hfr12⟩ := Kd.R_elem HX12.out z126 (x4_1 : Int) (ODz) (by have h_ : (x4_1 : Int) < ((x3_1.length : Int) : Int) := ODz; first | exact h_ | (have e_ := (Kd.R_reads' HO_3.out).1; omega) | simpa using h_); obtain rfl := k126_openM hM12; have HP12 := Kd.R_seg HX12.out (x4_1 : Int) (ODz) (by have h_ : (x4_1 : Int) < ((x3_1.length : Int) : Int) := ODz; first | exact h_ | (have e_ := (Kd.R_reads' HO_3.out).1; omega) | simpa using h_) (seg := [.string t255, .string t256]) (j := 0) hcl12 hcc12 (show 2 ≤ 2 from by decide) (x' := (⟨t255, t256⟩ : S126)) (k126_mkM _ _ _ (⟨t255, t256⟩ : S126) ) (fun _ hk => hk); have hx12_0 := hcc12 0 _ rfl; (try simp only [show (k126).sz = 2 from rfl, Nat.mul_one, Nat.add_zero] at hx12_0); have hf12_0 := hfr12 0; (try simp only [show (k126).sz = 2 from rfl, Nat.mul_one, Nat.add_zero] at hf12_0); have hx12_1 := hcc12 1 _ rfl; (try simp only [show (k126).sz = 2 from rfl, Nat.mul_one, Nat.add_zero] at hx12_1); have hf12_1 := hfr12 1; (try simp only [show (k126).sz = 2 from rfl, Nat.mul_one, Nat.add_zero] at hf12_1); clear hcl12 hcc12 hfr12 hM12) | ((with_reducible refine gate_store (t := 126) (p := 21) rfl ?_); refine store_event (t := 126) (p := 21) (v := ?vo_w13) (w1 := ((w11.setCell ⟨go10, (x4_1 : Int).toNat * 2, none⟩ (.string t255)).setCell ⟨go10, (x4_1 : Int).toNat * 2 + 1, none⟩ (.string t256))) ?hg ?ho ?hn ?hr ?_; (case ho => rfl); (case hg => rfl); (case hn => rfl); (case hr => first | (go_simp; done) | (go_simp; rfl)); intro w13 hw; have hg : w11.grownBy w13 (some go10) := (by rw [hw]; exact HP12.2); have hp_ : Kd.R k126 126 w13 w.heap.size (fun _ => True) (.slice (some ⟨go10, 0, none⟩) x3_1.length co10) y257 := (by rw [hw, Ny257.out]; exact HP12.1); clear HP12; have n0_ := Aside0.mk (hp_); have n1_ := Aside0.mk ((by rw [hw]; exact below_set (below_set (HB.out) GB10.out) GB10.out : Below w.heap.size w w13)); clear HO_3; clear HB; have HO_3 := n0_; have HB := n1_; clear n0_ n1_; clear hg hw hp_))
   go_roundg k1
   case measure => have := HK1.out; omega
   case rel => exact ⟨(y257), (wrap64 (x4_1 + 1)), EZc, H', ⟨by have := HK1.out; omega⟩, ⟨by (with_reducible repeat (first | apply Kd.R_alloc | apply Kd.R_drewN | apply Kd.R_drew)); exact HO_3.out⟩, ⟨HBa⟩⟩
end Go.Proofs.YtgkjlfimjnhbbaaDoor.PFnExactChangesRight
