-- Laid by this session's own program out of the translation; Lean checks it.
import Derived.Test.YtdbboelacgehoaaDoorQFnExactAllowedx0
import Derived.Test.YtdbboelacgehoaaDoorQFnExactAllowedx3
import Derived.Test.YtdbboelacgehoaaDoorQFnExactAllowedx5
import Derived.Test.YtdbboelacgehoaaDoorQFnExactAllowedx6
import Derived.Test.YtdbboelacgehoaaDoorLayTrim
namespace Go.Proofs.YtdbboelacgehoaaDoor.PFnExactAllowed
open Go.RowKit Go.Proofs.YtdbboelacgehoaaDoorW.PrintWords Go.Proofs.YtdbboelacgehoaaDoorW.PrintLast Go.Proofs.YtdbboelacgehoaaDoorW.PrintMore
attribute [local go_sem] max2_int min2_int max_two min_two max_three min_three max_four min_four   -- for this text's walks alone
set_option linter.unusedVariables false
set_option linter.unusedSimpArgs false
def spec_l06Allowed.l0 : Nat → List (S106) → ByteArray → List (S42) → ByteArray → Int → Int → Option (Bool)
 | 0, _, _, _, _, _, _ => none
 | k + 1, x0, x1, x2, x3, x4, x11 => if x11 < (x0.length : Int) then (if 0 ≤ x11 then (if ((rd_T106 x0 x11).f0).toList = ([42] : List UInt8) then (if ((rd_T106 x0 x11).f3) = x4 then ((spec_DnUnder.f k x2 ((rd_T106 x0 x11).f1)).bind fun t217 => (if t217 = true then (if (((rd_T106 x0 x11).f2).length : Int) = 0 then (some ((rd_T106 x0 x11).f4)) else ((spec_l04Has.f k ((rd_T106 x0 x11).f2) x3).bind fun t218 => (if t218 = true then (some ((rd_T106 x0 x11).f4)) else (spec_l06Allowed.l0 k x0 x1 x2 x3 x4 (wrap64 (x11 + 1)))))) else (spec_l06Allowed.l0 k x0 x1 x2 x3 x4 (wrap64 (x11 + 1))))) else (spec_l06Allowed.l0 k x0 x1 x2 x3 x4 (wrap64 (x11 + 1)))) else (if ((rd_T106 x0 x11).f0).toList = x1.toList then (if ((rd_T106 x0 x11).f3) = x4 then ((spec_DnUnder.f k x2 ((rd_T106 x0 x11).f1)).bind fun t219 => (if t219 = true then (if (((rd_T106 x0 x11).f2).length : Int) = 0 then (some ((rd_T106 x0 x11).f4)) else ((spec_l04Has.f k ((rd_T106 x0 x11).f2) x3).bind fun t220 => (if t220 = true then (some ((rd_T106 x0 x11).f4)) else (spec_l06Allowed.l0 k x0 x1 x2 x3 x4 (wrap64 (x11 + 1)))))) else (spec_l06Allowed.l0 k x0 x1 x2 x3 x4 (wrap64 (x11 + 1))))) else (spec_l06Allowed.l0 k x0 x1 x2 x3 x4 (wrap64 (x11 + 1)))) else (spec_l06Allowed.l0 k x0 x1 x2 x3 x4 (wrap64 (x11 + 1))))) else (none)) else (some false)
def spec_l06Allowed.f (k : Nat) (l0 : List (S106)) (a1 : ByteArray) (l2 : List (S42)) (a3 : ByteArray) (a4 : Int) : Option (Bool) := spec_l06Allowed.l0 k l0 a1 l2 a3 a4 0
theorem spec_l06Allowed.mono_l : ∀ k, (∀ y0 y1 y2 y3 y4 y5, LeO (spec_l06Allowed.l0 k y0 y1 y2 y3 y4 y5) (spec_l06Allowed.l0 (k + 1) y0 y1 y2 y3 y4 y5))
 | 0 => fun _ _ _ _ _ _ r h => by simp [spec_l06Allowed.l0] at h
 | k + 1 => by
  have ih0 := spec_l06Allowed.mono_l k
  ·intro y0 y1 y2 y3 y4 y5
   unfold spec_l06Allowed.l0
   repeat' first
   | (with_reducible exact ih0 _ _ _ _ _ _)
   | (with_reducible exact spec_DnUnder.mono _ _ _)
   | (with_reducible exact spec_l04Has.mono _ _ _)
   | (with_reducible exact LeO.refl _)
   | (with_reducible exact LeO.none _)
   | (with_reducible refine LeO.ite ?_ ?_)
   | (with_reducible refine LeO.bind ?_ (fun _ => ?_))
   | exact ih0 _ _ _ _ _ _
   | exact spec_DnUnder.mono _ _ _
   | exact spec_l04Has.mono _ _ _
   | exact LeO.none _
   | refine LeO.ite ?_ ?_
   | refine LeO.bind ?_ (fun _ => ?_)
theorem spec_l06Allowed.mono : ∀ a0 a1 a2 a3 a4 k, LeO (spec_l06Allowed.f k a0 a1 a2 a3 a4) (spec_l06Allowed.f (k + 1) a0 a1 a2 a3 a4) := by
 intro a0 a1 a2 a3 a4 k
 have ih0 := spec_l06Allowed.mono_l k
 unfold spec_l06Allowed.f
 repeat' first
   | (with_reducible exact ih0 _ _ _ _ _ _)
   | (with_reducible exact spec_DnUnder.mono _ _ _)
   | (with_reducible exact spec_l04Has.mono _ _ _)
   | (with_reducible exact LeO.refl _)
   | (with_reducible exact LeO.none _)
   | (with_reducible refine LeO.ite ?_ ?_)
   | (with_reducible refine LeO.bind ?_ (fun _ => ?_))
   | exact ih0 _ _ _ _ _ _
   | exact spec_DnUnder.mono _ _ _
   | exact spec_l04Has.mono _ _ _
   | exact LeO.none _
   | refine LeO.ite ?_ ?_
   | refine LeO.bind ?_ (fun _ => ?_)
set_option maxHeartbeats 8000000 in
set_option maxRecDepth 100000 in
theorem spec_l06Allowed.calls (k : Nat) (A0 : Option Addr) (c0 : Nat) (l0 : List (S106)) (a1 : ByteArray) (A2 : Option Addr) (c2 : Nat) (l2 : List (S42)) (a3 : ByteArray) (a4 : Int) (r : Bool) (w : World) (hr0 : Kd.C k106 w A0 l0.length l0) (hc0 : l0.length ≤ c0) (hr2 : Kd.C k42 w A2 l2.length l2) (hc2 : l2.length ≤ c2) (h : spec_l06Allowed.f k l0 a1 l2 a3 a4 = some r) :
  Calls Tryd.prog 114 #[.slice A0 l0.length c0, .string a1, .slice A2 l2.length c2, .string a3, .int .i64 a4] w fun e w' => e = .returned (.bool r) ∧ Below w.heap.size w w' := by
 have hu106 := Tryd.underlying106
 have HR0 := Aside0.mk hr0
 have HC0 := Aside0.mk hc0
 clear hr0 hc0
 have HR2 := Aside0.mk hr2
 have HC2 := Aside0.mk hc2
 clear hr2 hc2
 have HB := Aside0.mk (Below.refl w.heap.size w)
 have H : (spec_l06Allowed.l0 k l0 a1 l2 a3 a4 0) = some r := h
 clear h
 have H' := Aside0.mk H
 clear H
 go_enter Tryd.func114, Tryd.ntmps114
 go_wp2
 go_loopg [11] k (fun kq v11 w' => ∃ (x11_1 : Int), v11 = .int .i64 x11_1 ∧ Aside0 (spec_l06Allowed.l0 kq l0 a1 l2 a3 a4 x11_1 = some r) ∧ Aside0 (kq ≤ k) ∧ Aside0 (Below w.heap.size w w'))
 case atStart => exact ⟨(0), EZc, H', ⟨Nat.le_refl _⟩, ⟨HBa⟩⟩
 case round =>
  clear H'
  try clear c1
  try clear c2
  try clear p2
  obtain ⟨x11_1, rfl, HA, HK1, HB⟩ := hrel
  cases gk with
  | zero => exact absurd HA.out (by simp [spec_l06Allowed.l0])
  | succ k1 =>
   have H := HA.out
   clear HA
   simp only [spec_l06Allowed.l0] at H
   by_cases c6 : x11_1 < (l0.length : Int)
   ·rw [if_pos c6] at H
    have c6b0 : decide (x11_1 < (l0.length : Int)) = true := decide_eq_true c6
    clear c6
    by_cases c7 : 0 ≤ x11_1
    ·rw [if_pos c7] at H
     have c7b0 : decide (0 ≤ x11_1) = true := decide_eq_true c7
     clear c7
     by_cases c8 : ((rd_T106 l0 x11_1).f0).toList = ([42] : List UInt8)
     ·rw [if_pos c8] at H
      have c8b0 : (((rd_T106 l0 x11_1).f0).toList == ([42] : List UInt8)) = true := beq_iff_eq.mpr c8
      have c8b1 : (((rd_T106 l0 x11_1).f0).toList != ([42] : List UInt8)) = false := bne_eq_false_iff_eq.mpr c8
      clear c8
      by_cases c9 : ((rd_T106 l0 x11_1).f3) = a4
      ·rw [if_pos c9] at H
       have c9b0 : (((rd_T106 l0 x11_1).f3) == a4) = true := beq_iff_eq.mpr c9
       have c9b1 : (((rd_T106 l0 x11_1).f3) != a4) = false := bne_eq_false_iff_eq.mpr c9
       clear c9
       replace H := Option.bind_eq_some_iff.mp H
       obtain ⟨t217, A100, H⟩ := H
       replace H : (if t217 = true then (if (((rd_T106 l0 x11_1).f2).length : Int) = 0 then (some ((rd_T106 l0 x11_1).f4)) else ((spec_l04Has.f k1 ((rd_T106 l0 x11_1).f2) a3).bind fun t218 => (if t218 = true then (some ((rd_T106 l0 x11_1).f4)) else (spec_l06Allowed.l0 k1 l0 a1 l2 a3 a4 (wrap64 (x11_1 + 1)))))) else (spec_l06Allowed.l0 k1 l0 a1 l2 a3 a4 (wrap64 (x11_1 + 1)))) = some r := H
       have A10 := Aside0.mk A100
       clear A100
       by_cases c11 : t217 = true
       ·subst c11
        have H1 : (if (((rd_T106 l0 x11_1).f2).length : Int) = 0 then (some ((rd_T106 l0 x11_1).f4)) else ((spec_l04Has.f k1 ((rd_T106 l0 x11_1).f2) a3).bind fun t218 => (if t218 = true then (some ((rd_T106 l0 x11_1).f4)) else (spec_l06Allowed.l0 k1 l0 a1 l2 a3 a4 (wrap64 (x11_1 + 1)))))) = some r := by rw [if_pos rfl] at H; exact H
        clear H
        have H := H1
        clear H1
        by_cases c12 : (((rd_T106 l0 x11_1).f2).length : Int) = 0
        ·rw [if_pos c12] at H
         have c12b0 : ((((rd_T106 l0 x11_1).f2).length : Int) == 0) = true := beq_iff_eq.mpr c12
         have c12b1 : ((((rd_T106 l0 x11_1).f2).length : Int) != 0) = false := bne_eq_false_iff_eq.mpr c12
         clear c12
         obtain rfl := Option.some.inj H
         have p215 : 0 ≤ (x11_1 : Int) := ODz
         have q215 : x11_1 < (l0.length : Int) := ODz
         obtain ⟨ad215, A215_1, c215_1, A215_2, c215_2, e215, hx215_0, hx215_1, hx215_2, hx215_3, hx215_4, hl215_1, hi215_1, hl215_2, hi215_2⟩ := at_T106 HR0.out x11_1 p215 q215
         cases e215
         replace hx215_0 := (HB.out.cell (World.block_lt_of_cell? w _ hx215_0)).trans hx215_0
         replace hx215_1 := (HB.out.cell (World.block_lt_of_cell? w _ hx215_1)).trans hx215_1
         replace hx215_2 := (HB.out.cell (World.block_lt_of_cell? w _ hx215_2)).trans hx215_2
         replace hx215_3 := (HB.out.cell (World.block_lt_of_cell? w _ hx215_3)).trans hx215_3
         replace hx215_4 := (HB.out.cell (World.block_lt_of_cell? w _ hx215_4)).trans hx215_4
         have HR215_1 := Aside0.mk hi215_1
         have HC215_1 := Aside0.mk hl215_1
         clear hi215_1 hl215_1
         have HR215_2 := Aside0.mk hi215_2
         have HC215_2 := Aside0.mk hl215_2
         clear hi215_2 hl215_2
         replace p215 := eq_true p215
         replace q215 := eq_true q215
         go_wp2_with (first | ((with_reducible refine gate_dst (N := 12) rfl ?_); (try (refine gate_guard (by rfl) ?_; dsimp only)); refine box_event ?hg (N := 12) ?hd (cs := #[.string (⟨#[]⟩ : ByteArray), .slice none 0 0, .slice none 0 0, .int .i64 0, .bool false]) (t := 106) ?hr ?_; (case hd => rfl); (case hg => rfl); (case hr => first | (go_simp; done) | (go_simp; rfl)); intro gb216 hg w13 hbox hb; have n0_ := Aside0.mk (below_step HBa hb); have n1_ := Aside0.mk (hbox); have n2_ := Aside0.mk ((by rw [hg]; exact (below_size HBa) : w.heap.size ≤ gb216)); have n3_ := Aside0.mk ((by rw [hg]; exact (below_size HBa) : w.heap.size ≤ gb216)); clear HB; have HB := n0_; have BK216 := n1_; have GW216 := n2_; have GE216 := n3_; clear n0_ n1_ n2_ n3_; clear hb hbox hg; have hcz14_0 : w13.cell? ⟨gb216, 0, none⟩ = some (.string (⟨#[]⟩ : ByteArray)) := (blk_cell BK216.out 0).trans rfl; have hcz14_1 : w13.cell? ⟨gb216, 1, none⟩ = some (.slice none 0 0) := (blk_cell BK216.out 1).trans rfl; have hcz14_2 : w13.cell? ⟨gb216, 2, none⟩ = some (.slice none 0 0) := (blk_cell BK216.out 2).trans rfl; have hcz14_3 : w13.cell? ⟨gb216, 3, none⟩ = some (.int .i64 0) := (blk_cell BK216.out 3).trans rfl; have hcz14_4 : w13.cell? ⟨gb216, 4, none⟩ = some (.bool false) := (blk_cell BK216.out 4).trans rfl; have hfz14_0 := blk_frozen BK216.out 0; have hfz14_1 := blk_frozen BK216.out 1; have hfz14_2 := blk_frozen BK216.out 2; have hfz14_3 := blk_frozen BK216.out 3; have hfz14_4 := blk_frozen BK216.out 4) | (go_at_call 29; (with_reducible refine (spec_DnUnder.calls k1 _ _ l2 _ _ ((rd_T106 l0 x11_1).f1) true _ ?side1 ?side2 ?side3 ?side4 A10.out).mono ?_); (case side1 => exact Kd.C_below HR2.out (HBb GE216)); (case side2 => exact HC2.out); (case side3 => exact Kd.C_below HR215_1.out (HBb GE216)); (case side4 => exact HC215_1.out); rintro e w15 ⟨rfl, hb⟩; have n0_ := Aside0.mk (blk_below (g := gb216) (o := .cells #[.string ((rd_T106 l0 x11_1).f0), .slice A215_1 ((rd_T106 l0 x11_1).f1).length c215_1, .slice A215_2 ((rd_T106 l0 x11_1).f2).length c215_2, .int .i64 ((rd_T106 l0 x11_1).f3), .bool ((rd_T106 l0 x11_1).f4)] 106 (0, 0)) (by (with_reducible repeat (first | refine blk_drewN ?_ _ | refine blk_drew ?_ | refine blk_alloc ?_ _)); refine blk_put (cs := #[.string ((rd_T106 l0 x11_1).f0), .slice A215_1 ((rd_T106 l0 x11_1).f1).length c215_1, .slice A215_2 ((rd_T106 l0 x11_1).f2).length c215_2, .int .i64 ((rd_T106 l0 x11_1).f3), .bool false]) ?_ 4 _ rfl; (with_reducible repeat (first | refine blk_drewN ?_ _ | refine blk_drew ?_ | refine blk_alloc ?_ _)); refine blk_put (cs := #[.string ((rd_T106 l0 x11_1).f0), .slice A215_1 ((rd_T106 l0 x11_1).f1).length c215_1, .slice A215_2 ((rd_T106 l0 x11_1).f2).length c215_2, .int .i64 0, .bool false]) ?_ 3 _ rfl; (with_reducible repeat (first | refine blk_drewN ?_ _ | refine blk_drew ?_ | refine blk_alloc ?_ _)); refine blk_put (cs := #[.string ((rd_T106 l0 x11_1).f0), .slice A215_1 ((rd_T106 l0 x11_1).f1).length c215_1, .slice none 0 0, .int .i64 0, .bool false]) ?_ 2 _ rfl; (with_reducible repeat (first | refine blk_drewN ?_ _ | refine blk_drew ?_ | refine blk_alloc ?_ _)); refine blk_put (cs := #[.string ((rd_T106 l0 x11_1).f0), .slice none 0 0, .slice none 0 0, .int .i64 0, .bool false]) ?_ 1 _ rfl; (with_reducible repeat (first | refine blk_drewN ?_ _ | refine blk_drew ?_ | refine blk_alloc ?_ _)); refine blk_put (cs := #[.string (⟨#[]⟩ : ByteArray), .slice none 0 0, .slice none 0 0, .int .i64 0, .bool false]) ?_ 0 _ rfl; (with_reducible repeat (first | refine blk_drewN ?_ _ | refine blk_drew ?_ | refine blk_alloc ?_ _)); exact BK216.out) hb); have n1_ := Aside0.mk (below_step (HBb GE216) hb); clear BK216; clear HB; have BK216 := n0_; have HB := n1_; clear n0_ n1_; (try clear hb); (try clear hb2); (try clear hk); (try clear hi); have hcz16_0 : w15.cell? ⟨gb216, 0, none⟩ = some (.string ((rd_T106 l0 x11_1).f0)) := (blk_cell BK216.out 0).trans rfl; have hcz16_1 : w15.cell? ⟨gb216, 1, none⟩ = some (.slice A215_1 ((rd_T106 l0 x11_1).f1).length c215_1) := (blk_cell BK216.out 1).trans rfl; have hcz16_2 : w15.cell? ⟨gb216, 2, none⟩ = some (.slice A215_2 ((rd_T106 l0 x11_1).f2).length c215_2) := (blk_cell BK216.out 2).trans rfl; have hcz16_3 : w15.cell? ⟨gb216, 3, none⟩ = some (.int .i64 ((rd_T106 l0 x11_1).f3)) := (blk_cell BK216.out 3).trans rfl; have hcz16_4 : w15.cell? ⟨gb216, 4, none⟩ = some (.bool ((rd_T106 l0 x11_1).f4)) := (blk_cell BK216.out 4).trans rfl; have hfz16_0 := blk_frozen BK216.out 0; have hfz16_1 := blk_frozen BK216.out 1; have hfz16_2 := blk_frozen BK216.out 2; have hfz16_3 := blk_frozen BK216.out 3; have hfz16_4 := blk_frozen BK216.out 4))
         go_ret
         exact ⟨EZa, HBb GE216⟩
        ·rw [if_neg c12] at H
         have c12b0 : ((((rd_T106 l0 x11_1).f2).length : Int) == 0) = false := beq_eq_false_iff_ne.mpr c12
         have c12b1 : ((((rd_T106 l0 x11_1).f2).length : Int) != 0) = true := bne_iff_ne.mpr c12
         have c12b2 : ¬ (((rd_T106 l0 x11_1).f2) = []) := fun h_ => c12 (by rw [h_]; rfl)
         replace H := Option.bind_eq_some_iff.mp H
         obtain ⟨t218, A170, H⟩ := H
         replace H : (if t218 = true then (some ((rd_T106 l0 x11_1).f4)) else (spec_l06Allowed.l0 k1 l0 a1 l2 a3 a4 (wrap64 (x11_1 + 1)))) = some r := H
         have A17 := Aside0.mk A170
         clear A170
         by_cases c18 : t218 = true
         ·subst c18
          have H1 : (some ((rd_T106 l0 x11_1).f4)) = some r := by rw [if_pos rfl] at H; exact H
          clear H
          have H := H1
          clear H1
          obtain rfl := Option.some.inj H
          have p215 : 0 ≤ (x11_1 : Int) := ODz
          have q215 : x11_1 < (l0.length : Int) := ODz
          obtain ⟨ad215, A215_1, c215_1, A215_2, c215_2, e215, hx215_0, hx215_1, hx215_2, hx215_3, hx215_4, hl215_1, hi215_1, hl215_2, hi215_2⟩ := at_T106 HR0.out x11_1 p215 q215
          cases e215
          replace hx215_0 := (HB.out.cell (World.block_lt_of_cell? w _ hx215_0)).trans hx215_0
          replace hx215_1 := (HB.out.cell (World.block_lt_of_cell? w _ hx215_1)).trans hx215_1
          replace hx215_2 := (HB.out.cell (World.block_lt_of_cell? w _ hx215_2)).trans hx215_2
          replace hx215_3 := (HB.out.cell (World.block_lt_of_cell? w _ hx215_3)).trans hx215_3
          replace hx215_4 := (HB.out.cell (World.block_lt_of_cell? w _ hx215_4)).trans hx215_4
          have HR215_1 := Aside0.mk hi215_1
          have HC215_1 := Aside0.mk hl215_1
          clear hi215_1 hl215_1
          have HR215_2 := Aside0.mk hi215_2
          have HC215_2 := Aside0.mk hl215_2
          clear hi215_2 hl215_2
          replace p215 := eq_true p215
          replace q215 := eq_true q215
          go_wp2_with (first | ((with_reducible refine gate_dst (N := 12) rfl ?_); (try (refine gate_guard (by rfl) ?_; dsimp only)); refine box_event ?hg (N := 12) ?hd (cs := #[.string (⟨#[]⟩ : ByteArray), .slice none 0 0, .slice none 0 0, .int .i64 0, .bool false]) (t := 106) ?hr ?_; (case hd => rfl); (case hg => rfl); (case hr => first | (go_simp; done) | (go_simp; rfl)); intro gb216 hg w19 hbox hb; have n0_ := Aside0.mk (below_step HBa hb); have n1_ := Aside0.mk (hbox); have n2_ := Aside0.mk ((by rw [hg]; exact (below_size HBa) : w.heap.size ≤ gb216)); have n3_ := Aside0.mk ((by rw [hg]; exact (below_size HBa) : w.heap.size ≤ gb216)); clear HB; have HB := n0_; have BK216 := n1_; have GW216 := n2_; have GE216 := n3_; clear n0_ n1_ n2_ n3_; clear hb hbox hg; have hcz20_0 : w19.cell? ⟨gb216, 0, none⟩ = some (.string (⟨#[]⟩ : ByteArray)) := (blk_cell BK216.out 0).trans rfl; have hcz20_1 : w19.cell? ⟨gb216, 1, none⟩ = some (.slice none 0 0) := (blk_cell BK216.out 1).trans rfl; have hcz20_2 : w19.cell? ⟨gb216, 2, none⟩ = some (.slice none 0 0) := (blk_cell BK216.out 2).trans rfl; have hcz20_3 : w19.cell? ⟨gb216, 3, none⟩ = some (.int .i64 0) := (blk_cell BK216.out 3).trans rfl; have hcz20_4 : w19.cell? ⟨gb216, 4, none⟩ = some (.bool false) := (blk_cell BK216.out 4).trans rfl; have hfz20_0 := blk_frozen BK216.out 0; have hfz20_1 := blk_frozen BK216.out 1; have hfz20_2 := blk_frozen BK216.out 2; have hfz20_3 := blk_frozen BK216.out 3; have hfz20_4 := blk_frozen BK216.out 4) | (go_at_call 29; (with_reducible refine (spec_DnUnder.calls k1 _ _ l2 _ _ ((rd_T106 l0 x11_1).f1) true _ ?side1 ?side2 ?side3 ?side4 A10.out).mono ?_); (case side1 => exact Kd.C_below HR2.out (HBb GE216)); (case side2 => exact HC2.out); (case side3 => exact Kd.C_below HR215_1.out (HBb GE216)); (case side4 => exact HC215_1.out); rintro e w21 ⟨rfl, hb⟩; have n0_ := Aside0.mk (blk_below (g := gb216) (o := .cells #[.string ((rd_T106 l0 x11_1).f0), .slice A215_1 ((rd_T106 l0 x11_1).f1).length c215_1, .slice A215_2 ((rd_T106 l0 x11_1).f2).length c215_2, .int .i64 ((rd_T106 l0 x11_1).f3), .bool ((rd_T106 l0 x11_1).f4)] 106 (0, 0)) (by (with_reducible repeat (first | refine blk_drewN ?_ _ | refine blk_drew ?_ | refine blk_alloc ?_ _)); refine blk_put (cs := #[.string ((rd_T106 l0 x11_1).f0), .slice A215_1 ((rd_T106 l0 x11_1).f1).length c215_1, .slice A215_2 ((rd_T106 l0 x11_1).f2).length c215_2, .int .i64 ((rd_T106 l0 x11_1).f3), .bool false]) ?_ 4 _ rfl; (with_reducible repeat (first | refine blk_drewN ?_ _ | refine blk_drew ?_ | refine blk_alloc ?_ _)); refine blk_put (cs := #[.string ((rd_T106 l0 x11_1).f0), .slice A215_1 ((rd_T106 l0 x11_1).f1).length c215_1, .slice A215_2 ((rd_T106 l0 x11_1).f2).length c215_2, .int .i64 0, .bool false]) ?_ 3 _ rfl; (with_reducible repeat (first | refine blk_drewN ?_ _ | refine blk_drew ?_ | refine blk_alloc ?_ _)); refine blk_put (cs := #[.string ((rd_T106 l0 x11_1).f0), .slice A215_1 ((rd_T106 l0 x11_1).f1).length c215_1, .slice none 0 0, .int .i64 0, .bool false]) ?_ 2 _ rfl; (with_reducible repeat (first | refine blk_drewN ?_ _ | refine blk_drew ?_ | refine blk_alloc ?_ _)); refine blk_put (cs := #[.string ((rd_T106 l0 x11_1).f0), .slice none 0 0, .slice none 0 0, .int .i64 0, .bool false]) ?_ 1 _ rfl; (with_reducible repeat (first | refine blk_drewN ?_ _ | refine blk_drew ?_ | refine blk_alloc ?_ _)); refine blk_put (cs := #[.string (⟨#[]⟩ : ByteArray), .slice none 0 0, .slice none 0 0, .int .i64 0, .bool false]) ?_ 0 _ rfl; (with_reducible repeat (first | refine blk_drewN ?_ _ | refine blk_drew ?_ | refine blk_alloc ?_ _)); exact BK216.out) hb); have n1_ := Aside0.mk (below_step (HBb GE216) hb); clear BK216; clear HB; have BK216 := n0_; have HB := n1_; clear n0_ n1_; (try clear hb); (try clear hb2); (try clear hk); (try clear hi); have hcz22_0 : w21.cell? ⟨gb216, 0, none⟩ = some (.string ((rd_T106 l0 x11_1).f0)) := (blk_cell BK216.out 0).trans rfl; have hcz22_1 : w21.cell? ⟨gb216, 1, none⟩ = some (.slice A215_1 ((rd_T106 l0 x11_1).f1).length c215_1) := (blk_cell BK216.out 1).trans rfl; have hcz22_2 : w21.cell? ⟨gb216, 2, none⟩ = some (.slice A215_2 ((rd_T106 l0 x11_1).f2).length c215_2) := (blk_cell BK216.out 2).trans rfl; have hcz22_3 : w21.cell? ⟨gb216, 3, none⟩ = some (.int .i64 ((rd_T106 l0 x11_1).f3)) := (blk_cell BK216.out 3).trans rfl; have hcz22_4 : w21.cell? ⟨gb216, 4, none⟩ = some (.bool ((rd_T106 l0 x11_1).f4)) := (blk_cell BK216.out 4).trans rfl; have hfz22_0 := blk_frozen BK216.out 0; have hfz22_1 := blk_frozen BK216.out 1; have hfz22_2 := blk_frozen BK216.out 2; have hfz22_3 := blk_frozen BK216.out 3; have hfz22_4 := blk_frozen BK216.out 4) | (go_at_call 147; (with_reducible refine (spec_l04Has.calls k1 _ _ ((rd_T106 l0 x11_1).f2) a3 true _ ?side1 ?side2 A17.out).mono ?_); (case side1 => repeat (first | exact (Kd.C_below HR215_2.out HB.out) | (with_reducible refine Kd.C_alloc ?_ _) | (with_reducible refine Kd.C_drewN ?_ _) | (with_reducible refine Kd.C_drew ?_))); (case side2 => exact HC215_2.out); rintro e w' ⟨rfl, ⟨nd, rfl⟩⟩))
          go_ret
          exact ⟨EZa, HBb GE216⟩
         ·replace c18 := Bool.eq_false_iff.mpr c18
          subst c18
          have H1 : (spec_l06Allowed.l0 k1 l0 a1 l2 a3 a4 (wrap64 (x11_1 + 1))) = some r := by rw [if_neg (show ¬ (false = true) by decide)] at H; exact H
          clear H
          have H := H1
          clear H1
          have H' := Aside0.mk H
          clear H
          have p215 : 0 ≤ (x11_1 : Int) := ODz
          have q215 : x11_1 < (l0.length : Int) := ODz
          obtain ⟨ad215, A215_1, c215_1, A215_2, c215_2, e215, hx215_0, hx215_1, hx215_2, hx215_3, hx215_4, hl215_1, hi215_1, hl215_2, hi215_2⟩ := at_T106 HR0.out x11_1 p215 q215
          cases e215
          replace hx215_0 := (HB.out.cell (World.block_lt_of_cell? w _ hx215_0)).trans hx215_0
          replace hx215_1 := (HB.out.cell (World.block_lt_of_cell? w _ hx215_1)).trans hx215_1
          replace hx215_2 := (HB.out.cell (World.block_lt_of_cell? w _ hx215_2)).trans hx215_2
          replace hx215_3 := (HB.out.cell (World.block_lt_of_cell? w _ hx215_3)).trans hx215_3
          replace hx215_4 := (HB.out.cell (World.block_lt_of_cell? w _ hx215_4)).trans hx215_4
          have HR215_1 := Aside0.mk hi215_1
          have HC215_1 := Aside0.mk hl215_1
          clear hi215_1 hl215_1
          have HR215_2 := Aside0.mk hi215_2
          have HC215_2 := Aside0.mk hl215_2
          clear hi215_2 hl215_2
          replace p215 := eq_true p215
          replace q215 := eq_true q215
          go_wp2_with (first | ((with_reducible refine gate_dst (N := 12) rfl ?_); (try (refine gate_guard (by rfl) ?_; dsimp only)); refine box_event ?hg (N := 12) ?hd (cs := #[.string (⟨#[]⟩ : ByteArray), .slice none 0 0, .slice none 0 0, .int .i64 0, .bool false]) (t := 106) ?hr ?_; (case hd => rfl); (case hg => rfl); (case hr => first | (go_simp; done) | (go_simp; rfl)); intro gb216 hg w23 hbox hb; have n0_ := Aside0.mk (below_step HBa hb); have n1_ := Aside0.mk (hbox); have n2_ := Aside0.mk ((by rw [hg]; exact (below_size HBa) : w.heap.size ≤ gb216)); have n3_ := Aside0.mk ((by rw [hg]; exact (below_size HBa) : w.heap.size ≤ gb216)); clear HB; have HB := n0_; have BK216 := n1_; have GW216 := n2_; have GE216 := n3_; clear n0_ n1_ n2_ n3_; clear hb hbox hg; have hcz24_0 : w23.cell? ⟨gb216, 0, none⟩ = some (.string (⟨#[]⟩ : ByteArray)) := (blk_cell BK216.out 0).trans rfl; have hcz24_1 : w23.cell? ⟨gb216, 1, none⟩ = some (.slice none 0 0) := (blk_cell BK216.out 1).trans rfl; have hcz24_2 : w23.cell? ⟨gb216, 2, none⟩ = some (.slice none 0 0) := (blk_cell BK216.out 2).trans rfl; have hcz24_3 : w23.cell? ⟨gb216, 3, none⟩ = some (.int .i64 0) := (blk_cell BK216.out 3).trans rfl; have hcz24_4 : w23.cell? ⟨gb216, 4, none⟩ = some (.bool false) := (blk_cell BK216.out 4).trans rfl; have hfz24_0 := blk_frozen BK216.out 0; have hfz24_1 := blk_frozen BK216.out 1; have hfz24_2 := blk_frozen BK216.out 2; have hfz24_3 := blk_frozen BK216.out 3; have hfz24_4 := blk_frozen BK216.out 4) | (go_at_call 29; (with_reducible refine (spec_DnUnder.calls k1 _ _ l2 _ _ ((rd_T106 l0 x11_1).f1) true _ ?side1 ?side2 ?side3 ?side4 A10.out).mono ?_); (case side1 => exact Kd.C_below HR2.out (HBb GE216)); (case side2 => exact HC2.out); (case side3 => exact Kd.C_below HR215_1.out (HBb GE216)); (case side4 => exact HC215_1.out); rintro e w25 ⟨rfl, hb⟩; have n0_ := Aside0.mk (blk_below (g := gb216) (o := .cells #[.string ((rd_T106 l0 x11_1).f0), .slice A215_1 ((rd_T106 l0 x11_1).f1).length c215_1, .slice A215_2 ((rd_T106 l0 x11_1).f2).length c215_2, .int .i64 ((rd_T106 l0 x11_1).f3), .bool ((rd_T106 l0 x11_1).f4)] 106 (0, 0)) (by (with_reducible repeat (first | refine blk_drewN ?_ _ | refine blk_drew ?_ | refine blk_alloc ?_ _)); refine blk_put (cs := #[.string ((rd_T106 l0 x11_1).f0), .slice A215_1 ((rd_T106 l0 x11_1).f1).length c215_1, .slice A215_2 ((rd_T106 l0 x11_1).f2).length c215_2, .int .i64 ((rd_T106 l0 x11_1).f3), .bool false]) ?_ 4 _ rfl; (with_reducible repeat (first | refine blk_drewN ?_ _ | refine blk_drew ?_ | refine blk_alloc ?_ _)); refine blk_put (cs := #[.string ((rd_T106 l0 x11_1).f0), .slice A215_1 ((rd_T106 l0 x11_1).f1).length c215_1, .slice A215_2 ((rd_T106 l0 x11_1).f2).length c215_2, .int .i64 0, .bool false]) ?_ 3 _ rfl; (with_reducible repeat (first | refine blk_drewN ?_ _ | refine blk_drew ?_ | refine blk_alloc ?_ _)); refine blk_put (cs := #[.string ((rd_T106 l0 x11_1).f0), .slice A215_1 ((rd_T106 l0 x11_1).f1).length c215_1, .slice none 0 0, .int .i64 0, .bool false]) ?_ 2 _ rfl; (with_reducible repeat (first | refine blk_drewN ?_ _ | refine blk_drew ?_ | refine blk_alloc ?_ _)); refine blk_put (cs := #[.string ((rd_T106 l0 x11_1).f0), .slice none 0 0, .slice none 0 0, .int .i64 0, .bool false]) ?_ 1 _ rfl; (with_reducible repeat (first | refine blk_drewN ?_ _ | refine blk_drew ?_ | refine blk_alloc ?_ _)); refine blk_put (cs := #[.string (⟨#[]⟩ : ByteArray), .slice none 0 0, .slice none 0 0, .int .i64 0, .bool false]) ?_ 0 _ rfl; (with_reducible repeat (first | refine blk_drewN ?_ _ | refine blk_drew ?_ | refine blk_alloc ?_ _)); exact BK216.out) hb); have n1_ := Aside0.mk (below_step (HBb GE216) hb); clear BK216; clear HB; have BK216 := n0_; have HB := n1_; clear n0_ n1_; (try clear hb); (try clear hb2); (try clear hk); (try clear hi); have hcz26_0 : w25.cell? ⟨gb216, 0, none⟩ = some (.string ((rd_T106 l0 x11_1).f0)) := (blk_cell BK216.out 0).trans rfl; have hcz26_1 : w25.cell? ⟨gb216, 1, none⟩ = some (.slice A215_1 ((rd_T106 l0 x11_1).f1).length c215_1) := (blk_cell BK216.out 1).trans rfl; have hcz26_2 : w25.cell? ⟨gb216, 2, none⟩ = some (.slice A215_2 ((rd_T106 l0 x11_1).f2).length c215_2) := (blk_cell BK216.out 2).trans rfl; have hcz26_3 : w25.cell? ⟨gb216, 3, none⟩ = some (.int .i64 ((rd_T106 l0 x11_1).f3)) := (blk_cell BK216.out 3).trans rfl; have hcz26_4 : w25.cell? ⟨gb216, 4, none⟩ = some (.bool ((rd_T106 l0 x11_1).f4)) := (blk_cell BK216.out 4).trans rfl; have hfz26_0 := blk_frozen BK216.out 0; have hfz26_1 := blk_frozen BK216.out 1; have hfz26_2 := blk_frozen BK216.out 2; have hfz26_3 := blk_frozen BK216.out 3; have hfz26_4 := blk_frozen BK216.out 4) | (go_at_call 147; (with_reducible refine (spec_l04Has.calls k1 _ _ ((rd_T106 l0 x11_1).f2) a3 false _ ?side1 ?side2 A17.out).mono ?_); (case side1 => repeat (first | exact (Kd.C_below HR215_2.out HB.out) | (with_reducible refine Kd.C_alloc ?_ _) | (with_reducible refine Kd.C_drewN ?_ _) | (with_reducible refine Kd.C_drew ?_))); (case side2 => exact HC215_2.out); rintro e w' ⟨rfl, ⟨nd, rfl⟩⟩))
          go_roundg k1
          case measure => have := HK1.out; omega
          case rel => exact ⟨(wrap64 (x11_1 + 1)), EZc, H', ⟨by have := HK1.out; omega⟩, ⟨by repeat (first | (with_reducible first | exact HB.out | apply below_alloc | apply pw_below_drewN | apply below_drew1 | refine below_set ?_ GE216.out) | exact HB.out)⟩⟩
       ·replace c11 := Bool.eq_false_iff.mpr c11
        subst c11
        have H1 : (spec_l06Allowed.l0 k1 l0 a1 l2 a3 a4 (wrap64 (x11_1 + 1))) = some r := by rw [if_neg (show ¬ (false = true) by decide)] at H; exact H
        clear H
        have H := H1
        clear H1
        have H' := Aside0.mk H
        clear H
        have p215 : 0 ≤ (x11_1 : Int) := ODz
        have q215 : x11_1 < (l0.length : Int) := ODz
        obtain ⟨ad215, A215_1, c215_1, A215_2, c215_2, e215, hx215_0, hx215_1, hx215_2, hx215_3, hx215_4, hl215_1, hi215_1, hl215_2, hi215_2⟩ := at_T106 HR0.out x11_1 p215 q215
        cases e215
        replace hx215_0 := (HB.out.cell (World.block_lt_of_cell? w _ hx215_0)).trans hx215_0
        replace hx215_1 := (HB.out.cell (World.block_lt_of_cell? w _ hx215_1)).trans hx215_1
        replace hx215_2 := (HB.out.cell (World.block_lt_of_cell? w _ hx215_2)).trans hx215_2
        replace hx215_3 := (HB.out.cell (World.block_lt_of_cell? w _ hx215_3)).trans hx215_3
        replace hx215_4 := (HB.out.cell (World.block_lt_of_cell? w _ hx215_4)).trans hx215_4
        have HR215_1 := Aside0.mk hi215_1
        have HC215_1 := Aside0.mk hl215_1
        clear hi215_1 hl215_1
        have HR215_2 := Aside0.mk hi215_2
        have HC215_2 := Aside0.mk hl215_2
        clear hi215_2 hl215_2
        replace p215 := eq_true p215
        replace q215 := eq_true q215
        go_wp2_with (first | ((with_reducible refine gate_dst (N := 12) rfl ?_); (try (refine gate_guard (by rfl) ?_; dsimp only)); refine box_event ?hg (N := 12) ?hd (cs := #[.string (⟨#[]⟩ : ByteArray), .slice none 0 0, .slice none 0 0, .int .i64 0, .bool false]) (t := 106) ?hr ?_; (case hd => rfl); (case hg => rfl); (case hr => first | (go_simp; done) | (go_simp; rfl)); intro gb216 hg w27 hbox hb; have n0_ := Aside0.mk (below_step HBa hb); have n1_ := Aside0.mk (hbox); have n2_ := Aside0.mk ((by rw [hg]; exact (below_size HBa) : w.heap.size ≤ gb216)); have n3_ := Aside0.mk ((by rw [hg]; exact (below_size HBa) : w.heap.size ≤ gb216)); clear HB; have HB := n0_; have BK216 := n1_; have GW216 := n2_; have GE216 := n3_; clear n0_ n1_ n2_ n3_; clear hb hbox hg; have hcz28_0 : w27.cell? ⟨gb216, 0, none⟩ = some (.string (⟨#[]⟩ : ByteArray)) := (blk_cell BK216.out 0).trans rfl; have hcz28_1 : w27.cell? ⟨gb216, 1, none⟩ = some (.slice none 0 0) := (blk_cell BK216.out 1).trans rfl; have hcz28_2 : w27.cell? ⟨gb216, 2, none⟩ = some (.slice none 0 0) := (blk_cell BK216.out 2).trans rfl; have hcz28_3 : w27.cell? ⟨gb216, 3, none⟩ = some (.int .i64 0) := (blk_cell BK216.out 3).trans rfl; have hcz28_4 : w27.cell? ⟨gb216, 4, none⟩ = some (.bool false) := (blk_cell BK216.out 4).trans rfl; have hfz28_0 := blk_frozen BK216.out 0; have hfz28_1 := blk_frozen BK216.out 1; have hfz28_2 := blk_frozen BK216.out 2; have hfz28_3 := blk_frozen BK216.out 3; have hfz28_4 := blk_frozen BK216.out 4) | (go_at_call 29; (with_reducible refine (spec_DnUnder.calls k1 _ _ l2 _ _ ((rd_T106 l0 x11_1).f1) false _ ?side1 ?side2 ?side3 ?side4 A10.out).mono ?_); (case side1 => exact Kd.C_below HR2.out (HBb GE216)); (case side2 => exact HC2.out); (case side3 => exact Kd.C_below HR215_1.out (HBb GE216)); (case side4 => exact HC215_1.out); rintro e w29 ⟨rfl, hb⟩; have n0_ := Aside0.mk (blk_below (g := gb216) (o := .cells #[.string ((rd_T106 l0 x11_1).f0), .slice A215_1 ((rd_T106 l0 x11_1).f1).length c215_1, .slice A215_2 ((rd_T106 l0 x11_1).f2).length c215_2, .int .i64 ((rd_T106 l0 x11_1).f3), .bool ((rd_T106 l0 x11_1).f4)] 106 (0, 0)) (by (with_reducible repeat (first | refine blk_drewN ?_ _ | refine blk_drew ?_ | refine blk_alloc ?_ _)); refine blk_put (cs := #[.string ((rd_T106 l0 x11_1).f0), .slice A215_1 ((rd_T106 l0 x11_1).f1).length c215_1, .slice A215_2 ((rd_T106 l0 x11_1).f2).length c215_2, .int .i64 ((rd_T106 l0 x11_1).f3), .bool false]) ?_ 4 _ rfl; (with_reducible repeat (first | refine blk_drewN ?_ _ | refine blk_drew ?_ | refine blk_alloc ?_ _)); refine blk_put (cs := #[.string ((rd_T106 l0 x11_1).f0), .slice A215_1 ((rd_T106 l0 x11_1).f1).length c215_1, .slice A215_2 ((rd_T106 l0 x11_1).f2).length c215_2, .int .i64 0, .bool false]) ?_ 3 _ rfl; (with_reducible repeat (first | refine blk_drewN ?_ _ | refine blk_drew ?_ | refine blk_alloc ?_ _)); refine blk_put (cs := #[.string ((rd_T106 l0 x11_1).f0), .slice A215_1 ((rd_T106 l0 x11_1).f1).length c215_1, .slice none 0 0, .int .i64 0, .bool false]) ?_ 2 _ rfl; (with_reducible repeat (first | refine blk_drewN ?_ _ | refine blk_drew ?_ | refine blk_alloc ?_ _)); refine blk_put (cs := #[.string ((rd_T106 l0 x11_1).f0), .slice none 0 0, .slice none 0 0, .int .i64 0, .bool false]) ?_ 1 _ rfl; (with_reducible repeat (first | refine blk_drewN ?_ _ | refine blk_drew ?_ | refine blk_alloc ?_ _)); refine blk_put (cs := #[.string (⟨#[]⟩ : ByteArray), .slice none 0 0, .slice none 0 0, .int .i64 0, .bool false]) ?_ 0 _ rfl; (with_reducible repeat (first | refine blk_drewN ?_ _ | refine blk_drew ?_ | refine blk_alloc ?_ _)); exact BK216.out) hb); have n1_ := Aside0.mk (below_step (HBb GE216) hb); clear BK216; clear HB; have BK216 := n0_; have HB := n1_; clear n0_ n1_; (try clear hb); (try clear hb2); (try clear hk); (try clear hi)))
        go_roundg k1
        case measure => have := HK1.out; omega
        case rel => exact ⟨(wrap64 (x11_1 + 1)), EZc, H', ⟨by have := HK1.out; omega⟩, ⟨by repeat (first | (with_reducible first | exact HB.out | apply below_alloc | apply pw_below_drewN | apply below_drew1 | refine below_set ?_ GE216.out) | exact HB.out)⟩⟩
      ·rw [if_neg c9] at H
       have c9b0 : (((rd_T106 l0 x11_1).f3) == a4) = false := beq_eq_false_iff_ne.mpr c9
       have c9b1 : (((rd_T106 l0 x11_1).f3) != a4) = true := bne_iff_ne.mpr c9
       have H' := Aside0.mk H
       clear H
       have p215 : 0 ≤ (x11_1 : Int) := ODz
       have q215 : x11_1 < (l0.length : Int) := ODz
       obtain ⟨ad215, A215_1, c215_1, A215_2, c215_2, e215, hx215_0, hx215_1, hx215_2, hx215_3, hx215_4, hl215_1, hi215_1, hl215_2, hi215_2⟩ := at_T106 HR0.out x11_1 p215 q215
       cases e215
       replace hx215_0 := (HB.out.cell (World.block_lt_of_cell? w _ hx215_0)).trans hx215_0
       replace hx215_1 := (HB.out.cell (World.block_lt_of_cell? w _ hx215_1)).trans hx215_1
       replace hx215_2 := (HB.out.cell (World.block_lt_of_cell? w _ hx215_2)).trans hx215_2
       replace hx215_3 := (HB.out.cell (World.block_lt_of_cell? w _ hx215_3)).trans hx215_3
       replace hx215_4 := (HB.out.cell (World.block_lt_of_cell? w _ hx215_4)).trans hx215_4
       have HR215_1 := Aside0.mk hi215_1
       have HC215_1 := Aside0.mk hl215_1
       clear hi215_1 hl215_1
       have HR215_2 := Aside0.mk hi215_2
       have HC215_2 := Aside0.mk hl215_2
       clear hi215_2 hl215_2
       replace p215 := eq_true p215
       replace q215 := eq_true q215
       go_wp2_with (first | ((with_reducible refine gate_dst (N := 12) rfl ?_); (try (refine gate_guard (by rfl) ?_; dsimp only)); refine box_event ?hg (N := 12) ?hd (cs := #[.string (⟨#[]⟩ : ByteArray), .slice none 0 0, .slice none 0 0, .int .i64 0, .bool false]) (t := 106) ?hr ?_; (case hd => rfl); (case hg => rfl); (case hr => first | (go_simp; done) | (go_simp; rfl)); intro gb216 hg w30 hbox hb; have n0_ := Aside0.mk (below_step HBa hb); have n1_ := Aside0.mk (hbox); have n2_ := Aside0.mk ((by rw [hg]; exact (below_size HBa) : w.heap.size ≤ gb216)); have n3_ := Aside0.mk ((by rw [hg]; exact (below_size HBa) : w.heap.size ≤ gb216)); clear HB; have HB := n0_; have BK216 := n1_; have GW216 := n2_; have GE216 := n3_; clear n0_ n1_ n2_ n3_; clear hb hbox hg; have hcz31_0 : w30.cell? ⟨gb216, 0, none⟩ = some (.string (⟨#[]⟩ : ByteArray)) := (blk_cell BK216.out 0).trans rfl; have hcz31_1 : w30.cell? ⟨gb216, 1, none⟩ = some (.slice none 0 0) := (blk_cell BK216.out 1).trans rfl; have hcz31_2 : w30.cell? ⟨gb216, 2, none⟩ = some (.slice none 0 0) := (blk_cell BK216.out 2).trans rfl; have hcz31_3 : w30.cell? ⟨gb216, 3, none⟩ = some (.int .i64 0) := (blk_cell BK216.out 3).trans rfl; have hcz31_4 : w30.cell? ⟨gb216, 4, none⟩ = some (.bool false) := (blk_cell BK216.out 4).trans rfl; have hfz31_0 := blk_frozen BK216.out 0; have hfz31_1 := blk_frozen BK216.out 1; have hfz31_2 := blk_frozen BK216.out 2; have hfz31_3 := blk_frozen BK216.out 3; have hfz31_4 := blk_frozen BK216.out 4))
       go_roundg k1
       case measure => have := HK1.out; omega
       case rel => exact ⟨(wrap64 (x11_1 + 1)), EZc, H', ⟨by have := HK1.out; omega⟩, ⟨by repeat (first | (with_reducible first | exact HB.out | apply below_alloc | apply pw_below_drewN | apply below_drew1 | refine below_set ?_ GE216.out) | exact HB.out)⟩⟩
     ·rw [if_neg c8] at H
      have c8b0 : (((rd_T106 l0 x11_1).f0).toList == ([42] : List UInt8)) = false := beq_eq_false_iff_ne.mpr c8
      have c8b1 : (((rd_T106 l0 x11_1).f0).toList != ([42] : List UInt8)) = true := bne_iff_ne.mpr c8
      by_cases c32 : ((rd_T106 l0 x11_1).f0).toList = a1.toList
      ·rw [if_pos c32] at H
       have c32b0 : (((rd_T106 l0 x11_1).f0).toList == a1.toList) = true := beq_iff_eq.mpr c32
       have c32b1 : (((rd_T106 l0 x11_1).f0).toList != a1.toList) = false := bne_eq_false_iff_eq.mpr c32
       clear c32
       by_cases c33 : ((rd_T106 l0 x11_1).f3) = a4
       ·rw [if_pos c33] at H
        have c33b0 : (((rd_T106 l0 x11_1).f3) == a4) = true := beq_iff_eq.mpr c33
        have c33b1 : (((rd_T106 l0 x11_1).f3) != a4) = false := bne_eq_false_iff_eq.mpr c33
        clear c33
        replace H := Option.bind_eq_some_iff.mp H
        obtain ⟨t219, A340, H⟩ := H
        replace H : (if t219 = true then (if (((rd_T106 l0 x11_1).f2).length : Int) = 0 then (some ((rd_T106 l0 x11_1).f4)) else ((spec_l04Has.f k1 ((rd_T106 l0 x11_1).f2) a3).bind fun t220 => (if t220 = true then (some ((rd_T106 l0 x11_1).f4)) else (spec_l06Allowed.l0 k1 l0 a1 l2 a3 a4 (wrap64 (x11_1 + 1)))))) else (spec_l06Allowed.l0 k1 l0 a1 l2 a3 a4 (wrap64 (x11_1 + 1)))) = some r := H
        have A34 := Aside0.mk A340
        clear A340
        by_cases c35 : t219 = true
        ·subst c35
         have H1 : (if (((rd_T106 l0 x11_1).f2).length : Int) = 0 then (some ((rd_T106 l0 x11_1).f4)) else ((spec_l04Has.f k1 ((rd_T106 l0 x11_1).f2) a3).bind fun t220 => (if t220 = true then (some ((rd_T106 l0 x11_1).f4)) else (spec_l06Allowed.l0 k1 l0 a1 l2 a3 a4 (wrap64 (x11_1 + 1)))))) = some r := by rw [if_pos rfl] at H; exact H
         clear H
         have H := H1
         clear H1
         by_cases c36 : (((rd_T106 l0 x11_1).f2).length : Int) = 0
         ·rw [if_pos c36] at H
          have c36b0 : ((((rd_T106 l0 x11_1).f2).length : Int) == 0) = true := beq_iff_eq.mpr c36
          have c36b1 : ((((rd_T106 l0 x11_1).f2).length : Int) != 0) = false := bne_eq_false_iff_eq.mpr c36
          clear c36
          obtain rfl := Option.some.inj H
          have p215 : 0 ≤ (x11_1 : Int) := ODz
          have q215 : x11_1 < (l0.length : Int) := ODz
          obtain ⟨ad215, A215_1, c215_1, A215_2, c215_2, e215, hx215_0, hx215_1, hx215_2, hx215_3, hx215_4, hl215_1, hi215_1, hl215_2, hi215_2⟩ := at_T106 HR0.out x11_1 p215 q215
          cases e215
          replace hx215_0 := (HB.out.cell (World.block_lt_of_cell? w _ hx215_0)).trans hx215_0
          replace hx215_1 := (HB.out.cell (World.block_lt_of_cell? w _ hx215_1)).trans hx215_1
          replace hx215_2 := (HB.out.cell (World.block_lt_of_cell? w _ hx215_2)).trans hx215_2
          replace hx215_3 := (HB.out.cell (World.block_lt_of_cell? w _ hx215_3)).trans hx215_3
          replace hx215_4 := (HB.out.cell (World.block_lt_of_cell? w _ hx215_4)).trans hx215_4
          have HR215_1 := Aside0.mk hi215_1
          have HC215_1 := Aside0.mk hl215_1
          clear hi215_1 hl215_1
          have HR215_2 := Aside0.mk hi215_2
          have HC215_2 := Aside0.mk hl215_2
          clear hi215_2 hl215_2
          replace p215 := eq_true p215
          replace q215 := eq_true q215
          go_wp2_with (first | ((with_reducible refine gate_dst (N := 12) rfl ?_); (try (refine gate_guard (by rfl) ?_; dsimp only)); refine box_event ?hg (N := 12) ?hd (cs := #[.string (⟨#[]⟩ : ByteArray), .slice none 0 0, .slice none 0 0, .int .i64 0, .bool false]) (t := 106) ?hr ?_; (case hd => rfl); (case hg => rfl); (case hr => first | (go_simp; done) | (go_simp; rfl)); intro gb216 hg w37 hbox hb; have n0_ := Aside0.mk (below_step HBa hb); have n1_ := Aside0.mk (hbox); have n2_ := Aside0.mk ((by rw [hg]; exact (below_size HBa) : w.heap.size ≤ gb216)); have n3_ := Aside0.mk ((by rw [hg]; exact (below_size HBa) : w.heap.size ≤ gb216)); clear HB; have HB := n0_; have BK216 := n1_; have GW216 := n2_; have GE216 := n3_; clear n0_ n1_ n2_ n3_; clear hb hbox hg; have hcz38_0 : w37.cell? ⟨gb216, 0, none⟩ = some (.string (⟨#[]⟩ : ByteArray)) := (blk_cell BK216.out 0).trans rfl; have hcz38_1 : w37.cell? ⟨gb216, 1, none⟩ = some (.slice none 0 0) := (blk_cell BK216.out 1).trans rfl; have hcz38_2 : w37.cell? ⟨gb216, 2, none⟩ = some (.slice none 0 0) := (blk_cell BK216.out 2).trans rfl; have hcz38_3 : w37.cell? ⟨gb216, 3, none⟩ = some (.int .i64 0) := (blk_cell BK216.out 3).trans rfl; have hcz38_4 : w37.cell? ⟨gb216, 4, none⟩ = some (.bool false) := (blk_cell BK216.out 4).trans rfl; have hfz38_0 := blk_frozen BK216.out 0; have hfz38_1 := blk_frozen BK216.out 1; have hfz38_2 := blk_frozen BK216.out 2; have hfz38_3 := blk_frozen BK216.out 3; have hfz38_4 := blk_frozen BK216.out 4) | (go_at_call 29; (with_reducible refine (spec_DnUnder.calls k1 _ _ l2 _ _ ((rd_T106 l0 x11_1).f1) true _ ?side1 ?side2 ?side3 ?side4 A34.out).mono ?_); (case side1 => exact Kd.C_below HR2.out (HBb GE216)); (case side2 => exact HC2.out); (case side3 => exact Kd.C_below HR215_1.out (HBb GE216)); (case side4 => exact HC215_1.out); rintro e w39 ⟨rfl, hb⟩; have n0_ := Aside0.mk (blk_below (g := gb216) (o := .cells #[.string ((rd_T106 l0 x11_1).f0), .slice A215_1 ((rd_T106 l0 x11_1).f1).length c215_1, .slice A215_2 ((rd_T106 l0 x11_1).f2).length c215_2, .int .i64 ((rd_T106 l0 x11_1).f3), .bool ((rd_T106 l0 x11_1).f4)] 106 (0, 0)) (by (with_reducible repeat (first | refine blk_drewN ?_ _ | refine blk_drew ?_ | refine blk_alloc ?_ _)); refine blk_put (cs := #[.string ((rd_T106 l0 x11_1).f0), .slice A215_1 ((rd_T106 l0 x11_1).f1).length c215_1, .slice A215_2 ((rd_T106 l0 x11_1).f2).length c215_2, .int .i64 ((rd_T106 l0 x11_1).f3), .bool false]) ?_ 4 _ rfl; (with_reducible repeat (first | refine blk_drewN ?_ _ | refine blk_drew ?_ | refine blk_alloc ?_ _)); refine blk_put (cs := #[.string ((rd_T106 l0 x11_1).f0), .slice A215_1 ((rd_T106 l0 x11_1).f1).length c215_1, .slice A215_2 ((rd_T106 l0 x11_1).f2).length c215_2, .int .i64 0, .bool false]) ?_ 3 _ rfl; (with_reducible repeat (first | refine blk_drewN ?_ _ | refine blk_drew ?_ | refine blk_alloc ?_ _)); refine blk_put (cs := #[.string ((rd_T106 l0 x11_1).f0), .slice A215_1 ((rd_T106 l0 x11_1).f1).length c215_1, .slice none 0 0, .int .i64 0, .bool false]) ?_ 2 _ rfl; (with_reducible repeat (first | refine blk_drewN ?_ _ | refine blk_drew ?_ | refine blk_alloc ?_ _)); refine blk_put (cs := #[.string ((rd_T106 l0 x11_1).f0), .slice none 0 0, .slice none 0 0, .int .i64 0, .bool false]) ?_ 1 _ rfl; (with_reducible repeat (first | refine blk_drewN ?_ _ | refine blk_drew ?_ | refine blk_alloc ?_ _)); refine blk_put (cs := #[.string (⟨#[]⟩ : ByteArray), .slice none 0 0, .slice none 0 0, .int .i64 0, .bool false]) ?_ 0 _ rfl; (with_reducible repeat (first | refine blk_drewN ?_ _ | refine blk_drew ?_ | refine blk_alloc ?_ _)); exact BK216.out) hb); have n1_ := Aside0.mk (below_step (HBb GE216) hb); clear BK216; clear HB; have BK216 := n0_; have HB := n1_; clear n0_ n1_; (try clear hb); (try clear hb2); (try clear hk); (try clear hi); have hcz40_0 : w39.cell? ⟨gb216, 0, none⟩ = some (.string ((rd_T106 l0 x11_1).f0)) := (blk_cell BK216.out 0).trans rfl; have hcz40_1 : w39.cell? ⟨gb216, 1, none⟩ = some (.slice A215_1 ((rd_T106 l0 x11_1).f1).length c215_1) := (blk_cell BK216.out 1).trans rfl; have hcz40_2 : w39.cell? ⟨gb216, 2, none⟩ = some (.slice A215_2 ((rd_T106 l0 x11_1).f2).length c215_2) := (blk_cell BK216.out 2).trans rfl; have hcz40_3 : w39.cell? ⟨gb216, 3, none⟩ = some (.int .i64 ((rd_T106 l0 x11_1).f3)) := (blk_cell BK216.out 3).trans rfl; have hcz40_4 : w39.cell? ⟨gb216, 4, none⟩ = some (.bool ((rd_T106 l0 x11_1).f4)) := (blk_cell BK216.out 4).trans rfl; have hfz40_0 := blk_frozen BK216.out 0; have hfz40_1 := blk_frozen BK216.out 1; have hfz40_2 := blk_frozen BK216.out 2; have hfz40_3 := blk_frozen BK216.out 3; have hfz40_4 := blk_frozen BK216.out 4))
          go_ret
          exact ⟨EZa, HBb GE216⟩
         ·rw [if_neg c36] at H
          have c36b0 : ((((rd_T106 l0 x11_1).f2).length : Int) == 0) = false := beq_eq_false_iff_ne.mpr c36
          have c36b1 : ((((rd_T106 l0 x11_1).f2).length : Int) != 0) = true := bne_iff_ne.mpr c36
          have c36b2 : ¬ (((rd_T106 l0 x11_1).f2) = []) := fun h_ => c36 (by rw [h_]; rfl)
          replace H := Option.bind_eq_some_iff.mp H
          obtain ⟨t220, A410, H⟩ := H
          replace H : (if t220 = true then (some ((rd_T106 l0 x11_1).f4)) else (spec_l06Allowed.l0 k1 l0 a1 l2 a3 a4 (wrap64 (x11_1 + 1)))) = some r := H
          have A41 := Aside0.mk A410
          clear A410
          by_cases c42 : t220 = true
          ·subst c42
           have H1 : (some ((rd_T106 l0 x11_1).f4)) = some r := by rw [if_pos rfl] at H; exact H
           clear H
           have H := H1
           clear H1
           obtain rfl := Option.some.inj H
           have p215 : 0 ≤ (x11_1 : Int) := ODz
           have q215 : x11_1 < (l0.length : Int) := ODz
           obtain ⟨ad215, A215_1, c215_1, A215_2, c215_2, e215, hx215_0, hx215_1, hx215_2, hx215_3, hx215_4, hl215_1, hi215_1, hl215_2, hi215_2⟩ := at_T106 HR0.out x11_1 p215 q215
           cases e215
           replace hx215_0 := (HB.out.cell (World.block_lt_of_cell? w _ hx215_0)).trans hx215_0
           replace hx215_1 := (HB.out.cell (World.block_lt_of_cell? w _ hx215_1)).trans hx215_1
           replace hx215_2 := (HB.out.cell (World.block_lt_of_cell? w _ hx215_2)).trans hx215_2
           replace hx215_3 := (HB.out.cell (World.block_lt_of_cell? w _ hx215_3)).trans hx215_3
           replace hx215_4 := (HB.out.cell (World.block_lt_of_cell? w _ hx215_4)).trans hx215_4
           have HR215_1 := Aside0.mk hi215_1
           have HC215_1 := Aside0.mk hl215_1
           clear hi215_1 hl215_1
           have HR215_2 := Aside0.mk hi215_2
           have HC215_2 := Aside0.mk hl215_2
           clear hi215_2 hl215_2
           replace p215 := eq_true p215
           replace q215 := eq_true q215
           go_wp2_with (first | ((with_reducible refine gate_dst (N := 12) rfl ?_); (try (refine gate_guard (by rfl) ?_; dsimp only)); refine box_event ?hg (N := 12) ?hd (cs := #[.string (⟨#[]⟩ : ByteArray), .slice none 0 0, .slice none 0 0, .int .i64 0, .bool false]) (t := 106) ?hr ?_; (case hd => rfl); (case hg => rfl); (case hr => first | (go_simp; done) | (go_simp; rfl)); intro gb216 hg w43 hbox hb; have n0_ := Aside0.mk (below_step HBa hb); have n1_ := Aside0.mk (hbox); have n2_ := Aside0.mk ((by rw [hg]; exact (below_size HBa) : w.heap.size ≤ gb216)); have n3_ := Aside0.mk ((by rw [hg]; exact (below_size HBa) : w.heap.size ≤ gb216)); clear HB; have HB := n0_; have BK216 := n1_; have GW216 := n2_; have GE216 := n3_; clear n0_ n1_ n2_ n3_; clear hb hbox hg; have hcz44_0 : w43.cell? ⟨gb216, 0, none⟩ = some (.string (⟨#[]⟩ : ByteArray)) := (blk_cell BK216.out 0).trans rfl; have hcz44_1 : w43.cell? ⟨gb216, 1, none⟩ = some (.slice none 0 0) := (blk_cell BK216.out 1).trans rfl; have hcz44_2 : w43.cell? ⟨gb216, 2, none⟩ = some (.slice none 0 0) := (blk_cell BK216.out 2).trans rfl; have hcz44_3 : w43.cell? ⟨gb216, 3, none⟩ = some (.int .i64 0) := (blk_cell BK216.out 3).trans rfl; have hcz44_4 : w43.cell? ⟨gb216, 4, none⟩ = some (.bool false) := (blk_cell BK216.out 4).trans rfl; have hfz44_0 := blk_frozen BK216.out 0; have hfz44_1 := blk_frozen BK216.out 1; have hfz44_2 := blk_frozen BK216.out 2; have hfz44_3 := blk_frozen BK216.out 3; have hfz44_4 := blk_frozen BK216.out 4) | (go_at_call 29; (with_reducible refine (spec_DnUnder.calls k1 _ _ l2 _ _ ((rd_T106 l0 x11_1).f1) true _ ?side1 ?side2 ?side3 ?side4 A34.out).mono ?_); (case side1 => exact Kd.C_below HR2.out (HBb GE216)); (case side2 => exact HC2.out); (case side3 => exact Kd.C_below HR215_1.out (HBb GE216)); (case side4 => exact HC215_1.out); rintro e w45 ⟨rfl, hb⟩; have n0_ := Aside0.mk (blk_below (g := gb216) (o := .cells #[.string ((rd_T106 l0 x11_1).f0), .slice A215_1 ((rd_T106 l0 x11_1).f1).length c215_1, .slice A215_2 ((rd_T106 l0 x11_1).f2).length c215_2, .int .i64 ((rd_T106 l0 x11_1).f3), .bool ((rd_T106 l0 x11_1).f4)] 106 (0, 0)) (by (with_reducible repeat (first | refine blk_drewN ?_ _ | refine blk_drew ?_ | refine blk_alloc ?_ _)); refine blk_put (cs := #[.string ((rd_T106 l0 x11_1).f0), .slice A215_1 ((rd_T106 l0 x11_1).f1).length c215_1, .slice A215_2 ((rd_T106 l0 x11_1).f2).length c215_2, .int .i64 ((rd_T106 l0 x11_1).f3), .bool false]) ?_ 4 _ rfl; (with_reducible repeat (first | refine blk_drewN ?_ _ | refine blk_drew ?_ | refine blk_alloc ?_ _)); refine blk_put (cs := #[.string ((rd_T106 l0 x11_1).f0), .slice A215_1 ((rd_T106 l0 x11_1).f1).length c215_1, .slice A215_2 ((rd_T106 l0 x11_1).f2).length c215_2, .int .i64 0, .bool false]) ?_ 3 _ rfl; (with_reducible repeat (first | refine blk_drewN ?_ _ | refine blk_drew ?_ | refine blk_alloc ?_ _)); refine blk_put (cs := #[.string ((rd_T106 l0 x11_1).f0), .slice A215_1 ((rd_T106 l0 x11_1).f1).length c215_1, .slice none 0 0, .int .i64 0, .bool false]) ?_ 2 _ rfl; (with_reducible repeat (first | refine blk_drewN ?_ _ | refine blk_drew ?_ | refine blk_alloc ?_ _)); refine blk_put (cs := #[.string ((rd_T106 l0 x11_1).f0), .slice none 0 0, .slice none 0 0, .int .i64 0, .bool false]) ?_ 1 _ rfl; (with_reducible repeat (first | refine blk_drewN ?_ _ | refine blk_drew ?_ | refine blk_alloc ?_ _)); refine blk_put (cs := #[.string (⟨#[]⟩ : ByteArray), .slice none 0 0, .slice none 0 0, .int .i64 0, .bool false]) ?_ 0 _ rfl; (with_reducible repeat (first | refine blk_drewN ?_ _ | refine blk_drew ?_ | refine blk_alloc ?_ _)); exact BK216.out) hb); have n1_ := Aside0.mk (below_step (HBb GE216) hb); clear BK216; clear HB; have BK216 := n0_; have HB := n1_; clear n0_ n1_; (try clear hb); (try clear hb2); (try clear hk); (try clear hi); have hcz46_0 : w45.cell? ⟨gb216, 0, none⟩ = some (.string ((rd_T106 l0 x11_1).f0)) := (blk_cell BK216.out 0).trans rfl; have hcz46_1 : w45.cell? ⟨gb216, 1, none⟩ = some (.slice A215_1 ((rd_T106 l0 x11_1).f1).length c215_1) := (blk_cell BK216.out 1).trans rfl; have hcz46_2 : w45.cell? ⟨gb216, 2, none⟩ = some (.slice A215_2 ((rd_T106 l0 x11_1).f2).length c215_2) := (blk_cell BK216.out 2).trans rfl; have hcz46_3 : w45.cell? ⟨gb216, 3, none⟩ = some (.int .i64 ((rd_T106 l0 x11_1).f3)) := (blk_cell BK216.out 3).trans rfl; have hcz46_4 : w45.cell? ⟨gb216, 4, none⟩ = some (.bool ((rd_T106 l0 x11_1).f4)) := (blk_cell BK216.out 4).trans rfl; have hfz46_0 := blk_frozen BK216.out 0; have hfz46_1 := blk_frozen BK216.out 1; have hfz46_2 := blk_frozen BK216.out 2; have hfz46_3 := blk_frozen BK216.out 3; have hfz46_4 := blk_frozen BK216.out 4) | (go_at_call 147; (with_reducible refine (spec_l04Has.calls k1 _ _ ((rd_T106 l0 x11_1).f2) a3 true _ ?side1 ?side2 A41.out).mono ?_); (case side1 => repeat (first | exact (Kd.C_below HR215_2.out HB.out) | (with_reducible refine Kd.C_alloc ?_ _) | (with_reducible refine Kd.C_drewN ?_ _) | (with_reducible refine Kd.C_drew ?_))); (case side2 => exact HC215_2.out); rintro e w' ⟨rfl, ⟨nd, rfl⟩⟩))
           go_ret
           exact ⟨EZa, HBb GE216⟩
          ·replace c42 := Bool.eq_false_iff.mpr c42
           subst c42
           have H1 : (spec_l06Allowed.l0 k1 l0 a1 l2 a3 a4 (wrap64 (x11_1 + 1))) = some r := by rw [if_neg (show ¬ (false = true) by decide)] at H; exact H
           clear H
           have H := H1
           clear H1
           have H' := Aside0.mk H
           clear H
           have p215 : 0 ≤ (x11_1 : Int) := ODz
           have q215 : x11_1 < (l0.length : Int) := ODz
           obtain ⟨ad215, A215_1, c215_1, A215_2, c215_2, e215, hx215_0, hx215_1, hx215_2, hx215_3, hx215_4, hl215_1, hi215_1, hl215_2, hi215_2⟩ := at_T106 HR0.out x11_1 p215 q215
           cases e215
           replace hx215_0 := (HB.out.cell (World.block_lt_of_cell? w _ hx215_0)).trans hx215_0
           replace hx215_1 := (HB.out.cell (World.block_lt_of_cell? w _ hx215_1)).trans hx215_1
           replace hx215_2 := (HB.out.cell (World.block_lt_of_cell? w _ hx215_2)).trans hx215_2
           replace hx215_3 := (HB.out.cell (World.block_lt_of_cell? w _ hx215_3)).trans hx215_3
           replace hx215_4 := (HB.out.cell (World.block_lt_of_cell? w _ hx215_4)).trans hx215_4
           have HR215_1 := Aside0.mk hi215_1
           have HC215_1 := Aside0.mk hl215_1
           clear hi215_1 hl215_1
           have HR215_2 := Aside0.mk hi215_2
           have HC215_2 := Aside0.mk hl215_2
           clear hi215_2 hl215_2
           replace p215 := eq_true p215
           replace q215 := eq_true q215
           go_wp2_with (first | ((with_reducible refine gate_dst (N := 12) rfl ?_); (try (refine gate_guard (by rfl) ?_; dsimp only)); refine box_event ?hg (N := 12) ?hd (cs := #[.string (⟨#[]⟩ : ByteArray), .slice none 0 0, .slice none 0 0, .int .i64 0, .bool false]) (t := 106) ?hr ?_; (case hd => rfl); (case hg => rfl); (case hr => first | (go_simp; done) | (go_simp; rfl)); intro gb216 hg w47 hbox hb; have n0_ := Aside0.mk (below_step HBa hb); have n1_ := Aside0.mk (hbox); have n2_ := Aside0.mk ((by rw [hg]; exact (below_size HBa) : w.heap.size ≤ gb216)); have n3_ := Aside0.mk ((by rw [hg]; exact (below_size HBa) : w.heap.size ≤ gb216)); clear HB; have HB := n0_; have BK216 := n1_; have GW216 := n2_; have GE216 := n3_; clear n0_ n1_ n2_ n3_; clear hb hbox hg; have hcz48_0 : w47.cell? ⟨gb216, 0, none⟩ = some (.string (⟨#[]⟩ : ByteArray)) := (blk_cell BK216.out 0).trans rfl; have hcz48_1 : w47.cell? ⟨gb216, 1, none⟩ = some (.slice none 0 0) := (blk_cell BK216.out 1).trans rfl; have hcz48_2 : w47.cell? ⟨gb216, 2, none⟩ = some (.slice none 0 0) := (blk_cell BK216.out 2).trans rfl; have hcz48_3 : w47.cell? ⟨gb216, 3, none⟩ = some (.int .i64 0) := (blk_cell BK216.out 3).trans rfl; have hcz48_4 : w47.cell? ⟨gb216, 4, none⟩ = some (.bool false) := (blk_cell BK216.out 4).trans rfl; have hfz48_0 := blk_frozen BK216.out 0; have hfz48_1 := blk_frozen BK216.out 1; have hfz48_2 := blk_frozen BK216.out 2; have hfz48_3 := blk_frozen BK216.out 3; have hfz48_4 := blk_frozen BK216.out 4) | (go_at_call 29; (with_reducible refine (spec_DnUnder.calls k1 _ _ l2 _ _ ((rd_T106 l0 x11_1).f1) true _ ?side1 ?side2 ?side3 ?side4 A34.out).mono ?_); (case side1 => exact Kd.C_below HR2.out (HBb GE216)); (case side2 => exact HC2.out); (case side3 => exact Kd.C_below HR215_1.out (HBb GE216)); (case side4 => exact HC215_1.out); rintro e w49 ⟨rfl, hb⟩; have n0_ := Aside0.mk (blk_below (g := gb216) (o := .cells #[.string ((rd_T106 l0 x11_1).f0), .slice A215_1 ((rd_T106 l0 x11_1).f1).length c215_1, .slice A215_2 ((rd_T106 l0 x11_1).f2).length c215_2, .int .i64 ((rd_T106 l0 x11_1).f3), .bool ((rd_T106 l0 x11_1).f4)] 106 (0, 0)) (by (with_reducible repeat (first | refine blk_drewN ?_ _ | refine blk_drew ?_ | refine blk_alloc ?_ _)); refine blk_put (cs := #[.string ((rd_T106 l0 x11_1).f0), .slice A215_1 ((rd_T106 l0 x11_1).f1).length c215_1, .slice A215_2 ((rd_T106 l0 x11_1).f2).length c215_2, .int .i64 ((rd_T106 l0 x11_1).f3), .bool false]) ?_ 4 _ rfl; (with_reducible repeat (first | refine blk_drewN ?_ _ | refine blk_drew ?_ | refine blk_alloc ?_ _)); refine blk_put (cs := #[.string ((rd_T106 l0 x11_1).f0), .slice A215_1 ((rd_T106 l0 x11_1).f1).length c215_1, .slice A215_2 ((rd_T106 l0 x11_1).f2).length c215_2, .int .i64 0, .bool false]) ?_ 3 _ rfl; (with_reducible repeat (first | refine blk_drewN ?_ _ | refine blk_drew ?_ | refine blk_alloc ?_ _)); refine blk_put (cs := #[.string ((rd_T106 l0 x11_1).f0), .slice A215_1 ((rd_T106 l0 x11_1).f1).length c215_1, .slice none 0 0, .int .i64 0, .bool false]) ?_ 2 _ rfl; (with_reducible repeat (first | refine blk_drewN ?_ _ | refine blk_drew ?_ | refine blk_alloc ?_ _)); refine blk_put (cs := #[.string ((rd_T106 l0 x11_1).f0), .slice none 0 0, .slice none 0 0, .int .i64 0, .bool false]) ?_ 1 _ rfl; (with_reducible repeat (first | refine blk_drewN ?_ _ | refine blk_drew ?_ | refine blk_alloc ?_ _)); refine blk_put (cs := #[.string (⟨#[]⟩ : ByteArray), .slice none 0 0, .slice none 0 0, .int .i64 0, .bool false]) ?_ 0 _ rfl; (with_reducible repeat (first | refine blk_drewN ?_ _ | refine blk_drew ?_ | refine blk_alloc ?_ _)); exact BK216.out) hb); have n1_ := Aside0.mk (below_step (HBb GE216) hb); clear BK216; clear HB; have BK216 := n0_; have HB := n1_; clear n0_ n1_; (try clear hb); (try clear hb2); (try clear hk); (try clear hi); have hcz50_0 : w49.cell? ⟨gb216, 0, none⟩ = some (.string ((rd_T106 l0 x11_1).f0)) := (blk_cell BK216.out 0).trans rfl; have hcz50_1 : w49.cell? ⟨gb216, 1, none⟩ = some (.slice A215_1 ((rd_T106 l0 x11_1).f1).length c215_1) := (blk_cell BK216.out 1).trans rfl; have hcz50_2 : w49.cell? ⟨gb216, 2, none⟩ = some (.slice A215_2 ((rd_T106 l0 x11_1).f2).length c215_2) := (blk_cell BK216.out 2).trans rfl; have hcz50_3 : w49.cell? ⟨gb216, 3, none⟩ = some (.int .i64 ((rd_T106 l0 x11_1).f3)) := (blk_cell BK216.out 3).trans rfl; have hcz50_4 : w49.cell? ⟨gb216, 4, none⟩ = some (.bool ((rd_T106 l0 x11_1).f4)) := (blk_cell BK216.out 4).trans rfl; have hfz50_0 := blk_frozen BK216.out 0; have hfz50_1 := blk_frozen BK216.out 1; have hfz50_2 := blk_frozen BK216.out 2; have hfz50_3 := blk_frozen BK216.out 3; have hfz50_4 := blk_frozen BK216.out 4) | (go_at_call 147; (with_reducible refine (spec_l04Has.calls k1 _ _ ((rd_T106 l0 x11_1).f2) a3 false _ ?side1 ?side2 A41.out).mono ?_); (case side1 => repeat (first | exact (Kd.C_below HR215_2.out HB.out) | (with_reducible refine Kd.C_alloc ?_ _) | (with_reducible refine Kd.C_drewN ?_ _) | (with_reducible refine Kd.C_drew ?_))); (case side2 => exact HC215_2.out); rintro e w' ⟨rfl, ⟨nd, rfl⟩⟩))
           go_roundg k1
           case measure => have := HK1.out; omega
           case rel => exact ⟨(wrap64 (x11_1 + 1)), EZc, H', ⟨by have := HK1.out; omega⟩, ⟨by repeat (first | (with_reducible first | exact HB.out | apply below_alloc | apply pw_below_drewN | apply below_drew1 | refine below_set ?_ GE216.out) | exact HB.out)⟩⟩
        ·replace c35 := Bool.eq_false_iff.mpr c35
         subst c35
         have H1 : (spec_l06Allowed.l0 k1 l0 a1 l2 a3 a4 (wrap64 (x11_1 + 1))) = some r := by rw [if_neg (show ¬ (false = true) by decide)] at H; exact H
         clear H
         have H := H1
         clear H1
         have H' := Aside0.mk H
         clear H
         have p215 : 0 ≤ (x11_1 : Int) := ODz
         have q215 : x11_1 < (l0.length : Int) := ODz
         obtain ⟨ad215, A215_1, c215_1, A215_2, c215_2, e215, hx215_0, hx215_1, hx215_2, hx215_3, hx215_4, hl215_1, hi215_1, hl215_2, hi215_2⟩ := at_T106 HR0.out x11_1 p215 q215
         cases e215
         replace hx215_0 := (HB.out.cell (World.block_lt_of_cell? w _ hx215_0)).trans hx215_0
         replace hx215_1 := (HB.out.cell (World.block_lt_of_cell? w _ hx215_1)).trans hx215_1
         replace hx215_2 := (HB.out.cell (World.block_lt_of_cell? w _ hx215_2)).trans hx215_2
         replace hx215_3 := (HB.out.cell (World.block_lt_of_cell? w _ hx215_3)).trans hx215_3
         replace hx215_4 := (HB.out.cell (World.block_lt_of_cell? w _ hx215_4)).trans hx215_4
         have HR215_1 := Aside0.mk hi215_1
         have HC215_1 := Aside0.mk hl215_1
         clear hi215_1 hl215_1
         have HR215_2 := Aside0.mk hi215_2
         have HC215_2 := Aside0.mk hl215_2
         clear hi215_2 hl215_2
         replace p215 := eq_true p215
         replace q215 := eq_true q215
         go_wp2_with (first | ((with_reducible refine gate_dst (N := 12) rfl ?_); (try (refine gate_guard (by rfl) ?_; dsimp only)); refine box_event ?hg (N := 12) ?hd (cs := #[.string (⟨#[]⟩ : ByteArray), .slice none 0 0, .slice none 0 0, .int .i64 0, .bool false]) (t := 106) ?hr ?_; (case hd => rfl); (case hg => rfl); (case hr => first | (go_simp; done) | (go_simp; rfl)); intro gb216 hg w51 hbox hb; have n0_ := Aside0.mk (below_step HBa hb); have n1_ := Aside0.mk (hbox); have n2_ := Aside0.mk ((by rw [hg]; exact (below_size HBa) : w.heap.size ≤ gb216)); have n3_ := Aside0.mk ((by rw [hg]; exact (below_size HBa) : w.heap.size ≤ gb216)); clear HB; have HB := n0_; have BK216 := n1_; have GW216 := n2_; have GE216 := n3_; clear n0_ n1_ n2_ n3_; clear hb hbox hg; have hcz52_0 : w51.cell? ⟨gb216, 0, none⟩ = some (.string (⟨#[]⟩ : ByteArray)) := (blk_cell BK216.out 0).trans rfl; have hcz52_1 : w51.cell? ⟨gb216, 1, none⟩ = some (.slice none 0 0) := (blk_cell BK216.out 1).trans rfl; have hcz52_2 : w51.cell? ⟨gb216, 2, none⟩ = some (.slice none 0 0) := (blk_cell BK216.out 2).trans rfl; have hcz52_3 : w51.cell? ⟨gb216, 3, none⟩ = some (.int .i64 0) := (blk_cell BK216.out 3).trans rfl; have hcz52_4 : w51.cell? ⟨gb216, 4, none⟩ = some (.bool false) := (blk_cell BK216.out 4).trans rfl; have hfz52_0 := blk_frozen BK216.out 0; have hfz52_1 := blk_frozen BK216.out 1; have hfz52_2 := blk_frozen BK216.out 2; have hfz52_3 := blk_frozen BK216.out 3; have hfz52_4 := blk_frozen BK216.out 4) | (go_at_call 29; (with_reducible refine (spec_DnUnder.calls k1 _ _ l2 _ _ ((rd_T106 l0 x11_1).f1) false _ ?side1 ?side2 ?side3 ?side4 A34.out).mono ?_); (case side1 => exact Kd.C_below HR2.out (HBb GE216)); (case side2 => exact HC2.out); (case side3 => exact Kd.C_below HR215_1.out (HBb GE216)); (case side4 => exact HC215_1.out); rintro e w53 ⟨rfl, hb⟩; have n0_ := Aside0.mk (blk_below (g := gb216) (o := .cells #[.string ((rd_T106 l0 x11_1).f0), .slice A215_1 ((rd_T106 l0 x11_1).f1).length c215_1, .slice A215_2 ((rd_T106 l0 x11_1).f2).length c215_2, .int .i64 ((rd_T106 l0 x11_1).f3), .bool ((rd_T106 l0 x11_1).f4)] 106 (0, 0)) (by (with_reducible repeat (first | refine blk_drewN ?_ _ | refine blk_drew ?_ | refine blk_alloc ?_ _)); refine blk_put (cs := #[.string ((rd_T106 l0 x11_1).f0), .slice A215_1 ((rd_T106 l0 x11_1).f1).length c215_1, .slice A215_2 ((rd_T106 l0 x11_1).f2).length c215_2, .int .i64 ((rd_T106 l0 x11_1).f3), .bool false]) ?_ 4 _ rfl; (with_reducible repeat (first | refine blk_drewN ?_ _ | refine blk_drew ?_ | refine blk_alloc ?_ _)); refine blk_put (cs := #[.string ((rd_T106 l0 x11_1).f0), .slice A215_1 ((rd_T106 l0 x11_1).f1).length c215_1, .slice A215_2 ((rd_T106 l0 x11_1).f2).length c215_2, .int .i64 0, .bool false]) ?_ 3 _ rfl; (with_reducible repeat (first | refine blk_drewN ?_ _ | refine blk_drew ?_ | refine blk_alloc ?_ _)); refine blk_put (cs := #[.string ((rd_T106 l0 x11_1).f0), .slice A215_1 ((rd_T106 l0 x11_1).f1).length c215_1, .slice none 0 0, .int .i64 0, .bool false]) ?_ 2 _ rfl; (with_reducible repeat (first | refine blk_drewN ?_ _ | refine blk_drew ?_ | refine blk_alloc ?_ _)); refine blk_put (cs := #[.string ((rd_T106 l0 x11_1).f0), .slice none 0 0, .slice none 0 0, .int .i64 0, .bool false]) ?_ 1 _ rfl; (with_reducible repeat (first | refine blk_drewN ?_ _ | refine blk_drew ?_ | refine blk_alloc ?_ _)); refine blk_put (cs := #[.string (⟨#[]⟩ : ByteArray), .slice none 0 0, .slice none 0 0, .int .i64 0, .bool false]) ?_ 0 _ rfl; (with_reducible repeat (first | refine blk_drewN ?_ _ | refine blk_drew ?_ | refine blk_alloc ?_ _)); exact BK216.out) hb); have n1_ := Aside0.mk (below_step (HBb GE216) hb); clear BK216; clear HB; have BK216 := n0_; have HB := n1_; clear n0_ n1_; (try clear hb); (try clear hb2); (try clear hk); (try clear hi)))
         go_roundg k1
         case measure => have := HK1.out; omega
         case rel => exact ⟨(wrap64 (x11_1 + 1)), EZc, H', ⟨by have := HK1.out; omega⟩, ⟨by repeat (first | (with_reducible first | exact HB.out | apply below_alloc | apply pw_below_drewN | apply below_drew1 | refine below_set ?_ GE216.out) | exact HB.out)⟩⟩
       ·rw [if_neg c33] at H
        have c33b0 : (((rd_T106 l0 x11_1).f3) == a4) = false := beq_eq_false_iff_ne.mpr c33
        have c33b1 : (((rd_T106 l0 x11_1).f3) != a4) = true := bne_iff_ne.mpr c33
        have H' := Aside0.mk H
        clear H
        have p215 : 0 ≤ (x11_1 : Int) := ODz
        have q215 : x11_1 < (l0.length : Int) := ODz
        obtain ⟨ad215, A215_1, c215_1, A215_2, c215_2, e215, hx215_0, hx215_1, hx215_2, hx215_3, hx215_4, hl215_1, hi215_1, hl215_2, hi215_2⟩ := at_T106 HR0.out x11_1 p215 q215
        cases e215
        replace hx215_0 := (HB.out.cell (World.block_lt_of_cell? w _ hx215_0)).trans hx215_0
        replace hx215_1 := (HB.out.cell (World.block_lt_of_cell? w _ hx215_1)).trans hx215_1
        replace hx215_2 := (HB.out.cell (World.block_lt_of_cell? w _ hx215_2)).trans hx215_2
        replace hx215_3 := (HB.out.cell (World.block_lt_of_cell? w _ hx215_3)).trans hx215_3
        replace hx215_4 := (HB.out.cell (World.block_lt_of_cell? w _ hx215_4)).trans hx215_4
        have HR215_1 := Aside0.mk hi215_1
        have HC215_1 := Aside0.mk hl215_1
        clear hi215_1 hl215_1
        have HR215_2 := Aside0.mk hi215_2
        have HC215_2 := Aside0.mk hl215_2
        clear hi215_2 hl215_2
        replace p215 := eq_true p215
        replace q215 := eq_true q215
        go_wp2_with (first | ((with_reducible refine gate_dst (N := 12) rfl ?_); (try (refine gate_guard (by rfl) ?_; dsimp only)); refine box_event ?hg (N := 12) ?hd (cs := #[.string (⟨#[]⟩ : ByteArray), .slice none 0 0, .slice none 0 0, .int .i64 0, .bool false]) (t := 106) ?hr ?_; (case hd => rfl); (case hg => rfl); (case hr => first | (go_simp; done) | (go_simp; rfl)); intro gb216 hg w54 hbox hb; have n0_ := Aside0.mk (below_step HBa hb); have n1_ := Aside0.mk (hbox); have n2_ := Aside0.mk ((by rw [hg]; exact (below_size HBa) : w.heap.size ≤ gb216)); have n3_ := Aside0.mk ((by rw [hg]; exact (below_size HBa) : w.heap.size ≤ gb216)); clear HB; have HB := n0_; have BK216 := n1_; have GW216 := n2_; have GE216 := n3_; clear n0_ n1_ n2_ n3_; clear hb hbox hg; have hcz55_0 : w54.cell? ⟨gb216, 0, none⟩ = some (.string (⟨#[]⟩ : ByteArray)) := (blk_cell BK216.out 0).trans rfl; have hcz55_1 : w54.cell? ⟨gb216, 1, none⟩ = some (.slice none 0 0) := (blk_cell BK216.out 1).trans rfl; have hcz55_2 : w54.cell? ⟨gb216, 2, none⟩ = some (.slice none 0 0) := (blk_cell BK216.out 2).trans rfl; have hcz55_3 : w54.cell? ⟨gb216, 3, none⟩ = some (.int .i64 0) := (blk_cell BK216.out 3).trans rfl; have hcz55_4 : w54.cell? ⟨gb216, 4, none⟩ = some (.bool false) := (blk_cell BK216.out 4).trans rfl; have hfz55_0 := blk_frozen BK216.out 0; have hfz55_1 := blk_frozen BK216.out 1; have hfz55_2 := blk_frozen BK216.out 2; have hfz55_3 := blk_frozen BK216.out 3; have hfz55_4 := blk_frozen BK216.out 4))
        go_roundg k1
        case measure => have := HK1.out; omega
        case rel => exact ⟨(wrap64 (x11_1 + 1)), EZc, H', ⟨by have := HK1.out; omega⟩, ⟨by repeat (first | (with_reducible first | exact HB.out | apply below_alloc | apply pw_below_drewN | apply below_drew1 | refine below_set ?_ GE216.out) | exact HB.out)⟩⟩
      ·rw [if_neg c32] at H
       have c32b0 : (((rd_T106 l0 x11_1).f0).toList == a1.toList) = false := beq_eq_false_iff_ne.mpr c32
       have c32b1 : (((rd_T106 l0 x11_1).f0).toList != a1.toList) = true := bne_iff_ne.mpr c32
       have H' := Aside0.mk H
       clear H
       have p215 : 0 ≤ (x11_1 : Int) := ODz
       have q215 : x11_1 < (l0.length : Int) := ODz
       obtain ⟨ad215, A215_1, c215_1, A215_2, c215_2, e215, hx215_0, hx215_1, hx215_2, hx215_3, hx215_4, hl215_1, hi215_1, hl215_2, hi215_2⟩ := at_T106 HR0.out x11_1 p215 q215
       cases e215
       replace hx215_0 := (HB.out.cell (World.block_lt_of_cell? w _ hx215_0)).trans hx215_0
       replace hx215_1 := (HB.out.cell (World.block_lt_of_cell? w _ hx215_1)).trans hx215_1
       replace hx215_2 := (HB.out.cell (World.block_lt_of_cell? w _ hx215_2)).trans hx215_2
       replace hx215_3 := (HB.out.cell (World.block_lt_of_cell? w _ hx215_3)).trans hx215_3
       replace hx215_4 := (HB.out.cell (World.block_lt_of_cell? w _ hx215_4)).trans hx215_4
       have HR215_1 := Aside0.mk hi215_1
       have HC215_1 := Aside0.mk hl215_1
       clear hi215_1 hl215_1
       have HR215_2 := Aside0.mk hi215_2
       have HC215_2 := Aside0.mk hl215_2
       clear hi215_2 hl215_2
       replace p215 := eq_true p215
       replace q215 := eq_true q215
       go_wp2_with (first | ((with_reducible refine gate_dst (N := 12) rfl ?_); (try (refine gate_guard (by rfl) ?_; dsimp only)); refine box_event ?hg (N := 12) ?hd (cs := #[.string (⟨#[]⟩ : ByteArray), .slice none 0 0, .slice none 0 0, .int .i64 0, .bool false]) (t := 106) ?hr ?_; (case hd => rfl); (case hg => rfl); (case hr => first | (go_simp; done) | (go_simp; rfl)); intro gb216 hg w56 hbox hb; have n0_ := Aside0.mk (below_step HBa hb); have n1_ := Aside0.mk (hbox); have n2_ := Aside0.mk ((by rw [hg]; exact (below_size HBa) : w.heap.size ≤ gb216)); have n3_ := Aside0.mk ((by rw [hg]; exact (below_size HBa) : w.heap.size ≤ gb216)); clear HB; have HB := n0_; have BK216 := n1_; have GW216 := n2_; have GE216 := n3_; clear n0_ n1_ n2_ n3_; clear hb hbox hg; have hcz57_0 : w56.cell? ⟨gb216, 0, none⟩ = some (.string (⟨#[]⟩ : ByteArray)) := (blk_cell BK216.out 0).trans rfl; have hcz57_1 : w56.cell? ⟨gb216, 1, none⟩ = some (.slice none 0 0) := (blk_cell BK216.out 1).trans rfl; have hcz57_2 : w56.cell? ⟨gb216, 2, none⟩ = some (.slice none 0 0) := (blk_cell BK216.out 2).trans rfl; have hcz57_3 : w56.cell? ⟨gb216, 3, none⟩ = some (.int .i64 0) := (blk_cell BK216.out 3).trans rfl; have hcz57_4 : w56.cell? ⟨gb216, 4, none⟩ = some (.bool false) := (blk_cell BK216.out 4).trans rfl; have hfz57_0 := blk_frozen BK216.out 0; have hfz57_1 := blk_frozen BK216.out 1; have hfz57_2 := blk_frozen BK216.out 2; have hfz57_3 := blk_frozen BK216.out 3; have hfz57_4 := blk_frozen BK216.out 4))
       go_roundg k1
       case measure => have := HK1.out; omega
       case rel => exact ⟨(wrap64 (x11_1 + 1)), EZc, H', ⟨by have := HK1.out; omega⟩, ⟨by repeat (first | (with_reducible first | exact HB.out | apply below_alloc | apply pw_below_drewN | apply below_drew1 | refine below_set ?_ GE216.out) | exact HB.out)⟩⟩
    ·rw [if_neg c7] at H
     exact absurd H (by simp)
   ·rw [if_neg c6] at H
    have c6b0 : decide (x11_1 < (l0.length : Int)) = false := decide_eq_false c6
    clear c6
    obtain rfl := Option.some.inj H
    go_wp2
    go_ret
    exact ⟨EZa, HBa⟩
def spec_Allowed.j0 : Nat → List (S106) → ByteArray → List (S42) → ByteArray → Int → Bool → Option (Bool)
 | 0, _, _, _, _, _, _ => none
 | k + 1, x0, x1, x2, x3, x4, x28 => if x28 = true then (some false) else ((spec_AclRight.f k x0).bind fun t221 => (if t221 = true then ((spec_NameRight.f k x1).bind fun t222 => (if t222 = true then (if (x2.length : Int) = 0 then (some false) else ((spec_DnRight.f k x2).bind fun t223 => (if t223 = true then (if x3.toList = ([] : List UInt8) then ((spec_l02Is.f x4 1 4).bind fun t224 => (if t224 = true then ((spec_l06Allowed.f k x0 x1 x2 x3 x4).bind fun t225 => (some t225)) else (some false))) else ((spec_NameRight.f k x3).bind fun t226 => (if t226 = true then ((spec_l02Is.f x4 1 4).bind fun t227 => (if t227 = true then ((spec_l06Allowed.f k x0 x1 x2 x3 x4).bind fun t228 => (some t228)) else (some false))) else (some false)))) else (some false)))) else (some false))) else (some false)))
def spec_Allowed.f (k : Nat) (l0 : List (S106)) (a1 : ByteArray) (l2 : List (S42)) (a3 : ByteArray) (a4 : Int) : Option (Bool) := if (l0.length : Int) > 400 then (spec_Allowed.j0 k l0 a1 l2 a3 a4 true) else (if (l2.length : Int) > 400 then (spec_Allowed.j0 k l0 a1 l2 a3 a4 true) else (if (a1.size : Int) > 8000 then (spec_Allowed.j0 k l0 a1 l2 a3 a4 true) else (spec_Allowed.j0 k l0 a1 l2 a3 a4 (decide ((a3.size : Int) > 8000)))))
theorem spec_Allowed.mono_l : ∀ k, (∀ y0 y1 y2 y3 y4 y5, LeO (spec_Allowed.j0 k y0 y1 y2 y3 y4 y5) (spec_Allowed.j0 (k + 1) y0 y1 y2 y3 y4 y5))
 | 0 => fun _ _ _ _ _ _ r h => by simp [spec_Allowed.j0] at h
 | k + 1 => by
  have ih0 := spec_Allowed.mono_l k
  ·intro y0 y1 y2 y3 y4 y5
   unfold spec_Allowed.j0
   repeat' first
   | (with_reducible exact ih0 _ _ _ _ _ _)
   | (with_reducible exact spec_AclRight.mono _ _)
   | (with_reducible exact spec_DnRight.mono _ _)
   | (with_reducible exact spec_NameRight.mono _ _)
   | (with_reducible exact spec_l06Allowed.mono _ _ _ _ _ _)
   | (with_reducible exact LeO.refl _)
   | (with_reducible exact LeO.none _)
   | (with_reducible refine LeO.ite ?_ ?_)
   | (with_reducible refine LeO.bind ?_ (fun _ => ?_))
   | exact ih0 _ _ _ _ _ _
   | exact spec_AclRight.mono _ _
   | exact spec_DnRight.mono _ _
   | exact spec_NameRight.mono _ _
   | exact spec_l06Allowed.mono _ _ _ _ _ _
   | exact LeO.none _
   | refine LeO.ite ?_ ?_
   | refine LeO.bind ?_ (fun _ => ?_)
theorem spec_Allowed.mono : ∀ a0 a1 a2 a3 a4 k, LeO (spec_Allowed.f k a0 a1 a2 a3 a4) (spec_Allowed.f (k + 1) a0 a1 a2 a3 a4) := by
 intro a0 a1 a2 a3 a4 k
 have ih0 := spec_Allowed.mono_l k
 unfold spec_Allowed.f
 repeat' first
   | (with_reducible exact ih0 _ _ _ _ _ _)
   | (with_reducible exact spec_AclRight.mono _ _)
   | (with_reducible exact spec_DnRight.mono _ _)
   | (with_reducible exact spec_NameRight.mono _ _)
   | (with_reducible exact spec_l06Allowed.mono _ _ _ _ _ _)
   | (with_reducible exact LeO.refl _)
   | (with_reducible exact LeO.none _)
   | (with_reducible refine LeO.ite ?_ ?_)
   | (with_reducible refine LeO.bind ?_ (fun _ => ?_))
   | exact ih0 _ _ _ _ _ _
   | exact spec_AclRight.mono _ _
   | exact spec_DnRight.mono _ _
   | exact spec_NameRight.mono _ _
   | exact spec_l06Allowed.mono _ _ _ _ _ _
   | exact LeO.none _
   | refine LeO.ite ?_ ?_
   | refine LeO.bind ?_ (fun _ => ?_)
set_option maxHeartbeats 8000000 in
set_option maxRecDepth 100000 in
theorem spec_Allowed.calls (k : Nat) (A0 : Option Addr) (c0 : Nat) (l0 : List (S106)) (a1 : ByteArray) (A2 : Option Addr) (c2 : Nat) (l2 : List (S42)) (a3 : ByteArray) (a4 : Int) (r : Bool) (w : World) (hr0 : Kd.C k106 w A0 l0.length l0) (hc0 : l0.length ≤ c0) (hr2 : Kd.C k42 w A2 l2.length l2) (hc2 : l2.length ≤ c2) (h : spec_Allowed.f k l0 a1 l2 a3 a4 = some r) :
  Calls Tryd.prog 64 #[.slice A0 l0.length c0, .string a1, .slice A2 l2.length c2, .string a3, .int .i64 a4] w fun e w' => e = .returned (.bool r) ∧ Below w.heap.size w w' := by
 have HR0 := Aside0.mk hr0
 have HC0 := Aside0.mk hc0
 clear hr0 hc0
 have HR2 := Aside0.mk hr2
 have HC2 := Aside0.mk hc2
 clear hr2 hc2
 have HB := Aside0.mk (Below.refl w.heap.size w)
 have H : (if (l0.length : Int) > 400 then (spec_Allowed.j0 k l0 a1 l2 a3 a4 true) else (if (l2.length : Int) > 400 then (spec_Allowed.j0 k l0 a1 l2 a3 a4 true) else (if (a1.size : Int) > 8000 then (spec_Allowed.j0 k l0 a1 l2 a3 a4 true) else (spec_Allowed.j0 k l0 a1 l2 a3 a4 (decide ((a3.size : Int) > 8000)))))) = some r := h
 clear h
 have HC6 := Aside0.mk H
 clear H
 go_enter Tryd.func64, Tryd.ntmps64
 go_upto_region 1 with (fail)
 go_cut [28] (fun v28 wc => ∃ (kq : Nat) (x28_5 : Bool), v28 = .bool x28_5 ∧ Aside0 (spec_Allowed.j0 kq l0 a1 l2 a3 a4 x28_5 = some r) ∧ Aside0 (kq ≤ k) ∧ Aside0 (Below w.heap.size w wc))
 case first =>
  have H := HC6.out
  clear HC6
  by_cases c7 : (l0.length : Int) > 400
  ·rw [if_pos c7] at H
   have c7b0 : decide (400 < (l0.length : Int)) = true := decide_eq_true c7
   have c7b1 : decide (400 < l0.length) = true := decide_eq_true (by omega)
   clear c7
   (first | rw [c7b0] | rw [c7v0] | (simp only [i64_w, i32_w]; rw [c7b0]) | (simp only [i64_w, i32_w]; rw [c7v0]) | skip)
   have H' := Aside0.mk H
   clear H
   go_wp2
   go_meet
   case rel => exact ⟨_, (true), EZc, H', ⟨by first | omega | exact Nat.le_refl _⟩, ⟨HBa⟩⟩
  ·rw [if_neg c7] at H
   have c7b0 : decide (400 < (l0.length : Int)) = false := decide_eq_false c7
   have c7b1 : decide (400 < l0.length) = false := decide_eq_false (by omega)
   clear c7
   (first | rw [c7b0] | rw [c7v0] | (simp only [i64_w, i32_w]; rw [c7b0]) | (simp only [i64_w, i32_w]; rw [c7v0]) | skip)
   by_cases c8 : (l2.length : Int) > 400
   ·rw [if_pos c8] at H
    have c8b0 : decide (400 < (l2.length : Int)) = true := decide_eq_true c8
    have c8b1 : decide (400 < l2.length) = true := decide_eq_true (by omega)
    clear c8
    have H' := Aside0.mk H
    clear H
    go_wp2
    go_meet
    case rel => exact ⟨_, (true), EZc, H', ⟨by first | omega | exact Nat.le_refl _⟩, ⟨HBa⟩⟩
   ·rw [if_neg c8] at H
    have c8b0 : decide (400 < (l2.length : Int)) = false := decide_eq_false c8
    have c8b1 : decide (400 < l2.length) = false := decide_eq_false (by omega)
    clear c8
    by_cases c9 : (a1.size : Int) > 8000
    ·rw [if_pos c9] at H
     have c9b0 : decide (8000 < (a1.size : Int)) = true := decide_eq_true c9
     have c9b1 : decide (8000 < a1.size) = true := decide_eq_true (by omega)
     clear c9
     have H' := Aside0.mk H
     clear H
     go_wp2
     go_meet
     case rel => exact ⟨_, (true), EZc, H', ⟨by first | omega | exact Nat.le_refl _⟩, ⟨HBa⟩⟩
    ·rw [if_neg c9] at H
     have c9b0 : decide (8000 < (a1.size : Int)) = false := decide_eq_false c9
     have c9b1 : decide (8000 < a1.size) = false := decide_eq_false (by omega)
     clear c9
     have H' := Aside0.mk H
     clear H
     go_wp2
     go_meet
     case rel => exact ⟨_, (decide ((a3.size : Int) > 8000)), EZc, H', ⟨by first | omega | exact Nat.le_refl _⟩, ⟨HBa⟩⟩
 case rest =>
  clear HC6
  try clear c2
  try clear p2
  try clear c6
  try clear c7
  try clear c7b0
  try clear c7b1
  try clear c8
  try clear c8b0
  try clear c8b1
  try clear c9
  try clear c9b0
  try clear c9b1
  obtain ⟨kq, x28_5, rfl, HA, HJ5, HB⟩ := hcut
  cases kq with
  | zero => exact absurd HA.out (by simp [spec_Allowed.j0])
  | succ kj5 =>
   have H := HA.out
   clear HA
   simp only [spec_Allowed.j0] at H
   by_cases c10 : x28_5 = true
   ·subst c10
    have H1 : (some false) = some r := by rw [if_pos rfl] at H; exact H
    clear H
    have H := H1
    clear H1
    obtain rfl := Option.some.inj H
    go_wp2
    go_ret
    exact ⟨EZa, HBa⟩
   ·replace c10 := Bool.eq_false_iff.mpr c10
    subst c10
    have H1 : ((spec_AclRight.f kj5 l0).bind fun t221 => (if t221 = true then ((spec_NameRight.f kj5 a1).bind fun t222 => (if t222 = true then (if (l2.length : Int) = 0 then (some false) else ((spec_DnRight.f kj5 l2).bind fun t223 => (if t223 = true then (if a3.toList = ([] : List UInt8) then ((spec_l02Is.f a4 1 4).bind fun t224 => (if t224 = true then ((spec_l06Allowed.f kj5 l0 a1 l2 a3 a4).bind fun t225 => (some t225)) else (some false))) else ((spec_NameRight.f kj5 a3).bind fun t226 => (if t226 = true then ((spec_l02Is.f a4 1 4).bind fun t227 => (if t227 = true then ((spec_l06Allowed.f kj5 l0 a1 l2 a3 a4).bind fun t228 => (some t228)) else (some false))) else (some false)))) else (some false)))) else (some false))) else (some false))) = some r := by rw [if_neg (show ¬ (false = true) by decide)] at H; exact H
    clear H
    have H := H1
    clear H1
    replace H := Option.bind_eq_some_iff.mp H
    obtain ⟨t221, A110, H⟩ := H
    replace H : (if t221 = true then ((spec_NameRight.f kj5 a1).bind fun t222 => (if t222 = true then (if (l2.length : Int) = 0 then (some false) else ((spec_DnRight.f kj5 l2).bind fun t223 => (if t223 = true then (if a3.toList = ([] : List UInt8) then ((spec_l02Is.f a4 1 4).bind fun t224 => (if t224 = true then ((spec_l06Allowed.f kj5 l0 a1 l2 a3 a4).bind fun t225 => (some t225)) else (some false))) else ((spec_NameRight.f kj5 a3).bind fun t226 => (if t226 = true then ((spec_l02Is.f a4 1 4).bind fun t227 => (if t227 = true then ((spec_l06Allowed.f kj5 l0 a1 l2 a3 a4).bind fun t228 => (some t228)) else (some false))) else (some false)))) else (some false)))) else (some false))) else (some false)) = some r := H
    have A11 := Aside0.mk A110
    clear A110
    by_cases c12 : t221 = true
    ·subst c12
     have H1 : ((spec_NameRight.f kj5 a1).bind fun t222 => (if t222 = true then (if (l2.length : Int) = 0 then (some false) else ((spec_DnRight.f kj5 l2).bind fun t223 => (if t223 = true then (if a3.toList = ([] : List UInt8) then ((spec_l02Is.f a4 1 4).bind fun t224 => (if t224 = true then ((spec_l06Allowed.f kj5 l0 a1 l2 a3 a4).bind fun t225 => (some t225)) else (some false))) else ((spec_NameRight.f kj5 a3).bind fun t226 => (if t226 = true then ((spec_l02Is.f a4 1 4).bind fun t227 => (if t227 = true then ((spec_l06Allowed.f kj5 l0 a1 l2 a3 a4).bind fun t228 => (some t228)) else (some false))) else (some false)))) else (some false)))) else (some false))) = some r := by rw [if_pos rfl] at H; exact H
     clear H
     have H := H1
     clear H1
     replace H := Option.bind_eq_some_iff.mp H
     obtain ⟨t222, A130, H⟩ := H
     replace H : (if t222 = true then (if (l2.length : Int) = 0 then (some false) else ((spec_DnRight.f kj5 l2).bind fun t223 => (if t223 = true then (if a3.toList = ([] : List UInt8) then ((spec_l02Is.f a4 1 4).bind fun t224 => (if t224 = true then ((spec_l06Allowed.f kj5 l0 a1 l2 a3 a4).bind fun t225 => (some t225)) else (some false))) else ((spec_NameRight.f kj5 a3).bind fun t226 => (if t226 = true then ((spec_l02Is.f a4 1 4).bind fun t227 => (if t227 = true then ((spec_l06Allowed.f kj5 l0 a1 l2 a3 a4).bind fun t228 => (some t228)) else (some false))) else (some false)))) else (some false)))) else (some false)) = some r := H
     have A13 := Aside0.mk A130
     clear A130
     by_cases c14 : t222 = true
     ·subst c14
      have H1 : (if (l2.length : Int) = 0 then (some false) else ((spec_DnRight.f kj5 l2).bind fun t223 => (if t223 = true then (if a3.toList = ([] : List UInt8) then ((spec_l02Is.f a4 1 4).bind fun t224 => (if t224 = true then ((spec_l06Allowed.f kj5 l0 a1 l2 a3 a4).bind fun t225 => (some t225)) else (some false))) else ((spec_NameRight.f kj5 a3).bind fun t226 => (if t226 = true then ((spec_l02Is.f a4 1 4).bind fun t227 => (if t227 = true then ((spec_l06Allowed.f kj5 l0 a1 l2 a3 a4).bind fun t228 => (some t228)) else (some false))) else (some false)))) else (some false)))) = some r := by rw [if_pos rfl] at H; exact H
      clear H
      have H := H1
      clear H1
      by_cases c15 : (l2.length : Int) = 0
      ·rw [if_pos c15] at H
       have c15b0 : ((l2.length : Int) == 0) = true := beq_iff_eq.mpr c15
       have c15b1 : ((l2.length : Int) != 0) = false := bne_eq_false_iff_eq.mpr c15
       clear c15
       obtain rfl := Option.some.inj H
       go_wp2_with (first | ((with_reducible refine gate_callee (f := 48) rfl ?_); refine goesL_ (some 30) rfl rfl Tryd.func48 (by kernel_rfl) rfl #[.slice A0 l0.length c0] rfl MPz ?_; (with_reducible refine (spec_AclRight.calls kj5 _ _ l0 true _ ?side1 ?side2 A11.out).mono ?_); (case side1 => repeat (first | exact (Kd.C_below HR0.out HB.out) | (with_reducible refine Kd.C_alloc ?_ _) | (with_reducible refine Kd.C_drewN ?_ _) | (with_reducible refine Kd.C_drew ?_))); (case side2 => exact HC0.out); rintro e w16 ⟨rfl, hb⟩; refine ⟨_, rfl, ?_⟩; have n0_ := Aside0.mk (below_step HBa hb); clear HB; have HB := n0_; clear n0_; (try clear hb); (try clear hb2); (try clear hk); (try clear hi)) | (go_at_call 84; (with_reducible refine (spec_NameRight.calls kj5 a1 true _ A13.out).mono ?_); rintro e w' ⟨rfl, ⟨nd, rfl⟩⟩))
       go_ret
       exact ⟨EZa, HBa⟩
      ·rw [if_neg c15] at H
       have c15b0 : ((l2.length : Int) == 0) = false := beq_eq_false_iff_ne.mpr c15
       have c15b1 : ((l2.length : Int) != 0) = true := bne_iff_ne.mpr c15
       have c15b2 : ¬ (l2 = []) := fun h_ => c15 (by rw [h_]; rfl)
       replace H := Option.bind_eq_some_iff.mp H
       obtain ⟨t223, A170, H⟩ := H
       replace H : (if t223 = true then (if a3.toList = ([] : List UInt8) then ((spec_l02Is.f a4 1 4).bind fun t224 => (if t224 = true then ((spec_l06Allowed.f kj5 l0 a1 l2 a3 a4).bind fun t225 => (some t225)) else (some false))) else ((spec_NameRight.f kj5 a3).bind fun t226 => (if t226 = true then ((spec_l02Is.f a4 1 4).bind fun t227 => (if t227 = true then ((spec_l06Allowed.f kj5 l0 a1 l2 a3 a4).bind fun t228 => (some t228)) else (some false))) else (some false)))) else (some false)) = some r := H
       have A17 := Aside0.mk A170
       clear A170
       by_cases c18 : t223 = true
       ·subst c18
        have H1 : (if a3.toList = ([] : List UInt8) then ((spec_l02Is.f a4 1 4).bind fun t224 => (if t224 = true then ((spec_l06Allowed.f kj5 l0 a1 l2 a3 a4).bind fun t225 => (some t225)) else (some false))) else ((spec_NameRight.f kj5 a3).bind fun t226 => (if t226 = true then ((spec_l02Is.f a4 1 4).bind fun t227 => (if t227 = true then ((spec_l06Allowed.f kj5 l0 a1 l2 a3 a4).bind fun t228 => (some t228)) else (some false))) else (some false)))) = some r := by rw [if_pos rfl] at H; exact H
        clear H
        have H := H1
        clear H1
        by_cases c19 : a3.toList = ([] : List UInt8)
        ·rw [if_pos c19] at H
         have c19b0 : (a3.toList == ([] : List UInt8)) = true := beq_iff_eq.mpr c19
         have c19b1 : (a3.toList != ([] : List UInt8)) = false := bne_eq_false_iff_eq.mpr c19
         clear c19
         replace H := Option.bind_eq_some_iff.mp H
         obtain ⟨t224, A200, H⟩ := H
         replace H : (if t224 = true then ((spec_l06Allowed.f kj5 l0 a1 l2 a3 a4).bind fun t225 => (some t225)) else (some false)) = some r := H
         have A20 := Aside0.mk A200
         clear A200
         by_cases c21 : t224 = true
         ·subst c21
          have H1 : ((spec_l06Allowed.f kj5 l0 a1 l2 a3 a4).bind fun t225 => (some t225)) = some r := by rw [if_pos rfl] at H; exact H
          clear H
          have H := H1
          clear H1
          replace H := Option.bind_eq_some_iff.mp H
          obtain ⟨t225, A220, H⟩ := H
          replace H : (some t225) = some r := H
          have A22 := Aside0.mk A220
          clear A220
          obtain rfl := Option.some.inj H
          go_wp2_with (first | ((with_reducible refine gate_callee (f := 48) rfl ?_); refine goesL_ (some 30) rfl rfl Tryd.func48 (by kernel_rfl) rfl #[.slice A0 l0.length c0] rfl MPz ?_; (with_reducible refine (spec_AclRight.calls kj5 _ _ l0 true _ ?side1 ?side2 A11.out).mono ?_); (case side1 => repeat (first | exact (Kd.C_below HR0.out HB.out) | (with_reducible refine Kd.C_alloc ?_ _) | (with_reducible refine Kd.C_drewN ?_ _) | (with_reducible refine Kd.C_drew ?_))); (case side2 => exact HC0.out); rintro e w23 ⟨rfl, hb⟩; refine ⟨_, rfl, ?_⟩; have n0_ := Aside0.mk (below_step HBa hb); clear HB; have HB := n0_; clear n0_; (try clear hb); (try clear hb2); (try clear hk); (try clear hi)) | (go_at_call 84; (with_reducible refine (spec_NameRight.calls kj5 a1 true _ A13.out).mono ?_); rintro e w' ⟨rfl, ⟨nd, rfl⟩⟩) | (go_at_call 33; (with_reducible refine (spec_DnRight.calls kj5 _ _ l2 true _ ?side1 ?side2 A17.out).mono ?_); (case side1 => repeat (first | exact (Kd.C_below HR2.out HBa) | (with_reducible refine Kd.C_alloc ?_ _) | (with_reducible refine Kd.C_drewN ?_ _) | (with_reducible refine Kd.C_drew ?_))); (case side2 => exact HC2.out); rintro e w24 ⟨rfl, hb⟩; have n0_ := Aside0.mk (below_step HBa hb); clear HB; have HB := n0_; clear n0_; (try clear hb); (try clear hb2); (try clear hk); (try clear hi)) | (go_at_call 113; (with_reducible refine (spec_l02Is.calls a4 1 4 true _ A20.out).mono ?_); rintro e w' ⟨rfl, ⟨nd, rfl⟩⟩) | ((with_reducible refine gate_callee (f := 114) rfl ?_); refine goesL_ (some 66) rfl rfl Tryd.func114 (by kernel_rfl) rfl #[.slice A0 l0.length c0, .string a1, .slice A2 l2.length c2, .string a3, .int .i64 a4] rfl MPz ?_; (with_reducible refine (spec_l06Allowed.calls kj5 _ _ l0 a1 _ _ l2 a3 a4 t225 _ ?side1 ?side2 ?side3 ?side4 A22.out).mono ?_); (case side1 => repeat (first | exact (Kd.C_below HR0.out HBa) | (with_reducible refine Kd.C_alloc ?_ _) | (with_reducible refine Kd.C_drewN ?_ _) | (with_reducible refine Kd.C_drew ?_))); (case side2 => exact HC0.out); (case side3 => repeat (first | exact (Kd.C_below HR2.out HBa) | (with_reducible refine Kd.C_alloc ?_ _) | (with_reducible refine Kd.C_drewN ?_ _) | (with_reducible refine Kd.C_drew ?_))); (case side4 => exact HC2.out); rintro e w25 ⟨rfl, hb⟩; refine ⟨_, rfl, ?_⟩; have n0_ := Aside0.mk (below_step HBa hb); clear HB; have HB := n0_; clear n0_; (try clear hb); (try clear hb2); (try clear hk); (try clear hi)))
          go_ret
          exact ⟨EZa, HBa⟩
         ·replace c21 := Bool.eq_false_iff.mpr c21
          subst c21
          have H1 : (some false) = some r := by rw [if_neg (show ¬ (false = true) by decide)] at H; exact H
          clear H
          have H := H1
          clear H1
          obtain rfl := Option.some.inj H
          go_wp2_with (first | ((with_reducible refine gate_callee (f := 48) rfl ?_); refine goesL_ (some 30) rfl rfl Tryd.func48 (by kernel_rfl) rfl #[.slice A0 l0.length c0] rfl MPz ?_; (with_reducible refine (spec_AclRight.calls kj5 _ _ l0 true _ ?side1 ?side2 A11.out).mono ?_); (case side1 => repeat (first | exact (Kd.C_below HR0.out HB.out) | (with_reducible refine Kd.C_alloc ?_ _) | (with_reducible refine Kd.C_drewN ?_ _) | (with_reducible refine Kd.C_drew ?_))); (case side2 => exact HC0.out); rintro e w26 ⟨rfl, hb⟩; refine ⟨_, rfl, ?_⟩; have n0_ := Aside0.mk (below_step HBa hb); clear HB; have HB := n0_; clear n0_; (try clear hb); (try clear hb2); (try clear hk); (try clear hi)) | (go_at_call 84; (with_reducible refine (spec_NameRight.calls kj5 a1 true _ A13.out).mono ?_); rintro e w' ⟨rfl, ⟨nd, rfl⟩⟩) | (go_at_call 33; (with_reducible refine (spec_DnRight.calls kj5 _ _ l2 true _ ?side1 ?side2 A17.out).mono ?_); (case side1 => repeat (first | exact (Kd.C_below HR2.out HBa) | (with_reducible refine Kd.C_alloc ?_ _) | (with_reducible refine Kd.C_drewN ?_ _) | (with_reducible refine Kd.C_drew ?_))); (case side2 => exact HC2.out); rintro e w27 ⟨rfl, hb⟩; have n0_ := Aside0.mk (below_step HBa hb); clear HB; have HB := n0_; clear n0_; (try clear hb); (try clear hb2); (try clear hk); (try clear hi)) | (go_at_call 113; (with_reducible refine (spec_l02Is.calls a4 1 4 false _ A20.out).mono ?_); rintro e w' ⟨rfl, ⟨nd, rfl⟩⟩))
          go_ret
          exact ⟨EZa, HBa⟩
        ·rw [if_neg c19] at H
         have c19b0 : (a3.toList == ([] : List UInt8)) = false := beq_eq_false_iff_ne.mpr c19
         have c19b1 : (a3.toList != ([] : List UInt8)) = true := bne_iff_ne.mpr c19
         replace H := Option.bind_eq_some_iff.mp H
         obtain ⟨t226, A280, H⟩ := H
         replace H : (if t226 = true then ((spec_l02Is.f a4 1 4).bind fun t227 => (if t227 = true then ((spec_l06Allowed.f kj5 l0 a1 l2 a3 a4).bind fun t228 => (some t228)) else (some false))) else (some false)) = some r := H
         have A28 := Aside0.mk A280
         clear A280
         by_cases c29 : t226 = true
         ·subst c29
          have H1 : ((spec_l02Is.f a4 1 4).bind fun t227 => (if t227 = true then ((spec_l06Allowed.f kj5 l0 a1 l2 a3 a4).bind fun t228 => (some t228)) else (some false))) = some r := by rw [if_pos rfl] at H; exact H
          clear H
          have H := H1
          clear H1
          replace H := Option.bind_eq_some_iff.mp H
          obtain ⟨t227, A300, H⟩ := H
          replace H : (if t227 = true then ((spec_l06Allowed.f kj5 l0 a1 l2 a3 a4).bind fun t228 => (some t228)) else (some false)) = some r := H
          have A30 := Aside0.mk A300
          clear A300
          by_cases c31 : t227 = true
          ·subst c31
           have H1 : ((spec_l06Allowed.f kj5 l0 a1 l2 a3 a4).bind fun t228 => (some t228)) = some r := by rw [if_pos rfl] at H; exact H
           clear H
           have H := H1
           clear H1
           replace H := Option.bind_eq_some_iff.mp H
           obtain ⟨t228, A320, H⟩ := H
           replace H : (some t228) = some r := H
           have A32 := Aside0.mk A320
           clear A320
           obtain rfl := Option.some.inj H
           go_wp2_with (first | ((with_reducible refine gate_callee (f := 48) rfl ?_); refine goesL_ (some 30) rfl rfl Tryd.func48 (by kernel_rfl) rfl #[.slice A0 l0.length c0] rfl MPz ?_; (with_reducible refine (spec_AclRight.calls kj5 _ _ l0 true _ ?side1 ?side2 A11.out).mono ?_); (case side1 => repeat (first | exact (Kd.C_below HR0.out HB.out) | (with_reducible refine Kd.C_alloc ?_ _) | (with_reducible refine Kd.C_drewN ?_ _) | (with_reducible refine Kd.C_drew ?_))); (case side2 => exact HC0.out); rintro e w33 ⟨rfl, hb⟩; refine ⟨_, rfl, ?_⟩; have n0_ := Aside0.mk (below_step HBa hb); clear HB; have HB := n0_; clear n0_; (try clear hb); (try clear hb2); (try clear hk); (try clear hi)) | (go_at_call 84; (with_reducible refine (spec_NameRight.calls kj5 a1 true _ A13.out).mono ?_); rintro e w' ⟨rfl, ⟨nd, rfl⟩⟩) | (go_at_call 33; (with_reducible refine (spec_DnRight.calls kj5 _ _ l2 true _ ?side1 ?side2 A17.out).mono ?_); (case side1 => repeat (first | exact (Kd.C_below HR2.out HBa) | (with_reducible refine Kd.C_alloc ?_ _) | (with_reducible refine Kd.C_drewN ?_ _) | (with_reducible refine Kd.C_drew ?_))); (case side2 => exact HC2.out); rintro e w34 ⟨rfl, hb⟩; have n0_ := Aside0.mk (below_step HBa hb); clear HB; have HB := n0_; clear n0_; (try clear hb); (try clear hb2); (try clear hk); (try clear hi)) | (go_at_call 84; (with_reducible refine (spec_NameRight.calls kj5 a3 true _ A28.out).mono ?_); rintro e w' ⟨rfl, ⟨nd, rfl⟩⟩) | (go_at_call 113; (with_reducible refine (spec_l02Is.calls a4 1 4 true _ A30.out).mono ?_); rintro e w' ⟨rfl, ⟨nd, rfl⟩⟩) | ((with_reducible refine gate_callee (f := 114) rfl ?_); refine goesL_ (some 66) rfl rfl Tryd.func114 (by kernel_rfl) rfl #[.slice A0 l0.length c0, .string a1, .slice A2 l2.length c2, .string a3, .int .i64 a4] rfl MPz ?_; (with_reducible refine (spec_l06Allowed.calls kj5 _ _ l0 a1 _ _ l2 a3 a4 t228 _ ?side1 ?side2 ?side3 ?side4 A32.out).mono ?_); (case side1 => repeat (first | exact (Kd.C_below HR0.out HBa) | (with_reducible refine Kd.C_alloc ?_ _) | (with_reducible refine Kd.C_drewN ?_ _) | (with_reducible refine Kd.C_drew ?_))); (case side2 => exact HC0.out); (case side3 => repeat (first | exact (Kd.C_below HR2.out HBa) | (with_reducible refine Kd.C_alloc ?_ _) | (with_reducible refine Kd.C_drewN ?_ _) | (with_reducible refine Kd.C_drew ?_))); (case side4 => exact HC2.out); rintro e w35 ⟨rfl, hb⟩; refine ⟨_, rfl, ?_⟩; have n0_ := Aside0.mk (below_step HBa hb); clear HB; have HB := n0_; clear n0_; (try clear hb); (try clear hb2); (try clear hk); (try clear hi)))
           go_ret
           exact ⟨EZa, HBa⟩
          ·replace c31 := Bool.eq_false_iff.mpr c31
           subst c31
           have H1 : (some false) = some r := by rw [if_neg (show ¬ (false = true) by decide)] at H; exact H
           clear H
           have H := H1
           clear H1
           obtain rfl := Option.some.inj H
           go_wp2_with (first | ((with_reducible refine gate_callee (f := 48) rfl ?_); refine goesL_ (some 30) rfl rfl Tryd.func48 (by kernel_rfl) rfl #[.slice A0 l0.length c0] rfl MPz ?_; (with_reducible refine (spec_AclRight.calls kj5 _ _ l0 true _ ?side1 ?side2 A11.out).mono ?_); (case side1 => repeat (first | exact (Kd.C_below HR0.out HB.out) | (with_reducible refine Kd.C_alloc ?_ _) | (with_reducible refine Kd.C_drewN ?_ _) | (with_reducible refine Kd.C_drew ?_))); (case side2 => exact HC0.out); rintro e w36 ⟨rfl, hb⟩; refine ⟨_, rfl, ?_⟩; have n0_ := Aside0.mk (below_step HBa hb); clear HB; have HB := n0_; clear n0_; (try clear hb); (try clear hb2); (try clear hk); (try clear hi)) | (go_at_call 84; (with_reducible refine (spec_NameRight.calls kj5 a1 true _ A13.out).mono ?_); rintro e w' ⟨rfl, ⟨nd, rfl⟩⟩) | (go_at_call 33; (with_reducible refine (spec_DnRight.calls kj5 _ _ l2 true _ ?side1 ?side2 A17.out).mono ?_); (case side1 => repeat (first | exact (Kd.C_below HR2.out HBa) | (with_reducible refine Kd.C_alloc ?_ _) | (with_reducible refine Kd.C_drewN ?_ _) | (with_reducible refine Kd.C_drew ?_))); (case side2 => exact HC2.out); rintro e w37 ⟨rfl, hb⟩; have n0_ := Aside0.mk (below_step HBa hb); clear HB; have HB := n0_; clear n0_; (try clear hb); (try clear hb2); (try clear hk); (try clear hi)) | (go_at_call 84; (with_reducible refine (spec_NameRight.calls kj5 a3 true _ A28.out).mono ?_); rintro e w' ⟨rfl, ⟨nd, rfl⟩⟩) | (go_at_call 113; (with_reducible refine (spec_l02Is.calls a4 1 4 false _ A30.out).mono ?_); rintro e w' ⟨rfl, ⟨nd, rfl⟩⟩))
           go_ret
           exact ⟨EZa, HBa⟩
         ·replace c29 := Bool.eq_false_iff.mpr c29
          subst c29
          have H1 : (some false) = some r := by rw [if_neg (show ¬ (false = true) by decide)] at H; exact H
          clear H
          have H := H1
          clear H1
          obtain rfl := Option.some.inj H
          go_wp2_with (first | ((with_reducible refine gate_callee (f := 48) rfl ?_); refine goesL_ (some 30) rfl rfl Tryd.func48 (by kernel_rfl) rfl #[.slice A0 l0.length c0] rfl MPz ?_; (with_reducible refine (spec_AclRight.calls kj5 _ _ l0 true _ ?side1 ?side2 A11.out).mono ?_); (case side1 => repeat (first | exact (Kd.C_below HR0.out HB.out) | (with_reducible refine Kd.C_alloc ?_ _) | (with_reducible refine Kd.C_drewN ?_ _) | (with_reducible refine Kd.C_drew ?_))); (case side2 => exact HC0.out); rintro e w38 ⟨rfl, hb⟩; refine ⟨_, rfl, ?_⟩; have n0_ := Aside0.mk (below_step HBa hb); clear HB; have HB := n0_; clear n0_; (try clear hb); (try clear hb2); (try clear hk); (try clear hi)) | (go_at_call 84; (with_reducible refine (spec_NameRight.calls kj5 a1 true _ A13.out).mono ?_); rintro e w' ⟨rfl, ⟨nd, rfl⟩⟩) | (go_at_call 33; (with_reducible refine (spec_DnRight.calls kj5 _ _ l2 true _ ?side1 ?side2 A17.out).mono ?_); (case side1 => repeat (first | exact (Kd.C_below HR2.out HBa) | (with_reducible refine Kd.C_alloc ?_ _) | (with_reducible refine Kd.C_drewN ?_ _) | (with_reducible refine Kd.C_drew ?_))); (case side2 => exact HC2.out); rintro e w39 ⟨rfl, hb⟩; have n0_ := Aside0.mk (below_step HBa hb); clear HB; have HB := n0_; clear n0_; (try clear hb); (try clear hb2); (try clear hk); (try clear hi)) | (go_at_call 84; (with_reducible refine (spec_NameRight.calls kj5 a3 false _ A28.out).mono ?_); rintro e w' ⟨rfl, ⟨nd, rfl⟩⟩))
          go_ret
          exact ⟨EZa, HBa⟩
       ·replace c18 := Bool.eq_false_iff.mpr c18
        subst c18
        have H1 : (some false) = some r := by rw [if_neg (show ¬ (false = true) by decide)] at H; exact H
        clear H
        have H := H1
        clear H1
        obtain rfl := Option.some.inj H
        go_wp2_with (first | ((with_reducible refine gate_callee (f := 48) rfl ?_); refine goesL_ (some 30) rfl rfl Tryd.func48 (by kernel_rfl) rfl #[.slice A0 l0.length c0] rfl MPz ?_; (with_reducible refine (spec_AclRight.calls kj5 _ _ l0 true _ ?side1 ?side2 A11.out).mono ?_); (case side1 => repeat (first | exact (Kd.C_below HR0.out HB.out) | (with_reducible refine Kd.C_alloc ?_ _) | (with_reducible refine Kd.C_drewN ?_ _) | (with_reducible refine Kd.C_drew ?_))); (case side2 => exact HC0.out); rintro e w40 ⟨rfl, hb⟩; refine ⟨_, rfl, ?_⟩; have n0_ := Aside0.mk (below_step HBa hb); clear HB; have HB := n0_; clear n0_; (try clear hb); (try clear hb2); (try clear hk); (try clear hi)) | (go_at_call 84; (with_reducible refine (spec_NameRight.calls kj5 a1 true _ A13.out).mono ?_); rintro e w' ⟨rfl, ⟨nd, rfl⟩⟩) | (go_at_call 33; (with_reducible refine (spec_DnRight.calls kj5 _ _ l2 false _ ?side1 ?side2 A17.out).mono ?_); (case side1 => repeat (first | exact (Kd.C_below HR2.out HBa) | (with_reducible refine Kd.C_alloc ?_ _) | (with_reducible refine Kd.C_drewN ?_ _) | (with_reducible refine Kd.C_drew ?_))); (case side2 => exact HC2.out); rintro e w41 ⟨rfl, hb⟩; have n0_ := Aside0.mk (below_step HBa hb); clear HB; have HB := n0_; clear n0_; (try clear hb); (try clear hb2); (try clear hk); (try clear hi)))
        go_ret
        exact ⟨EZa, HBa⟩
     ·replace c14 := Bool.eq_false_iff.mpr c14
      subst c14
      have H1 : (some false) = some r := by rw [if_neg (show ¬ (false = true) by decide)] at H; exact H
      clear H
      have H := H1
      clear H1
      obtain rfl := Option.some.inj H
      go_wp2_with (first | ((with_reducible refine gate_callee (f := 48) rfl ?_); refine goesL_ (some 30) rfl rfl Tryd.func48 (by kernel_rfl) rfl #[.slice A0 l0.length c0] rfl MPz ?_; (with_reducible refine (spec_AclRight.calls kj5 _ _ l0 true _ ?side1 ?side2 A11.out).mono ?_); (case side1 => repeat (first | exact (Kd.C_below HR0.out HB.out) | (with_reducible refine Kd.C_alloc ?_ _) | (with_reducible refine Kd.C_drewN ?_ _) | (with_reducible refine Kd.C_drew ?_))); (case side2 => exact HC0.out); rintro e w42 ⟨rfl, hb⟩; refine ⟨_, rfl, ?_⟩; have n0_ := Aside0.mk (below_step HBa hb); clear HB; have HB := n0_; clear n0_; (try clear hb); (try clear hb2); (try clear hk); (try clear hi)) | (go_at_call 84; (with_reducible refine (spec_NameRight.calls kj5 a1 false _ A13.out).mono ?_); rintro e w' ⟨rfl, ⟨nd, rfl⟩⟩))
      go_ret
      exact ⟨EZa, HBa⟩
    ·replace c12 := Bool.eq_false_iff.mpr c12
     subst c12
     have H1 : (some false) = some r := by rw [if_neg (show ¬ (false = true) by decide)] at H; exact H
     clear H
     have H := H1
     clear H1
     obtain rfl := Option.some.inj H
     go_wp2_with (first | ((with_reducible refine gate_callee (f := 48) rfl ?_); refine goesL_ (some 30) rfl rfl Tryd.func48 (by kernel_rfl) rfl #[.slice A0 l0.length c0] rfl MPz ?_; (with_reducible refine (spec_AclRight.calls kj5 _ _ l0 false _ ?side1 ?side2 A11.out).mono ?_); (case side1 => repeat (first | exact (Kd.C_below HR0.out HB.out) | (with_reducible refine Kd.C_alloc ?_ _) | (with_reducible refine Kd.C_drewN ?_ _) | (with_reducible refine Kd.C_drew ?_))); (case side2 => exact HC0.out); rintro e w43 ⟨rfl, hb⟩; refine ⟨_, rfl, ?_⟩; have n0_ := Aside0.mk (below_step HBa hb); clear HB; have HB := n0_; clear n0_; (try clear hb); (try clear hb2); (try clear hk); (try clear hi)))
     go_ret
     exact ⟨EZa, HBa⟩
def strings_Trim.f (a0 : ByteArray) (a1 : ByteArray) : Option (ByteArray) := if a0.size ≤ 9223372036854775807 ∧ a1.size < 4294967281 ∧ a1.data.toList.all (fun b => decide (b.toNat < 128)) = true then some ⟨(Lib.trimS a0.data.toList a1.data.toList).toArray⟩ else none
theorem strings_Trim.calls (a0 : ByteArray) (a1 : ByteArray) (r : ByteArray) (w : World) (h : strings_Trim.f a0 a1 = some r) :
  Calls Tryd.prog 148 #[.string a0, .string a1] w fun e w' => e = .returned (.string r) ∧ Below w.heap.size w w' := by
 unfold strings_Trim.f at h
 by_cases c : a0.size ≤ 9223372036854775807 ∧ a1.size < 4294967281 ∧ a1.data.toList.all (fun b => decide (b.toNat < 128)) = true
 ·rw [if_pos c] at h
  obtain rfl := Option.some.inj h
  exact Any.strings_Trim_laid Tryd.lays160 (by kernel_rfl) a0 a1 w c.1 c.2.1 (ascii_of_all c.2.2)
 ·rw [if_neg c] at h
  exact absurd h (by simp)
def impl_NameRight.f (a0 : ByteArray) : Option (Bool) := if (a0.size : Int) ≥ 1 then (if (a0.size : Int) ≤ 20 then (if 0 < (a0.size : Int) then (if (bt a0 0) ≥ 97 then (if (bt a0 0) ≤ 122 then ((strings_Trim.f a0 (⟨#[97, 98, 99, 100, 101, 102, 103, 104, 105, 106, 107, 108, 109, 110, 111, 112, 113, 114, 115, 116, 117, 118, 119, 120, 121, 122, 48, 49, 50, 51, 52, 53, 54, 55, 56, 57, 95]⟩ : ByteArray)).bind fun t229 => (some (t229.toList == ([] : List UInt8)))) else (some false)) else (some false)) else (none)) else (some false)) else (some false)
set_option maxHeartbeats 8000000 in
set_option maxRecDepth 100000 in
theorem impl_NameRight.calls (a0 : ByteArray) (r : Bool) (w : World) (h : impl_NameRight.f a0 = some r) :
  Calls Tryd.prog 115 #[.string a0] w fun e w' => e = .returned (.bool r) ∧ Below w.heap.size w w' := by
 have HB := Aside0.mk (Below.refl w.heap.size w)
 have H : (if (a0.size : Int) ≥ 1 then (if (a0.size : Int) ≤ 20 then (if 0 < (a0.size : Int) then (if (bt a0 0) ≥ 97 then (if (bt a0 0) ≤ 122 then ((strings_Trim.f a0 (⟨#[97, 98, 99, 100, 101, 102, 103, 104, 105, 106, 107, 108, 109, 110, 111, 112, 113, 114, 115, 116, 117, 118, 119, 120, 121, 122, 48, 49, 50, 51, 52, 53, 54, 55, 56, 57, 95]⟩ : ByteArray)).bind fun t229 => (some (t229.toList == ([] : List UInt8)))) else (some false)) else (some false)) else (none)) else (some false)) else (some false)) = some r := h
 clear h
 by_cases c2 : (a0.size : Int) ≥ 1
 ·rw [if_pos c2] at H
  have c2b0 : decide (1 ≤ (a0.size : Int)) = true := decide_eq_true c2
  have c2b1 : decide (1 ≤ a0.size) = true := decide_eq_true (by omega)
  clear c2
  by_cases c3 : (a0.size : Int) ≤ 20
  ·rw [if_pos c3] at H
   have c3b0 : decide ((a0.size : Int) ≤ 20) = true := decide_eq_true c3
   have c3b1 : decide (a0.size ≤ 20) = true := decide_eq_true (by omega)
   clear c3
   by_cases c4 : 0 < (a0.size : Int)
   ·rw [if_pos c4] at H
    have c4b0 : decide (0 < (a0.size : Int)) = true := decide_eq_true c4
    have c4b1 : decide (0 < a0.size) = true := decide_eq_true (by omega)
    clear c4
    by_cases c6 : (bt a0 0) ≥ 97
    ·rw [if_pos c6] at H
     have c6b0 : decide (97 ≤ (bt a0 0)) = true := decide_eq_true c6
     clear c6
     by_cases c8 : (bt a0 0) ≤ 122
     ·rw [if_pos c8] at H
      have c8b0 : decide ((bt a0 0) ≤ 122) = true := decide_eq_true c8
      clear c8
      replace H := Option.bind_eq_some_iff.mp H
      obtain ⟨t229, A90, H⟩ := H
      replace H : (some (t229.toList == ([] : List UInt8))) = some r := H
      have A9 := Aside0.mk A90
      clear A90
      obtain rfl := Option.some.inj H
      have p5 : 0 ≤ (0 : Int) := (by omega)
      have q5 : 0 < a0.size := (by have : (0 : Int) < (a0.size : Int) := ODz; omega)
      have hx5 : ∀ h : 0 < a0.size, ((a0[0]'h).toNat : Int) = bt a0 0 := bt_at a0 0
      clear p5
      have qi5 : (0 < (a0.size : Int)) = True := eq_true (ODz)
      replace q5 := eq_true q5
      have p7 : 0 ≤ (0 : Int) := (by omega)
      have q7 : 0 < a0.size := (by have : (0 : Int) < (a0.size : Int) := ODz; omega)
      have hx7 : ∀ h : 0 < a0.size, ((a0[0]'h).toNat : Int) = bt a0 0 := bt_at a0 0
      clear p7
      have qi7 : (0 < (a0.size : Int)) = True := eq_true (ODz)
      replace q7 := eq_true q7
      go_enter Tryd.func115, Tryd.ntmps115
      go_wp2_with (first | (go_at_call 148; (with_reducible refine (strings_Trim.calls a0 (⟨#[97, 98, 99, 100, 101, 102, 103, 104, 105, 106, 107, 108, 109, 110, 111, 112, 113, 114, 115, 116, 117, 118, 119, 120, 121, 122, 48, 49, 50, 51, 52, 53, 54, 55, 56, 57, 95]⟩ : ByteArray) t229 _ A9.out).mono ?_); rintro e w10 ⟨rfl, hb⟩; have n0_ := Aside0.mk (below_step HBa hb); clear HB; have HB := n0_; clear n0_; (try clear hb); (try clear hb2); (try clear hk); (try clear hi)))
      go_ret
      exact ⟨EZa, HBa⟩
     ·rw [if_neg c8] at H
      have c8b0 : decide ((bt a0 0) ≤ 122) = false := decide_eq_false c8
      clear c8
      obtain rfl := Option.some.inj H
      have p5 : 0 ≤ (0 : Int) := (by omega)
      have q5 : 0 < a0.size := (by have : (0 : Int) < (a0.size : Int) := ODz; omega)
      have hx5 : ∀ h : 0 < a0.size, ((a0[0]'h).toNat : Int) = bt a0 0 := bt_at a0 0
      clear p5
      have qi5 : (0 < (a0.size : Int)) = True := eq_true (ODz)
      replace q5 := eq_true q5
      have p7 : 0 ≤ (0 : Int) := (by omega)
      have q7 : 0 < a0.size := (by have : (0 : Int) < (a0.size : Int) := ODz; omega)
      have hx7 : ∀ h : 0 < a0.size, ((a0[0]'h).toNat : Int) = bt a0 0 := bt_at a0 0
      clear p7
      have qi7 : (0 < (a0.size : Int)) = True := eq_true (ODz)
      replace q7 := eq_true q7
      go_enter Tryd.func115, Tryd.ntmps115
      go_wp2
      go_ret
      exact ⟨EZa, HBa⟩
    ·rw [if_neg c6] at H
     have c6b0 : decide (97 ≤ (bt a0 0)) = false := decide_eq_false c6
     clear c6
     obtain rfl := Option.some.inj H
     have p5 : 0 ≤ (0 : Int) := (by omega)
     have q5 : 0 < a0.size := (by have : (0 : Int) < (a0.size : Int) := ODz; omega)
     have hx5 : ∀ h : 0 < a0.size, ((a0[0]'h).toNat : Int) = bt a0 0 := bt_at a0 0
     clear p5
     have qi5 : (0 < (a0.size : Int)) = True := eq_true (ODz)
     replace q5 := eq_true q5
     go_enter Tryd.func115, Tryd.ntmps115
     go_wp2
     go_ret
     exact ⟨EZa, HBa⟩
   ·rw [if_neg c4] at H
    exact absurd H (by simp)
  ·rw [if_neg c3] at H
   have c3b0 : decide ((a0.size : Int) ≤ 20) = false := decide_eq_false c3
   have c3b1 : decide (a0.size ≤ 20) = false := decide_eq_false (by omega)
   clear c3
   obtain rfl := Option.some.inj H
   go_enter Tryd.func115, Tryd.ntmps115
   go_wp2
   go_ret
   exact ⟨EZa, HBa⟩
 ·rw [if_neg c2] at H
  have c2b0 : decide (1 ≤ (a0.size : Int)) = false := decide_eq_false c2
  have c2b1 : decide (1 ≤ a0.size) = false := decide_eq_false (by omega)
  clear c2
  obtain rfl := Option.some.inj H
  go_enter Tryd.func115, Tryd.ntmps115
  go_wp2
  go_ret
  exact ⟨EZa, HBa⟩
end Go.Proofs.YtdbboelacgehoaaDoor.PFnExactAllowed
