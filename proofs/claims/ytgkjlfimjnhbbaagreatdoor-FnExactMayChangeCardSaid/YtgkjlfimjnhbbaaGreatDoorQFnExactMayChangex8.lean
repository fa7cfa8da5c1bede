-- Laid by this session's own program out of the translation; Lean checks it.
import Derived.Test.YtgkjlfimjnhbbaaGreatDoorQFnExactMayChangex0
import Derived.Test.YtgkjlfimjnhbbaaGreatDoorQFnExactMayChangex7
namespace Go.Proofs.YtgkjlfimjnhbbaaGreatDoor.PFnExactMayChange
open Go.RowKit Go.Proofs.YtgkjlfimjnhbbaaGreatDoorW.PrintWords Go.Proofs.YtgkjlfimjnhbbaaGreatDoorW.PrintLast Go.Proofs.YtgkjlfimjnhbbaaGreatDoorW.PrintMore
attribute [local go_sem] max2_int min2_int max_two min_two max_three min_three max_four min_four   -- for this text's walks alone
set_option linter.unusedVariables false
set_option linter.unusedSimpArgs false
def spec_l06Allowed.l0 : Nat → List (S53) → ByteArray → List (S98) → ByteArray → Int → Int → Option (Bool)
 | 0, _, _, _, _, _, _ => none
 | k + 1, x0, x1, x2, x3, x4, x11 => if x11 < (x0.length : Int) then (if 0 ≤ x11 then (if ((rd_T53 x0 x11).f0).toList = ([42] : List UInt8) then (if ((rd_T53 x0 x11).f3) = x4 then ((spec_DnUnder.f k x2 ((rd_T53 x0 x11).f1)).bind fun t189 => (if t189 = true then (if (((rd_T53 x0 x11).f2).length : Int) = 0 then (some ((rd_T53 x0 x11).f4)) else ((spec_l04Has.f k ((rd_T53 x0 x11).f2) x3).bind fun t190 => (if t190 = true then (some ((rd_T53 x0 x11).f4)) else (spec_l06Allowed.l0 k x0 x1 x2 x3 x4 (wrap64 (x11 + 1)))))) else (spec_l06Allowed.l0 k x0 x1 x2 x3 x4 (wrap64 (x11 + 1))))) else (spec_l06Allowed.l0 k x0 x1 x2 x3 x4 (wrap64 (x11 + 1)))) else (if ((rd_T53 x0 x11).f0).toList = x1.toList then (if ((rd_T53 x0 x11).f3) = x4 then ((spec_DnUnder.f k x2 ((rd_T53 x0 x11).f1)).bind fun t191 => (if t191 = true then (if (((rd_T53 x0 x11).f2).length : Int) = 0 then (some ((rd_T53 x0 x11).f4)) else ((spec_l04Has.f k ((rd_T53 x0 x11).f2) x3).bind fun t192 => (if t192 = true then (some ((rd_T53 x0 x11).f4)) else (spec_l06Allowed.l0 k x0 x1 x2 x3 x4 (wrap64 (x11 + 1)))))) else (spec_l06Allowed.l0 k x0 x1 x2 x3 x4 (wrap64 (x11 + 1))))) else (spec_l06Allowed.l0 k x0 x1 x2 x3 x4 (wrap64 (x11 + 1)))) else (spec_l06Allowed.l0 k x0 x1 x2 x3 x4 (wrap64 (x11 + 1))))) else (none)) else (some false)
def spec_l06Allowed.f (k : Nat) (l0 : List (S53)) (a1 : ByteArray) (l2 : List (S98)) (a3 : ByteArray) (a4 : Int) : Option (Bool) := spec_l06Allowed.l0 k l0 a1 l2 a3 a4 0
theorem spec_l06Allowed.mono_l : ∀ k, (∀ y0 y1 y2 y3 y4 y5, LeO (spec_l06Allowed.l0 k y0 y1 y2 y3 y4 y5) (spec_l06Allowed.l0 (k + 1) y0 y1 y2 y3 y4 y5))
 | 0 => fun _ _ _ _ _ _ r h => by simp [spec_l06Allowed.l0] at h
 | k + 1 => by
  have ih0 := spec_l06Allowed.mono_l k
  ·intro y0 y1 y2 y3 y4 y5
   unfold spec_l06Allowed.l0
   repeat' first
   | (with_reducible exact ih0 _ _ _ _ _ _)
   | (with_reducible exact spec_DnUnder.mono _ _ _)
   | (with_reducible exact spec_l04Has.mono _ _ _)
   | (with_reducible exact LeO.refl _)
   | (with_reducible exact LeO.none _)
   | (with_reducible refine LeO.ite ?_ ?_)
   | (with_reducible refine LeO.bind ?_ (fun _ => ?_))
   | exact ih0 _ _ _ _ _ _
   | exact spec_DnUnder.mono _ _ _
   | exact spec_l04Has.mono _ _ _
   | exact LeO.none _
   | refine LeO.ite ?_ ?_
   | refine LeO.bind ?_ (fun _ => ?_)
theorem spec_l06Allowed.mono : ∀ a0 a1 a2 a3 a4 k, LeO (spec_l06Allowed.f k a0 a1 a2 a3 a4) (spec_l06Allowed.f (k + 1) a0 a1 a2 a3 a4) := by
 intro a0 a1 a2 a3 a4 k
 have ih0 := spec_l06Allowed.mono_l k
 unfold spec_l06Allowed.f
 repeat' first
   | (with_reducible exact ih0 _ _ _ _ _ _)
   | (with_reducible exact spec_DnUnder.mono _ _ _)
   | (with_reducible exact spec_l04Has.mono _ _ _)
   | (with_reducible exact LeO.refl _)
   | (with_reducible exact LeO.none _)
   | (with_reducible refine LeO.ite ?_ ?_)
   | (with_reducible refine LeO.bind ?_ (fun _ => ?_))
   | exact ih0 _ _ _ _ _ _
   | exact spec_DnUnder.mono _ _ _
   | exact spec_l04Has.mono _ _ _
   | exact LeO.none _
   | refine LeO.ite ?_ ?_
   | refine LeO.bind ?_ (fun _ => ?_)
set_option maxHeartbeats 8000000 in
set_option maxRecDepth 100000 in
theorem spec_l06Allowed.calls (k : Nat) (A0 : Option Addr) (c0 : Nat) (l0 : List (S53)) (a1 : ByteArray) (A2 : Option Addr) (c2 : Nat) (l2 : List (S98)) (a3 : ByteArray) (a4 : Int) (r : Bool) (w : World) (hr0 : Kd.C k53 w A0 l0.length l0) (hc0 : l0.length ≤ c0) (hr2 : Kd.C k98 w A2 l2.length l2) (hc2 : l2.length ≤ c2) (h : spec_l06Allowed.f k l0 a1 l2 a3 a4 = some r) :
  Calls Tryz.prog 47 #[.slice A0 l0.length c0, .string a1, .slice A2 l2.length c2, .string a3, .int .i64 a4] w fun e w' => e = .returned (.bool r) ∧ Below w.heap.size w w' := by
 have hu53 := Tryz.underlying53
 have HR0 := Aside0.mk hr0
 have HC0 := Aside0.mk hc0
 clear hr0 hc0
 have HR2 := Aside0.mk hr2
 have HC2 := Aside0.mk hc2
 clear hr2 hc2
 have HB := Aside0.mk (Below.refl w.heap.size w)
 have H : (spec_l06Allowed.l0 k l0 a1 l2 a3 a4 0) = some r := h
 clear h
 have H' := Aside0.mk H
 clear H
 go_enter Tryz.func47, Tryz.ntmps47
 go_wp2
 go_loopg [11] k (fun kq v11 w' => ∃ (x11_1 : Int), v11 = .int .i64 x11_1 ∧ Aside0 (spec_l06Allowed.l0 kq l0 a1 l2 a3 a4 x11_1 = some r) ∧ Aside0 (kq ≤ k) ∧ Aside0 (Below w.heap.size w w'))
 case atStart => exact ⟨(0), EZc, H', ⟨Nat.le_refl _⟩, ⟨HBa⟩⟩
 case round =>
  clear H'
  try clear c2
  try clear p2
  try clear c4
  obtain ⟨x11_1, rfl, HA, HK1, HB⟩ := hrel
  cases gk with
  | zero => exact absurd HA.out (by simp [spec_l06Allowed.l0])
  | succ k1 =>
   have H := HA.out
   clear HA
   simp only [spec_l06Allowed.l0] at H
   by_cases c6 : x11_1 < (l0.length : Int)
   rotate_left
   ·rw [if_neg c6] at H
    have c6b0 : decide (x11_1 < (l0.length : Int)) = false := decide_eq_false c6
    clear c6
    obtain rfl := Option.some.inj H
    go_wp2
    go_ret
    exact ⟨EZa, HBa⟩
   rw [if_pos c6] at H
   have c6b0 : decide (x11_1 < (l0.length : Int)) = true := decide_eq_true c6
   clear c6
   by_cases c7 : 0 ≤ x11_1
   rotate_left
   ·rw [if_neg c7] at H
    exact absurd H (by simp)
   rw [if_pos c7] at H
   have c7b0 : decide (0 ≤ x11_1) = true := decide_eq_true c7
   clear c7
   by_cases c8 : ((rd_T53 l0 x11_1).f0).toList = ([42] : List UInt8)
   ·rw [if_pos c8] at H
    have c8b0 : (((rd_T53 l0 x11_1).f0).toList == ([42] : List UInt8)) = true := beq_iff_eq.mpr c8
    have c8b1 : (((rd_T53 l0 x11_1).f0).toList != ([42] : List UInt8)) = false := bne_eq_false_iff_eq.mpr c8
    clear c8
    by_cases c9 : ((rd_T53 l0 x11_1).f3) = a4
    rotate_left
    ·rw [if_neg c9] at H
     have c9b0 : (((rd_T53 l0 x11_1).f3) == a4) = false := beq_eq_false_iff_ne.mpr c9
     have c9b1 : (((rd_T53 l0 x11_1).f3) != a4) = true := bne_iff_ne.mpr c9
     have H' := Aside0.mk H
     clear H
     have p187 : 0 ≤ (x11_1 : Int) := ODz
     have q187 : x11_1 < (l0.length : Int) := ODz
     obtain ⟨ad187, A187_1, c187_1, A187_2, c187_2, e187, hx187_0, hx187_1, hx187_2, hx187_3, hx187_4, hl187_1, hi187_1, hl187_2, hi187_2⟩ := at_T53 HR0.out x11_1 p187 q187
     cases e187
     replace hx187_0 := HXz HB hx187_0
     replace hx187_1 := HXz HB hx187_1
     replace hx187_2 := HXz HB hx187_2
     replace hx187_3 := HXz HB hx187_3
     replace hx187_4 := HXz HB hx187_4
     have HR187_1 := Aside0.mk hi187_1
     have HC187_1 := Aside0.mk hl187_1
     clear hi187_1 hl187_1
     have HR187_2 := Aside0.mk hi187_2
     have HC187_2 := Aside0.mk hl187_2
     clear hi187_2 hl187_2
     replace p187 := eq_true p187
     replace q187 := eq_true q187
     go_wp2_with (first | ((with_reducible refine gate_dst (N := 12) rfl ?_); (try (refine gate_guard (by rfl) ?_; dsimp only)); refine box_event ?hg (N := 12) ?hd (cs := #[.string (⟨#[]⟩ : ByteArray), .slice none 0 0, .slice none 0 0, .int .i64 0, .bool false]) (t := 53) ?hr ?_; (case hd => rfl); (case hg => rfl); (case hr => first | (go_simp; done) | (go_simp; rfl)); intro gb188 hg w30 hbox hb; have n0_ := Aside0.mk (below_step HBa hb); have n1_ := Aside0.mk (hbox); have n2_ := BSz w hg HBa; have n3_ := BSz w hg HBa; clear HB; have HB := n0_; have BK188 := n1_; have GW188 := n2_; have GE188 := n3_; clear n0_ n1_ n2_ n3_; clear hb hbox hg; have hcz31_0 := C1z BK188; have hcz31_1 := C2z BK188; have hcz31_2 := C3z BK188; have hcz31_3 := C4z BK188; have hcz31_4 := C5z BK188; have hfz31_0 := blk_frozen BK188.out 0; have hfz31_1 := blk_frozen BK188.out 1; have hfz31_2 := blk_frozen BK188.out 2; have hfz31_3 := blk_frozen BK188.out 3; have hfz31_4 := blk_frozen BK188.out 4))
     go_roundg k1
     case measure => have := HK1.out; omega
     case rel => exact ⟨(wrap64 (x11_1 + 1)), EZc, H', ⟨by have := HK1.out; omega⟩, ⟨by repeat (first | (with_reducible first | exact HB.out | apply below_alloc | apply pw_below_drewN | apply below_drew1 | refine below_set ?_ GE188.out) | exact HB.out)⟩⟩
    rw [if_pos c9] at H
    have c9b0 : (((rd_T53 l0 x11_1).f3) == a4) = true := beq_iff_eq.mpr c9
    have c9b1 : (((rd_T53 l0 x11_1).f3) != a4) = false := bne_eq_false_iff_eq.mpr c9
    clear c9
    replace H := Option.bind_eq_some_iff.mp H
    obtain ⟨t189, A100, H⟩ := H
    replace H : (if t189 = true then (if (((rd_T53 l0 x11_1).f2).length : Int) = 0 then (some ((rd_T53 l0 x11_1).f4)) else ((spec_l04Has.f k1 ((rd_T53 l0 x11_1).f2) a3).bind fun t190 => (if t190 = true then (some ((rd_T53 l0 x11_1).f4)) else (spec_l06Allowed.l0 k1 l0 a1 l2 a3 a4 (wrap64 (x11_1 + 1)))))) else (spec_l06Allowed.l0 k1 l0 a1 l2 a3 a4 (wrap64 (x11_1 + 1)))) = some r := H
    have A10 := Aside0.mk A100
    clear A100
    by_cases c11 : t189 = true
    rotate_left
    ·replace c11 := Bool.eq_false_iff.mpr c11
     subst c11
     have H1 : (spec_l06Allowed.l0 k1 l0 a1 l2 a3 a4 (wrap64 (x11_1 + 1))) = some r := by rw [if_neg (show ¬ (false = true) by decide)] at H; exact H
     clear H
     have H := H1
     clear H1
     have H' := Aside0.mk H
     clear H
     have p187 : 0 ≤ (x11_1 : Int) := ODz
     have q187 : x11_1 < (l0.length : Int) := ODz
     obtain ⟨ad187, A187_1, c187_1, A187_2, c187_2, e187, hx187_0, hx187_1, hx187_2, hx187_3, hx187_4, hl187_1, hi187_1, hl187_2, hi187_2⟩ := at_T53 HR0.out x11_1 p187 q187
     cases e187
     replace hx187_0 := HXz HB hx187_0
     replace hx187_1 := HXz HB hx187_1
     replace hx187_2 := HXz HB hx187_2
     replace hx187_3 := HXz HB hx187_3
     replace hx187_4 := HXz HB hx187_4
     have HR187_1 := Aside0.mk hi187_1
     have HC187_1 := Aside0.mk hl187_1
     clear hi187_1 hl187_1
     have HR187_2 := Aside0.mk hi187_2
     have HC187_2 := Aside0.mk hl187_2
     clear hi187_2 hl187_2
     replace p187 := eq_true p187
     replace q187 := eq_true q187
     go_wp2_with (first | ((with_reducible refine gate_dst (N := 12) rfl ?_); (try (refine gate_guard (by rfl) ?_; dsimp only)); refine box_event ?hg (N := 12) ?hd (cs := #[.string (⟨#[]⟩ : ByteArray), .slice none 0 0, .slice none 0 0, .int .i64 0, .bool false]) (t := 53) ?hr ?_; (case hd => rfl); (case hg => rfl); (case hr => first | (go_simp; done) | (go_simp; rfl)); intro gb188 hg w27 hbox hb; have n0_ := Aside0.mk (below_step HBa hb); have n1_ := Aside0.mk (hbox); have n2_ := BSz w hg HBa; have n3_ := BSz w hg HBa; clear HB; have HB := n0_; have BK188 := n1_; have GW188 := n2_; have GE188 := n3_; clear n0_ n1_ n2_ n3_; clear hb hbox hg; have hcz28_0 := C1z BK188; have hcz28_1 := C2z BK188; have hcz28_2 := C3z BK188; have hcz28_3 := C4z BK188; have hcz28_4 := C5z BK188; have hfz28_0 := blk_frozen BK188.out 0; have hfz28_1 := blk_frozen BK188.out 1; have hfz28_2 := blk_frozen BK188.out 2; have hfz28_3 := blk_frozen BK188.out 3; have hfz28_4 := blk_frozen BK188.out 4) | (go_at_call 92; (with_reducible refine (spec_DnUnder.calls k1 _ _ l2 _ _ ((rd_T53 l0 x11_1).f1) false _ ?side1 ?side2 ?side3 ?side4 A10.out).mono ?_); (case side1 => exact Kd.C_below HR2.out (HBb GE188)); (case side2 => exact HC2.out); (case side3 => exact Kd.C_below HR187_1.out (HBb GE188)); (case side4 => exact HC187_1.out); rintro e w29 ⟨rfl, hb⟩; have n0_ := Aside0.mk (blk_below (g := gb188) (o := .cells #[.string ((rd_T53 l0 x11_1).f0), .slice A187_1 ((rd_T53 l0 x11_1).f1).length c187_1, .slice A187_2 ((rd_T53 l0 x11_1).f2).length c187_2, .int .i64 ((rd_T53 l0 x11_1).f3), .bool ((rd_T53 l0 x11_1).f4)] 53 (0, 0)) (by (with_reducible repeat (first | refine blk_drewN ?_ _ | refine blk_drew ?_ | refine blk_alloc ?_ _)); refine blk_put (cs := #[.string ((rd_T53 l0 x11_1).f0), .slice A187_1 ((rd_T53 l0 x11_1).f1).length c187_1, .slice A187_2 ((rd_T53 l0 x11_1).f2).length c187_2, .int .i64 ((rd_T53 l0 x11_1).f3), .bool false]) ?_ 4 _ rfl; (with_reducible repeat (first | refine blk_drewN ?_ _ | refine blk_drew ?_ | refine blk_alloc ?_ _)); refine blk_put (cs := #[.string ((rd_T53 l0 x11_1).f0), .slice A187_1 ((rd_T53 l0 x11_1).f1).length c187_1, .slice A187_2 ((rd_T53 l0 x11_1).f2).length c187_2, .int .i64 0, .bool false]) ?_ 3 _ rfl; (with_reducible repeat (first | refine blk_drewN ?_ _ | refine blk_drew ?_ | refine blk_alloc ?_ _)); refine blk_put (cs := #[.string ((rd_T53 l0 x11_1).f0), .slice A187_1 ((rd_T53 l0 x11_1).f1).length c187_1, .slice none 0 0, .int .i64 0, .bool false]) ?_ 2 _ rfl; (with_reducible repeat (first | refine blk_drewN ?_ _ | refine blk_drew ?_ | refine blk_alloc ?_ _)); refine blk_put (cs := #[.string ((rd_T53 l0 x11_1).f0), .slice none 0 0, .slice none 0 0, .int .i64 0, .bool false]) ?_ 1 _ rfl; (with_reducible repeat (first | refine blk_drewN ?_ _ | refine blk_drew ?_ | refine blk_alloc ?_ _)); refine blk_put (cs := #[.string (⟨#[]⟩ : ByteArray), .slice none 0 0, .slice none 0 0, .int .i64 0, .bool false]) ?_ 0 _ rfl; (with_reducible repeat (first | refine blk_drewN ?_ _ | refine blk_drew ?_ | refine blk_alloc ?_ _)); exact BK188.out) hb); have n1_ := Aside0.mk (below_step (HBb GE188) hb); clear BK188; clear HB; have BK188 := n0_; have HB := n1_; clear n0_ n1_; (try clear hb); (try clear hb2); (try clear hk); (try clear hi)))
     go_roundg k1
     case measure => have := HK1.out; omega
     case rel => exact ⟨(wrap64 (x11_1 + 1)), EZc, H', ⟨by have := HK1.out; omega⟩, ⟨by repeat (first | (with_reducible first | exact HB.out | apply below_alloc | apply pw_below_drewN | apply below_drew1 | refine below_set ?_ GE188.out) | exact HB.out)⟩⟩
    subst c11
    have H1 : (if (((rd_T53 l0 x11_1).f2).length : Int) = 0 then (some ((rd_T53 l0 x11_1).f4)) else ((spec_l04Has.f k1 ((rd_T53 l0 x11_1).f2) a3).bind fun t190 => (if t190 = true then (some ((rd_T53 l0 x11_1).f4)) else (spec_l06Allowed.l0 k1 l0 a1 l2 a3 a4 (wrap64 (x11_1 + 1)))))) = some r := by rw [if_pos rfl] at H; exact H
    clear H
    have H := H1
    clear H1
    by_cases c12 : (((rd_T53 l0 x11_1).f2).length : Int) = 0
    ·rw [if_pos c12] at H
     have c12b0 : ((((rd_T53 l0 x11_1).f2).length : Int) == 0) = true := beq_iff_eq.mpr c12
     have c12b1 : ((((rd_T53 l0 x11_1).f2).length : Int) != 0) = false := bne_eq_false_iff_eq.mpr c12
     clear c12
     obtain rfl := Option.some.inj H
     have p187 : 0 ≤ (x11_1 : Int) := ODz
     have q187 : x11_1 < (l0.length : Int) := ODz
     obtain ⟨ad187, A187_1, c187_1, A187_2, c187_2, e187, hx187_0, hx187_1, hx187_2, hx187_3, hx187_4, hl187_1, hi187_1, hl187_2, hi187_2⟩ := at_T53 HR0.out x11_1 p187 q187
     cases e187
     replace hx187_0 := HXz HB hx187_0
     replace hx187_1 := HXz HB hx187_1
     replace hx187_2 := HXz HB hx187_2
     replace hx187_3 := HXz HB hx187_3
     replace hx187_4 := HXz HB hx187_4
     have HR187_1 := Aside0.mk hi187_1
     have HC187_1 := Aside0.mk hl187_1
     clear hi187_1 hl187_1
     have HR187_2 := Aside0.mk hi187_2
     have HC187_2 := Aside0.mk hl187_2
     clear hi187_2 hl187_2
     replace p187 := eq_true p187
     replace q187 := eq_true q187
     go_wp2_with (first | ((with_reducible refine gate_dst (N := 12) rfl ?_); (try (refine gate_guard (by rfl) ?_; dsimp only)); refine box_event ?hg (N := 12) ?hd (cs := #[.string (⟨#[]⟩ : ByteArray), .slice none 0 0, .slice none 0 0, .int .i64 0, .bool false]) (t := 53) ?hr ?_; (case hd => rfl); (case hg => rfl); (case hr => first | (go_simp; done) | (go_simp; rfl)); intro gb188 hg w13 hbox hb; have n0_ := Aside0.mk (below_step HBa hb); have n1_ := Aside0.mk (hbox); have n2_ := BSz w hg HBa; have n3_ := BSz w hg HBa; clear HB; have HB := n0_; have BK188 := n1_; have GW188 := n2_; have GE188 := n3_; clear n0_ n1_ n2_ n3_; clear hb hbox hg; have hcz14_0 := C1z BK188; have hcz14_1 := C2z BK188; have hcz14_2 := C3z BK188; have hcz14_3 := C4z BK188; have hcz14_4 := C5z BK188; have hfz14_0 := blk_frozen BK188.out 0; have hfz14_1 := blk_frozen BK188.out 1; have hfz14_2 := blk_frozen BK188.out 2; have hfz14_3 := blk_frozen BK188.out 3; have hfz14_4 := blk_frozen BK188.out 4) | (go_at_call 92; (with_reducible refine (spec_DnUnder.calls k1 _ _ l2 _ _ ((rd_T53 l0 x11_1).f1) true _ ?side1 ?side2 ?side3 ?side4 A10.out).mono ?_); (case side1 => exact Kd.C_below HR2.out (HBb GE188)); (case side2 => exact HC2.out); (case side3 => exact Kd.C_below HR187_1.out (HBb GE188)); (case side4 => exact HC187_1.out); rintro e w15 ⟨rfl, hb⟩; have n0_ := Aside0.mk (blk_below (g := gb188) (o := .cells #[.string ((rd_T53 l0 x11_1).f0), .slice A187_1 ((rd_T53 l0 x11_1).f1).length c187_1, .slice A187_2 ((rd_T53 l0 x11_1).f2).length c187_2, .int .i64 ((rd_T53 l0 x11_1).f3), .bool ((rd_T53 l0 x11_1).f4)] 53 (0, 0)) (by (with_reducible repeat (first | refine blk_drewN ?_ _ | refine blk_drew ?_ | refine blk_alloc ?_ _)); refine blk_put (cs := #[.string ((rd_T53 l0 x11_1).f0), .slice A187_1 ((rd_T53 l0 x11_1).f1).length c187_1, .slice A187_2 ((rd_T53 l0 x11_1).f2).length c187_2, .int .i64 ((rd_T53 l0 x11_1).f3), .bool false]) ?_ 4 _ rfl; (with_reducible repeat (first | refine blk_drewN ?_ _ | refine blk_drew ?_ | refine blk_alloc ?_ _)); refine blk_put (cs := #[.string ((rd_T53 l0 x11_1).f0), .slice A187_1 ((rd_T53 l0 x11_1).f1).length c187_1, .slice A187_2 ((rd_T53 l0 x11_1).f2).length c187_2, .int .i64 0, .bool false]) ?_ 3 _ rfl; (with_reducible repeat (first | refine blk_drewN ?_ _ | refine blk_drew ?_ | refine blk_alloc ?_ _)); refine blk_put (cs := #[.string ((rd_T53 l0 x11_1).f0), .slice A187_1 ((rd_T53 l0 x11_1).f1).length c187_1, .slice none 0 0, .int .i64 0, .bool false]) ?_ 2 _ rfl; (with_reducible repeat (first | refine blk_drewN ?_ _ | refine blk_drew ?_ | refine blk_alloc ?_ _)); refine blk_put (cs := #[.string ((rd_T53 l0 x11_1).f0), .slice none 0 0, .slice none 0 0, .int .i64 0, .bool false]) ?_ 1 _ rfl; (with_reducible repeat (first | refine blk_drewN ?_ _ | refine blk_drew ?_ | refine blk_alloc ?_ _)); refine blk_put (cs := #[.string (⟨#[]⟩ : ByteArray), .slice none 0 0, .slice none 0 0, .int .i64 0, .bool false]) ?_ 0 _ rfl; (with_reducible repeat (first | refine blk_drewN ?_ _ | refine blk_drew ?_ | refine blk_alloc ?_ _)); exact BK188.out) hb); have n1_ := Aside0.mk (below_step (HBb GE188) hb); clear BK188; clear HB; have BK188 := n0_; have HB := n1_; clear n0_ n1_; (try clear hb); (try clear hb2); (try clear hk); (try clear hi); have hcz16_0 := C1z BK188; have hcz16_1 := C2z BK188; have hcz16_2 := C3z BK188; have hcz16_3 := C4z BK188; have hcz16_4 := C5z BK188; have hfz16_0 := blk_frozen BK188.out 0; have hfz16_1 := blk_frozen BK188.out 1; have hfz16_2 := blk_frozen BK188.out 2; have hfz16_3 := blk_frozen BK188.out 3; have hfz16_4 := blk_frozen BK188.out 4))
     go_ret
     exact ⟨EZa, HBb GE188⟩
    rw [if_neg c12] at H
    have c12b0 : ((((rd_T53 l0 x11_1).f2).length : Int) == 0) = false := beq_eq_false_iff_ne.mpr c12
    have c12b1 : ((((rd_T53 l0 x11_1).f2).length : Int) != 0) = true := bne_iff_ne.mpr c12
    have c12b2 : ¬ (((rd_T53 l0 x11_1).f2) = []) := fun h_ => c12 (by rw [h_]; rfl)
    replace H := Option.bind_eq_some_iff.mp H
    obtain ⟨t190, A170, H⟩ := H
    replace H : (if t190 = true then (some ((rd_T53 l0 x11_1).f4)) else (spec_l06Allowed.l0 k1 l0 a1 l2 a3 a4 (wrap64 (x11_1 + 1)))) = some r := H
    have A17 := Aside0.mk A170
    clear A170
    by_cases c18 : t190 = true
    ·subst c18
     have H1 : (some ((rd_T53 l0 x11_1).f4)) = some r := by rw [if_pos rfl] at H; exact H
     clear H
     have H := H1
     clear H1
     obtain rfl := Option.some.inj H
     have p187 : 0 ≤ (x11_1 : Int) := ODz
     have q187 : x11_1 < (l0.length : Int) := ODz
     obtain ⟨ad187, A187_1, c187_1, A187_2, c187_2, e187, hx187_0, hx187_1, hx187_2, hx187_3, hx187_4, hl187_1, hi187_1, hl187_2, hi187_2⟩ := at_T53 HR0.out x11_1 p187 q187
     cases e187
     replace hx187_0 := HXz HB hx187_0
     replace hx187_1 := HXz HB hx187_1
     replace hx187_2 := HXz HB hx187_2
     replace hx187_3 := HXz HB hx187_3
     replace hx187_4 := HXz HB hx187_4
     have HR187_1 := Aside0.mk hi187_1
     have HC187_1 := Aside0.mk hl187_1
     clear hi187_1 hl187_1
     have HR187_2 := Aside0.mk hi187_2
     have HC187_2 := Aside0.mk hl187_2
     clear hi187_2 hl187_2
     replace p187 := eq_true p187
     replace q187 := eq_true q187
     go_wp2_with (first | ((with_reducible refine gate_dst (N := 12) rfl ?_); (try (refine gate_guard (by rfl) ?_; dsimp only)); refine box_event ?hg (N := 12) ?hd (cs := #[.string (⟨#[]⟩ : ByteArray), .slice none 0 0, .slice none 0 0, .int .i64 0, .bool false]) (t := 53) ?hr ?_; (case hd => rfl); (case hg => rfl); (case hr => first | (go_simp; done) | (go_simp; rfl)); intro gb188 hg w19 hbox hb; have n0_ := Aside0.mk (below_step HBa hb); have n1_ := Aside0.mk (hbox); have n2_ := BSz w hg HBa; have n3_ := BSz w hg HBa; clear HB; have HB := n0_; have BK188 := n1_; have GW188 := n2_; have GE188 := n3_; clear n0_ n1_ n2_ n3_; clear hb hbox hg; have hcz20_0 := C1z BK188; have hcz20_1 := C2z BK188; have hcz20_2 := C3z BK188; have hcz20_3 := C4z BK188; have hcz20_4 := C5z BK188; have hfz20_0 := blk_frozen BK188.out 0; have hfz20_1 := blk_frozen BK188.out 1; have hfz20_2 := blk_frozen BK188.out 2; have hfz20_3 := blk_frozen BK188.out 3; have hfz20_4 := blk_frozen BK188.out 4) | (go_at_call 92; (with_reducible refine (spec_DnUnder.calls k1 _ _ l2 _ _ ((rd_T53 l0 x11_1).f1) true _ ?side1 ?side2 ?side3 ?side4 A10.out).mono ?_); (case side1 => exact Kd.C_below HR2.out (HBb GE188)); (case side2 => exact HC2.out); (case side3 => exact Kd.C_below HR187_1.out (HBb GE188)); (case side4 => exact HC187_1.out); rintro e w21 ⟨rfl, hb⟩; have n0_ := Aside0.mk (blk_below (g := gb188) (o := .cells #[.string ((rd_T53 l0 x11_1).f0), .slice A187_1 ((rd_T53 l0 x11_1).f1).length c187_1, .slice A187_2 ((rd_T53 l0 x11_1).f2).length c187_2, .int .i64 ((rd_T53 l0 x11_1).f3), .bool ((rd_T53 l0 x11_1).f4)] 53 (0, 0)) (by (with_reducible repeat (first | refine blk_drewN ?_ _ | refine blk_drew ?_ | refine blk_alloc ?_ _)); refine blk_put (cs := #[.string ((rd_T53 l0 x11_1).f0), .slice A187_1 ((rd_T53 l0 x11_1).f1).length c187_1, .slice A187_2 ((rd_T53 l0 x11_1).f2).length c187_2, .int .i64 ((rd_T53 l0 x11_1).f3), .bool false]) ?_ 4 _ rfl; (with_reducible repeat (first | refine blk_drewN ?_ _ | refine blk_drew ?_ | refine blk_alloc ?_ _)); refine blk_put (cs := #[.string ((rd_T53 l0 x11_1).f0), .slice A187_1 ((rd_T53 l0 x11_1).f1).length c187_1, .slice A187_2 ((rd_T53 l0 x11_1).f2).length c187_2, .int .i64 0, .bool false]) ?_ 3 _ rfl; (with_reducible repeat (first | refine blk_drewN ?_ _ | refine blk_drew ?_ | refine blk_alloc ?_ _)); refine blk_put (cs := #[.string ((rd_T53 l0 x11_1).f0), .slice A187_1 ((rd_T53 l0 x11_1).f1).length c187_1, .slice none 0 0, .int .i64 0, .bool false]) ?_ 2 _ rfl; (with_reducible repeat (first | refine blk_drewN ?_ _ | refine blk_drew ?_ | refine blk_alloc ?_ _)); refine blk_put (cs := #[.string ((rd_T53 l0 x11_1).f0), .slice none 0 0, .slice none 0 0, .int .i64 0, .bool false]) ?_ 1 _ rfl; (with_reducible repeat (first | refine blk_drewN ?_ _ | refine blk_drew ?_ | refine blk_alloc ?_ _)); refine blk_put (cs := #[.string (⟨#[]⟩ : ByteArray), .slice none 0 0, .slice none 0 0, .int .i64 0, .bool false]) ?_ 0 _ rfl; (with_reducible repeat (first | refine blk_drewN ?_ _ | refine blk_drew ?_ | refine blk_alloc ?_ _)); exact BK188.out) hb); have n1_ := Aside0.mk (below_step (HBb GE188) hb); clear BK188; clear HB; have BK188 := n0_; have HB := n1_; clear n0_ n1_; (try clear hb); (try clear hb2); (try clear hk); (try clear hi); have hcz22_0 := C1z BK188; have hcz22_1 := C2z BK188; have hcz22_2 := C3z BK188; have hcz22_3 := C4z BK188; have hcz22_4 := C5z BK188; have hfz22_0 := blk_frozen BK188.out 0; have hfz22_1 := blk_frozen BK188.out 1; have hfz22_2 := blk_frozen BK188.out 2; have hfz22_3 := blk_frozen BK188.out 3; have hfz22_4 := blk_frozen BK188.out 4) | (go_at_call 93; (with_reducible refine (spec_l04Has.calls k1 _ _ ((rd_T53 l0 x11_1).f2) a3 true _ ?side1 ?side2 A17.out).mono ?_); (case side1 => exact KCz (Kd.C_below HR187_2.out HB.out)); (case side2 => exact HC187_2.out); rintro e w' ⟨rfl, ⟨nd, rfl⟩⟩))
     go_ret
     exact ⟨EZa, HBb GE188⟩
    replace c18 := Bool.eq_false_iff.mpr c18
    subst c18
    have H1 : (spec_l06Allowed.l0 k1 l0 a1 l2 a3 a4 (wrap64 (x11_1 + 1))) = some r := by rw [if_neg (show ¬ (false = true) by decide)] at H; exact H
    clear H
    have H := H1
    clear H1
    have H' := Aside0.mk H
    clear H
    have p187 : 0 ≤ (x11_1 : Int) := ODz
    have q187 : x11_1 < (l0.length : Int) := ODz
    obtain ⟨ad187, A187_1, c187_1, A187_2, c187_2, e187, hx187_0, hx187_1, hx187_2, hx187_3, hx187_4, hl187_1, hi187_1, hl187_2, hi187_2⟩ := at_T53 HR0.out x11_1 p187 q187
    cases e187
    replace hx187_0 := HXz HB hx187_0
    replace hx187_1 := HXz HB hx187_1
    replace hx187_2 := HXz HB hx187_2
    replace hx187_3 := HXz HB hx187_3
    replace hx187_4 := HXz HB hx187_4
    have HR187_1 := Aside0.mk hi187_1
    have HC187_1 := Aside0.mk hl187_1
    clear hi187_1 hl187_1
    have HR187_2 := Aside0.mk hi187_2
    have HC187_2 := Aside0.mk hl187_2
    clear hi187_2 hl187_2
    replace p187 := eq_true p187
    replace q187 := eq_true q187
    go_wp2_with (first | ((with_reducible refine gate_dst (N := 12) rfl ?_); (try (refine gate_guard (by rfl) ?_; dsimp only)); refine box_event ?hg (N := 12) ?hd (cs := #[.string (⟨#[]⟩ : ByteArray), .slice none 0 0, .slice none 0 0, .int .i64 0, .bool false]) (t := 53) ?hr ?_; (case hd => rfl); (case hg => rfl); (case hr => first | (go_simp; done) | (go_simp; rfl)); intro gb188 hg w23 hbox hb; have n0_ := Aside0.mk (below_step HBa hb); have n1_ := Aside0.mk (hbox); have n2_ := BSz w hg HBa; have n3_ := BSz w hg HBa; clear HB; have HB := n0_; have BK188 := n1_; have GW188 := n2_; have GE188 := n3_; clear n0_ n1_ n2_ n3_; clear hb hbox hg; have hcz24_0 := C1z BK188; have hcz24_1 := C2z BK188; have hcz24_2 := C3z BK188; have hcz24_3 := C4z BK188; have hcz24_4 := C5z BK188; have hfz24_0 := blk_frozen BK188.out 0; have hfz24_1 := blk_frozen BK188.out 1; have hfz24_2 := blk_frozen BK188.out 2; have hfz24_3 := blk_frozen BK188.out 3; have hfz24_4 := blk_frozen BK188.out 4) | (go_at_call 92; (with_reducible refine (spec_DnUnder.calls k1 _ _ l2 _ _ ((rd_T53 l0 x11_1).f1) true _ ?side1 ?side2 ?side3 ?side4 A10.out).mono ?_); (case side1 => exact Kd.C_below HR2.out (HBb GE188)); (case side2 => exact HC2.out); (case side3 => exact Kd.C_below HR187_1.out (HBb GE188)); (case side4 => exact HC187_1.out); rintro e w25 ⟨rfl, hb⟩; have n0_ := Aside0.mk (blk_below (g := gb188) (o := .cells #[.string ((rd_T53 l0 x11_1).f0), .slice A187_1 ((rd_T53 l0 x11_1).f1).length c187_1, .slice A187_2 ((rd_T53 l0 x11_1).f2).length c187_2, .int .i64 ((rd_T53 l0 x11_1).f3), .bool ((rd_T53 l0 x11_1).f4)] 53 (0, 0)) (by (with_reducible repeat (first | refine blk_drewN ?_ _ | refine blk_drew ?_ | refine blk_alloc ?_ _)); refine blk_put (cs := #[.string ((rd_T53 l0 x11_1).f0), .slice A187_1 ((rd_T53 l0 x11_1).f1).length c187_1, .slice A187_2 ((rd_T53 l0 x11_1).f2).length c187_2, .int .i64 ((rd_T53 l0 x11_1).f3), .bool false]) ?_ 4 _ rfl; (with_reducible repeat (first | refine blk_drewN ?_ _ | refine blk_drew ?_ | refine blk_alloc ?_ _)); refine blk_put (cs := #[.string ((rd_T53 l0 x11_1).f0), .slice A187_1 ((rd_T53 l0 x11_1).f1).length c187_1, .slice A187_2 ((rd_T53 l0 x11_1).f2).length c187_2, .int .i64 0, .bool false]) ?_ 3 _ rfl; (with_reducible repeat (first | refine blk_drewN ?_ _ | refine blk_drew ?_ | refine blk_alloc ?_ _)); refine blk_put (cs := #[.string ((rd_T53 l0 x11_1).f0), .slice A187_1 ((rd_T53 l0 x11_1).f1).length c187_1, .slice none 0 0, .int .i64 0, .bool false]) ?_ 2 _ rfl; (with_reducible repeat (first | refine blk_drewN ?_ _ | refine blk_drew ?_ | refine blk_alloc ?_ _)); refine blk_put (cs := #[.string ((rd_T53 l0 x11_1).f0), .slice none 0 0, .slice none 0 0, .int .i64 0, .bool false]) ?_ 1 _ rfl; (with_reducible repeat (first | refine blk_drewN ?_ _ | refine blk_drew ?_ | refine blk_alloc ?_ _)); refine blk_put (cs := #[.string (⟨#[]⟩ : ByteArray), .slice none 0 0, .slice none 0 0, .int .i64 0, .bool false]) ?_ 0 _ rfl; (with_reducible repeat (first | refine blk_drewN ?_ _ | refine blk_drew ?_ | refine blk_alloc ?_ _)); exact BK188.out) hb); have n1_ := Aside0.mk (below_step (HBb GE188) hb); clear BK188; clear HB; have BK188 := n0_; have HB := n1_; clear n0_ n1_; (try clear hb); (try clear hb2); (try clear hk); (try clear hi); have hcz26_0 := C1z BK188; have hcz26_1 := C2z BK188; have hcz26_2 := C3z BK188; have hcz26_3 := C4z BK188; have hcz26_4 := C5z BK188; have hfz26_0 := blk_frozen BK188.out 0; have hfz26_1 := blk_frozen BK188.out 1; have hfz26_2 := blk_frozen BK188.out 2; have hfz26_3 := blk_frozen BK188.out 3; have hfz26_4 := blk_frozen BK188.out 4) | (go_at_call 93; (with_reducible refine (spec_l04Has.calls k1 _ _ ((rd_T53 l0 x11_1).f2) a3 false _ ?side1 ?side2 A17.out).mono ?_); (case side1 => exact KCz (Kd.C_below HR187_2.out HB.out)); (case side2 => exact HC187_2.out); rintro e w' ⟨rfl, ⟨nd, rfl⟩⟩))
    go_roundg k1
    case measure => have := HK1.out; omega
    case rel => exact ⟨(wrap64 (x11_1 + 1)), EZc, H', ⟨by have := HK1.out; omega⟩, ⟨by repeat (first | (with_reducible first | exact HB.out | apply below_alloc | apply pw_below_drewN | apply below_drew1 | refine below_set ?_ GE188.out) | exact HB.out)⟩⟩
   rw [if_neg c8] at H
   have c8b0 : (((rd_T53 l0 x11_1).f0).toList == ([42] : List UInt8)) = false := beq_eq_false_iff_ne.mpr c8
   have c8b1 : (((rd_T53 l0 x11_1).f0).toList != ([42] : List UInt8)) = true := bne_iff_ne.mpr c8
   by_cases c32 : ((rd_T53 l0 x11_1).f0).toList = a1.toList
   rotate_left
   ·rw [if_neg c32] at H
    have c32b0 : (((rd_T53 l0 x11_1).f0).toList == a1.toList) = false := beq_eq_false_iff_ne.mpr c32
    have c32b1 : (((rd_T53 l0 x11_1).f0).toList != a1.toList) = true := bne_iff_ne.mpr c32
    have H' := Aside0.mk H
    clear H
    have p187 : 0 ≤ (x11_1 : Int) := ODz
    have q187 : x11_1 < (l0.length : Int) := ODz
    obtain ⟨ad187, A187_1, c187_1, A187_2, c187_2, e187, hx187_0, hx187_1, hx187_2, hx187_3, hx187_4, hl187_1, hi187_1, hl187_2, hi187_2⟩ := at_T53 HR0.out x11_1 p187 q187
    cases e187
    replace hx187_0 := HXz HB hx187_0
    replace hx187_1 := HXz HB hx187_1
    replace hx187_2 := HXz HB hx187_2
    replace hx187_3 := HXz HB hx187_3
    replace hx187_4 := HXz HB hx187_4
    have HR187_1 := Aside0.mk hi187_1
    have HC187_1 := Aside0.mk hl187_1
    clear hi187_1 hl187_1
    have HR187_2 := Aside0.mk hi187_2
    have HC187_2 := Aside0.mk hl187_2
    clear hi187_2 hl187_2
    replace p187 := eq_true p187
    replace q187 := eq_true q187
    go_wp2_with (first | ((with_reducible refine gate_dst (N := 12) rfl ?_); (try (refine gate_guard (by rfl) ?_; dsimp only)); refine box_event ?hg (N := 12) ?hd (cs := #[.string (⟨#[]⟩ : ByteArray), .slice none 0 0, .slice none 0 0, .int .i64 0, .bool false]) (t := 53) ?hr ?_; (case hd => rfl); (case hg => rfl); (case hr => first | (go_simp; done) | (go_simp; rfl)); intro gb188 hg w56 hbox hb; have n0_ := Aside0.mk (below_step HBa hb); have n1_ := Aside0.mk (hbox); have n2_ := BSz w hg HBa; have n3_ := BSz w hg HBa; clear HB; have HB := n0_; have BK188 := n1_; have GW188 := n2_; have GE188 := n3_; clear n0_ n1_ n2_ n3_; clear hb hbox hg; have hcz57_0 := C1z BK188; have hcz57_1 := C2z BK188; have hcz57_2 := C3z BK188; have hcz57_3 := C4z BK188; have hcz57_4 := C5z BK188; have hfz57_0 := blk_frozen BK188.out 0; have hfz57_1 := blk_frozen BK188.out 1; have hfz57_2 := blk_frozen BK188.out 2; have hfz57_3 := blk_frozen BK188.out 3; have hfz57_4 := blk_frozen BK188.out 4))
    go_roundg k1
    case measure => have := HK1.out; omega
    case rel => exact ⟨(wrap64 (x11_1 + 1)), EZc, H', ⟨by have := HK1.out; omega⟩, ⟨by repeat (first | (with_reducible first | exact HB.out | apply below_alloc | apply pw_below_drewN | apply below_drew1 | refine below_set ?_ GE188.out) | exact HB.out)⟩⟩
   rw [if_pos c32] at H
   have c32b0 : (((rd_T53 l0 x11_1).f0).toList == a1.toList) = true := beq_iff_eq.mpr c32
   have c32b1 : (((rd_T53 l0 x11_1).f0).toList != a1.toList) = false := bne_eq_false_iff_eq.mpr c32
   clear c32
   by_cases c33 : ((rd_T53 l0 x11_1).f3) = a4
   rotate_left
   ·rw [if_neg c33] at H
    have c33b0 : (((rd_T53 l0 x11_1).f3) == a4) = false := beq_eq_false_iff_ne.mpr c33
    have c33b1 : (((rd_T53 l0 x11_1).f3) != a4) = true := bne_iff_ne.mpr c33
    have H' := Aside0.mk H
    clear H
    have p187 : 0 ≤ (x11_1 : Int) := ODz
    have q187 : x11_1 < (l0.length : Int) := ODz
    obtain ⟨ad187, A187_1, c187_1, A187_2, c187_2, e187, hx187_0, hx187_1, hx187_2, hx187_3, hx187_4, hl187_1, hi187_1, hl187_2, hi187_2⟩ := at_T53 HR0.out x11_1 p187 q187
    cases e187
    replace hx187_0 := HXz HB hx187_0
    replace hx187_1 := HXz HB hx187_1
    replace hx187_2 := HXz HB hx187_2
    replace hx187_3 := HXz HB hx187_3
    replace hx187_4 := HXz HB hx187_4
    have HR187_1 := Aside0.mk hi187_1
    have HC187_1 := Aside0.mk hl187_1
    clear hi187_1 hl187_1
    have HR187_2 := Aside0.mk hi187_2
    have HC187_2 := Aside0.mk hl187_2
    clear hi187_2 hl187_2
    replace p187 := eq_true p187
    replace q187 := eq_true q187
    go_wp2_with (first | ((with_reducible refine gate_dst (N := 12) rfl ?_); (try (refine gate_guard (by rfl) ?_; dsimp only)); refine box_event ?hg (N := 12) ?hd (cs := #[.string (⟨#[]⟩ : ByteArray), .slice none 0 0, .slice none 0 0, .int .i64 0, .bool false]) (t := 53) ?hr ?_; (case hd => rfl); (case hg => rfl); (case hr => first | (go_simp; done) | (go_simp; rfl)); intro gb188 hg w54 hbox hb; have n0_ := Aside0.mk (below_step HBa hb); have n1_ := Aside0.mk (hbox); have n2_ := BSz w hg HBa; have n3_ := BSz w hg HBa; clear HB; have HB := n0_; have BK188 := n1_; have GW188 := n2_; have GE188 := n3_; clear n0_ n1_ n2_ n3_; clear hb hbox hg; have hcz55_0 := C1z BK188; have hcz55_1 := C2z BK188; have hcz55_2 := C3z BK188; have hcz55_3 := C4z BK188; have hcz55_4 := C5z BK188; have hfz55_0 := blk_frozen BK188.out 0; have hfz55_1 := blk_frozen BK188.out 1; have hfz55_2 := blk_frozen BK188.out 2; have hfz55_3 := blk_frozen BK188.out 3; have hfz55_4 := blk_frozen BK188.out 4))
    go_roundg k1
    case measure => have := HK1.out; omega
    case rel => exact ⟨(wrap64 (x11_1 + 1)), EZc, H', ⟨by have := HK1.out; omega⟩, ⟨by repeat (first | (with_reducible first | exact HB.out | apply below_alloc | apply pw_below_drewN | apply below_drew1 | refine below_set ?_ GE188.out) | exact HB.out)⟩⟩
   rw [if_pos c33] at H
   have c33b0 : (((rd_T53 l0 x11_1).f3) == a4) = true := beq_iff_eq.mpr c33
   have c33b1 : (((rd_T53 l0 x11_1).f3) != a4) = false := bne_eq_false_iff_eq.mpr c33
   clear c33
   replace H := Option.bind_eq_some_iff.mp H
   obtain ⟨t191, A340, H⟩ := H
   replace H : (if t191 = true then (if (((rd_T53 l0 x11_1).f2).length : Int) = 0 then (some ((rd_T53 l0 x11_1).f4)) else ((spec_l04Has.f k1 ((rd_T53 l0 x11_1).f2) a3).bind fun t192 => (if t192 = true then (some ((rd_T53 l0 x11_1).f4)) else (spec_l06Allowed.l0 k1 l0 a1 l2 a3 a4 (wrap64 (x11_1 + 1)))))) else (spec_l06Allowed.l0 k1 l0 a1 l2 a3 a4 (wrap64 (x11_1 + 1)))) = some r := H
   have A34 := Aside0.mk A340
   clear A340
   by_cases c35 : t191 = true
   rotate_left
   ·replace c35 := Bool.eq_false_iff.mpr c35
    subst c35
    have H1 : (spec_l06Allowed.l0 k1 l0 a1 l2 a3 a4 (wrap64 (x11_1 + 1))) = some r := by rw [if_neg (show ¬ (false = true) by decide)] at H; exact H
    clear H
    have H := H1
    clear H1
    have H' := Aside0.mk H
    clear H
    have p187 : 0 ≤ (x11_1 : Int) := ODz
    have q187 : x11_1 < (l0.length : Int) := ODz
    obtain ⟨ad187, A187_1, c187_1, A187_2, c187_2, e187, hx187_0, hx187_1, hx187_2, hx187_3, hx187_4, hl187_1, hi187_1, hl187_2, hi187_2⟩ := at_T53 HR0.out x11_1 p187 q187
    cases e187
    replace hx187_0 := HXz HB hx187_0
    replace hx187_1 := HXz HB hx187_1
    replace hx187_2 := HXz HB hx187_2
    replace hx187_3 := HXz HB hx187_3
    replace hx187_4 := HXz HB hx187_4
    have HR187_1 := Aside0.mk hi187_1
    have HC187_1 := Aside0.mk hl187_1
    clear hi187_1 hl187_1
    have HR187_2 := Aside0.mk hi187_2
    have HC187_2 := Aside0.mk hl187_2
    clear hi187_2 hl187_2
    replace p187 := eq_true p187
    replace q187 := eq_true q187
    go_wp2_with (first | ((with_reducible refine gate_dst (N := 12) rfl ?_); (try (refine gate_guard (by rfl) ?_; dsimp only)); refine box_event ?hg (N := 12) ?hd (cs := #[.string (⟨#[]⟩ : ByteArray), .slice none 0 0, .slice none 0 0, .int .i64 0, .bool false]) (t := 53) ?hr ?_; (case hd => rfl); (case hg => rfl); (case hr => first | (go_simp; done) | (go_simp; rfl)); intro gb188 hg w51 hbox hb; have n0_ := Aside0.mk (below_step HBa hb); have n1_ := Aside0.mk (hbox); have n2_ := BSz w hg HBa; have n3_ := BSz w hg HBa; clear HB; have HB := n0_; have BK188 := n1_; have GW188 := n2_; have GE188 := n3_; clear n0_ n1_ n2_ n3_; clear hb hbox hg; have hcz52_0 := C1z BK188; have hcz52_1 := C2z BK188; have hcz52_2 := C3z BK188; have hcz52_3 := C4z BK188; have hcz52_4 := C5z BK188; have hfz52_0 := blk_frozen BK188.out 0; have hfz52_1 := blk_frozen BK188.out 1; have hfz52_2 := blk_frozen BK188.out 2; have hfz52_3 := blk_frozen BK188.out 3; have hfz52_4 := blk_frozen BK188.out 4) | (go_at_call 92; (with_reducible refine (spec_DnUnder.calls k1 _ _ l2 _ _ ((rd_T53 l0 x11_1).f1) false _ ?side1 ?side2 ?side3 ?side4 A34.out).mono ?_); (case side1 => exact Kd.C_below HR2.out (HBb GE188)); (case side2 => exact HC2.out); (case side3 => exact Kd.C_below HR187_1.out (HBb GE188)); (case side4 => exact HC187_1.out); rintro e w53 ⟨rfl, hb⟩; have n0_ := Aside0.mk (blk_below (g := gb188) (o := .cells #[.string ((rd_T53 l0 x11_1).f0), .slice A187_1 ((rd_T53 l0 x11_1).f1).length c187_1, .slice A187_2 ((rd_T53 l0 x11_1).f2).length c187_2, .int .i64 ((rd_T53 l0 x11_1).f3), .bool ((rd_T53 l0 x11_1).f4)] 53 (0, 0)) (by (with_reducible repeat (first | refine blk_drewN ?_ _ | refine blk_drew ?_ | refine blk_alloc ?_ _)); refine blk_put (cs := #[.string ((rd_T53 l0 x11_1).f0), .slice A187_1 ((rd_T53 l0 x11_1).f1).length c187_1, .slice A187_2 ((rd_T53 l0 x11_1).f2).length c187_2, .int .i64 ((rd_T53 l0 x11_1).f3), .bool false]) ?_ 4 _ rfl; (with_reducible repeat (first | refine blk_drewN ?_ _ | refine blk_drew ?_ | refine blk_alloc ?_ _)); refine blk_put (cs := #[.string ((rd_T53 l0 x11_1).f0), .slice A187_1 ((rd_T53 l0 x11_1).f1).length c187_1, .slice A187_2 ((rd_T53 l0 x11_1).f2).length c187_2, .int .i64 0, .bool false]) ?_ 3 _ rfl; (with_reducible repeat (first | refine blk_drewN ?_ _ | refine blk_drew ?_ | refine blk_alloc ?_ _)); refine blk_put (cs := #[.string ((rd_T53 l0 x11_1).f0), .slice A187_1 ((rd_T53 l0 x11_1).f1).length c187_1, .slice none 0 0, .int .i64 0, .bool false]) ?_ 2 _ rfl; (with_reducible repeat (first | refine blk_drewN ?_ _ | refine blk_drew ?_ | refine blk_alloc ?_ _)); refine blk_put (cs := #[.string ((rd_T53 l0 x11_1).f0), .slice none 0 0, .slice none 0 0, .int .i64 0, .bool false]) ?_ 1 _ rfl; (with_reducible repeat (first | refine blk_drewN ?_ _ | refine blk_drew ?_ | refine blk_alloc ?_ _)); refine blk_put (cs := #[.string (⟨#[]⟩ : ByteArray), .slice none 0 0, .slice none 0 0, .int .i64 0, .bool false]) ?_ 0 _ rfl; (with_reducible repeat (first | refine blk_drewN ?_ _ | refine blk_drew ?_ | refine blk_alloc ?_ _)); exact BK188.out) hb); have n1_ := Aside0.mk (below_step (HBb GE188) hb); clear BK188; clear HB; have BK188 := n0_; have HB := n1_; clear n0_ n1_; (try clear hb); (try clear hb2); (try clear hk); (try clear hi)))
    go_roundg k1
    case measure => have := HK1.out; omega
    case rel => exact ⟨(wrap64 (x11_1 + 1)), EZc, H', ⟨by have := HK1.out; omega⟩, ⟨by repeat (first | (with_reducible first | exact HB.out | apply below_alloc | apply pw_below_drewN | apply below_drew1 | refine below_set ?_ GE188.out) | exact HB.out)⟩⟩
   subst c35
   have H1 : (if (((rd_T53 l0 x11_1).f2).length : Int) = 0 then (some ((rd_T53 l0 x11_1).f4)) else ((spec_l04Has.f k1 ((rd_T53 l0 x11_1).f2) a3).bind fun t192 => (if t192 = true then (some ((rd_T53 l0 x11_1).f4)) else (spec_l06Allowed.l0 k1 l0 a1 l2 a3 a4 (wrap64 (x11_1 + 1)))))) = some r := by rw [if_pos rfl] at H; exact H
   clear H
   have H := H1
   clear H1
   by_cases c36 : (((rd_T53 l0 x11_1).f2).length : Int) = 0
   ·rw [if_pos c36] at H
    have c36b0 : ((((rd_T53 l0 x11_1).f2).length : Int) == 0) = true := beq_iff_eq.mpr c36
    have c36b1 : ((((rd_T53 l0 x11_1).f2).length : Int) != 0) = false := bne_eq_false_iff_eq.mpr c36
    clear c36
    obtain rfl := Option.some.inj H
    have p187 : 0 ≤ (x11_1 : Int) := ODz
    have q187 : x11_1 < (l0.length : Int) := ODz
    obtain ⟨ad187, A187_1, c187_1, A187_2, c187_2, e187, hx187_0, hx187_1, hx187_2, hx187_3, hx187_4, hl187_1, hi187_1, hl187_2, hi187_2⟩ := at_T53 HR0.out x11_1 p187 q187
    cases e187
    replace hx187_0 := HXz HB hx187_0
    replace hx187_1 := HXz HB hx187_1
    replace hx187_2 := HXz HB hx187_2
    replace hx187_3 := HXz HB hx187_3
    replace hx187_4 := HXz HB hx187_4
    have HR187_1 := Aside0.mk hi187_1
    have HC187_1 := Aside0.mk hl187_1
    clear hi187_1 hl187_1
    have HR187_2 := Aside0.mk hi187_2
    have HC187_2 := Aside0.mk hl187_2
    clear hi187_2 hl187_2
    replace p187 := eq_true p187
    replace q187 := eq_true q187
    go_wp2_with (first | ((with_reducible refine gate_dst (N := 12) rfl ?_); (try (refine gate_guard (by rfl) ?_; dsimp only)); refine box_event ?hg (N := 12) ?hd (cs := #[.string (⟨#[]⟩ : ByteArray), .slice none 0 0, .slice none 0 0, .int .i64 0, .bool false]) (t := 53) ?hr ?_; (case hd => rfl); (case hg => rfl); (case hr => first | (go_simp; done) | (go_simp; rfl)); intro gb188 hg w37 hbox hb; have n0_ := Aside0.mk (below_step HBa hb); have n1_ := Aside0.mk (hbox); have n2_ := BSz w hg HBa; have n3_ := BSz w hg HBa; clear HB; have HB := n0_; have BK188 := n1_; have GW188 := n2_; have GE188 := n3_; clear n0_ n1_ n2_ n3_; clear hb hbox hg; have hcz38_0 := C1z BK188; have hcz38_1 := C2z BK188; have hcz38_2 := C3z BK188; have hcz38_3 := C4z BK188; have hcz38_4 := C5z BK188; have hfz38_0 := blk_frozen BK188.out 0; have hfz38_1 := blk_frozen BK188.out 1; have hfz38_2 := blk_frozen BK188.out 2; have hfz38_3 := blk_frozen BK188.out 3; have hfz38_4 := blk_frozen BK188.out 4) | (go_at_call 92; (with_reducible refine (spec_DnUnder.calls k1 _ _ l2 _ _ ((rd_T53 l0 x11_1).f1) true _ ?side1 ?side2 ?side3 ?side4 A34.out).mono ?_); (case side1 => exact Kd.C_below HR2.out (HBb GE188)); (case side2 => exact HC2.out); (case side3 => exact Kd.C_below HR187_1.out (HBb GE188)); (case side4 => exact HC187_1.out); rintro e w39 ⟨rfl, hb⟩; have n0_ := Aside0.mk (blk_below (g := gb188) (o := .cells #[.string ((rd_T53 l0 x11_1).f0), .slice A187_1 ((rd_T53 l0 x11_1).f1).length c187_1, .slice A187_2 ((rd_T53 l0 x11_1).f2).length c187_2, .int .i64 ((rd_T53 l0 x11_1).f3), .bool ((rd_T53 l0 x11_1).f4)] 53 (0, 0)) (by (with_reducible repeat (first | refine blk_drewN ?_ _ | refine blk_drew ?_ | refine blk_alloc ?_ _)); refine blk_put (cs := #[.string ((rd_T53 l0 x11_1).f0), .slice A187_1 ((rd_T53 l0 x11_1).f1).length c187_1, .slice A187_2 ((rd_T53 l0 x11_1).f2).length c187_2, .int .i64 ((rd_T53 l0 x11_1).f3), .bool false]) ?_ 4 _ rfl; (with_reducible repeat (first | refine blk_drewN ?_ _ | refine blk_drew ?_ | refine blk_alloc ?_ _)); refine blk_put (cs := #[.string ((rd_T53 l0 x11_1).f0), .slice A187_1 ((rd_T53 l0 x11_1).f1).length c187_1, .slice A187_2 ((rd_T53 l0 x11_1).f2).length c187_2, .int .i64 0, .bool false]) ?_ 3 _ rfl; (with_reducible repeat (first | refine blk_drewN ?_ _ | refine blk_drew ?_ | refine blk_alloc ?_ _)); refine blk_put (cs := #[.string ((rd_T53 l0 x11_1).f0), .slice A187_1 ((rd_T53 l0 x11_1).f1).length c187_1, .slice none 0 0, .int .i64 0, .bool false]) ?_ 2 _ rfl; (with_reducible repeat (first | refine blk_drewN ?_ _ | refine blk_drew ?_ | refine blk_alloc ?_ _)); refine blk_put (cs := #[.string ((rd_T53 l0 x11_1).f0), .slice none 0 0, .slice none 0 0, .int .i64 0, .bool false]) ?_ 1 _ rfl; (with_reducible repeat (first | refine blk_drewN ?_ _ | refine blk_drew ?_ | refine blk_alloc ?_ _)); refine blk_put (cs := #[.string (⟨#[]⟩ : ByteArray), .slice none 0 0, .slice none 0 0, .int .i64 0, .bool false]) ?_ 0 _ rfl; (with_reducible repeat (first | refine blk_drewN ?_ _ | refine blk_drew ?_ | refine blk_alloc ?_ _)); exact BK188.out) hb); have n1_ := Aside0.mk (below_step (HBb GE188) hb); clear BK188; clear HB; have BK188 := n0_; have HB := n1_; clear n0_ n1_; (try clear hb); (try clear hb2); (try clear hk); (try clear hi); have hcz40_0 := C1z BK188; have hcz40_1 := C2z BK188; have hcz40_2 := C3z BK188; have hcz40_3 := C4z BK188; have hcz40_4 := C5z BK188; have hfz40_0 := blk_frozen BK188.out 0; have hfz40_1 := blk_frozen BK188.out 1; have hfz40_2 := blk_frozen BK188.out 2; have hfz40_3 := blk_frozen BK188.out 3; have hfz40_4 := blk_frozen BK188.out 4))
    go_ret
    exact ⟨EZa, HBb GE188⟩
   rw [if_neg c36] at H
   have c36b0 : ((((rd_T53 l0 x11_1).f2).length : Int) == 0) = false := beq_eq_false_iff_ne.mpr c36
   have c36b1 : ((((rd_T53 l0 x11_1).f2).length : Int) != 0) = true := bne_iff_ne.mpr c36
   have c36b2 : ¬ (((rd_T53 l0 x11_1).f2) = []) := fun h_ => c36 (by rw [h_]; rfl)
   replace H := Option.bind_eq_some_iff.mp H
   obtain ⟨t192, A410, H⟩ := H
   replace H : (if t192 = true then (some ((rd_T53 l0 x11_1).f4)) else (spec_l06Allowed.l0 k1 l0 a1 l2 a3 a4 (wrap64 (x11_1 + 1)))) = some r := H
   have A41 := Aside0.mk A410
   clear A410
   by_cases c42 : t192 = true
   ·subst c42
    have H1 : (some ((rd_T53 l0 x11_1).f4)) = some r := by rw [if_pos rfl] at H; exact H
    clear H
    have H := H1
    clear H1
    obtain rfl := Option.some.inj H
    have p187 : 0 ≤ (x11_1 : Int) := ODz
    have q187 : x11_1 < (l0.length : Int) := ODz
    obtain ⟨ad187, A187_1, c187_1, A187_2, c187_2, e187, hx187_0, hx187_1, hx187_2, hx187_3, hx187_4, hl187_1, hi187_1, hl187_2, hi187_2⟩ := at_T53 HR0.out x11_1 p187 q187
    cases e187
    replace hx187_0 := HXz HB hx187_0
    replace hx187_1 := HXz HB hx187_1
    replace hx187_2 := HXz HB hx187_2
    replace hx187_3 := HXz HB hx187_3
    replace hx187_4 := HXz HB hx187_4
    have HR187_1 := Aside0.mk hi187_1
    have HC187_1 := Aside0.mk hl187_1
    clear hi187_1 hl187_1
    have HR187_2 := Aside0.mk hi187_2
    have HC187_2 := Aside0.mk hl187_2
    clear hi187_2 hl187_2
    replace p187 := eq_true p187
    replace q187 := eq_true q187
    go_wp2_with (first | ((with_reducible refine gate_dst (N := 12) rfl ?_); (try (refine gate_guard (by rfl) ?_; dsimp only)); refine box_event ?hg (N := 12) ?hd (cs := #[.string (⟨#[]⟩ : ByteArray), .slice none 0 0, .slice none 0 0, .int .i64 0, .bool false]) (t := 53) ?hr ?_; (case hd => rfl); (case hg => rfl); (case hr => first | (go_simp; done) | (go_simp; rfl)); intro gb188 hg w43 hbox hb; have n0_ := Aside0.mk (below_step HBa hb); have n1_ := Aside0.mk (hbox); have n2_ := BSz w hg HBa; have n3_ := BSz w hg HBa; clear HB; have HB := n0_; have BK188 := n1_; have GW188 := n2_; have GE188 := n3_; clear n0_ n1_ n2_ n3_; clear hb hbox hg; have hcz44_0 := C1z BK188; have hcz44_1 := C2z BK188; have hcz44_2 := C3z BK188; have hcz44_3 := C4z BK188; have hcz44_4 := C5z BK188; have hfz44_0 := blk_frozen BK188.out 0; have hfz44_1 := blk_frozen BK188.out 1; have hfz44_2 := blk_frozen BK188.out 2; have hfz44_3 := blk_frozen BK188.out 3; have hfz44_4 := blk_frozen BK188.out 4) | (go_at_call 92; (with_reducible refine (spec_DnUnder.calls k1 _ _ l2 _ _ ((rd_T53 l0 x11_1).f1) true _ ?side1 ?side2 ?side3 ?side4 A34.out).mono ?_); (case side1 => exact Kd.C_below HR2.out (HBb GE188)); (case side2 => exact HC2.out); (case side3 => exact Kd.C_below HR187_1.out (HBb GE188)); (case side4 => exact HC187_1.out); rintro e w45 ⟨rfl, hb⟩; have n0_ := Aside0.mk (blk_below (g := gb188) (o := .cells #[.string ((rd_T53 l0 x11_1).f0), .slice A187_1 ((rd_T53 l0 x11_1).f1).length c187_1, .slice A187_2 ((rd_T53 l0 x11_1).f2).length c187_2, .int .i64 ((rd_T53 l0 x11_1).f3), .bool ((rd_T53 l0 x11_1).f4)] 53 (0, 0)) (by (with_reducible repeat (first | refine blk_drewN ?_ _ | refine blk_drew ?_ | refine blk_alloc ?_ _)); refine blk_put (cs := #[.string ((rd_T53 l0 x11_1).f0), .slice A187_1 ((rd_T53 l0 x11_1).f1).length c187_1, .slice A187_2 ((rd_T53 l0 x11_1).f2).length c187_2, .int .i64 ((rd_T53 l0 x11_1).f3), .bool false]) ?_ 4 _ rfl; (with_reducible repeat (first | refine blk_drewN ?_ _ | refine blk_drew ?_ | refine blk_alloc ?_ _)); refine blk_put (cs := #[.string ((rd_T53 l0 x11_1).f0), .slice A187_1 ((rd_T53 l0 x11_1).f1).length c187_1, .slice A187_2 ((rd_T53 l0 x11_1).f2).length c187_2, .int .i64 0, .bool false]) ?_ 3 _ rfl; (with_reducible repeat (first | refine blk_drewN ?_ _ | refine blk_drew ?_ | refine blk_alloc ?_ _)); refine blk_put (cs := #[.string ((rd_T53 l0 x11_1).f0), .slice A187_1 ((rd_T53 l0 x11_1).f1).length c187_1, .slice none 0 0, .int .i64 0, .bool false]) ?_ 2 _ rfl; (with_reducible repeat (first | refine blk_drewN ?_ _ | refine blk_drew ?_ | refine blk_alloc ?_ _)); refine blk_put (cs := #[.string ((rd_T53 l0 x11_1).f0), .slice none 0 0, .slice none 0 0, .int .i64 0, .bool false]) ?_ 1 _ rfl; (with_reducible repeat (first | refine blk_drewN ?_ _ | refine blk_drew ?_ | refine blk_alloc ?_ _)); refine blk_put (cs := #[.string (⟨#[]⟩ : ByteArray), .slice none 0 0, .slice none 0 0, .int .i64 0, .bool false]) ?_ 0 _ rfl; (with_reducible repeat (first | refine blk_drewN ?_ _ | refine blk_drew ?_ | refine blk_alloc ?_ _)); exact BK188.out) hb); have n1_ := Aside0.mk (below_step (HBb GE188) hb); clear BK188; clear HB; have BK188 := n0_; have HB := n1_; clear n0_ n1_; (try clear hb); (try clear hb2); (try clear hk); (try clear hi); have hcz46_0 := C1z BK188; have hcz46_1 := C2z BK188; have hcz46_2 := C3z BK188; have hcz46_3 := C4z BK188; have hcz46_4 := C5z BK188; have hfz46_0 := blk_frozen BK188.out 0; have hfz46_1 := blk_frozen BK188.out 1; have hfz46_2 := blk_frozen BK188.out 2; have hfz46_3 := blk_frozen BK188.out 3; have hfz46_4 := blk_frozen BK188.out 4) | (go_at_call 93; (with_reducible refine (spec_l04Has.calls k1 _ _ ((rd_T53 l0 x11_1).f2) a3 true _ ?side1 ?side2 A41.out).mono ?_); (case side1 => exact KCz (Kd.C_below HR187_2.out HB.out)); (case side2 => exact HC187_2.out); rintro e w' ⟨rfl, ⟨nd, rfl⟩⟩))
    go_ret
    exact ⟨EZa, HBb GE188⟩
   replace c42 := Bool.eq_false_iff.mpr c42
   subst c42
   have H1 : (spec_l06Allowed.l0 k1 l0 a1 l2 a3 a4 (wrap64 (x11_1 + 1))) = some r := by rw [if_neg (show ¬ (false = true) by decide)] at H; exact H
   clear H
   have H := H1
   clear H1
   have H' := Aside0.mk H
   clear H
   have p187 : 0 ≤ (x11_1 : Int) := ODz
   have q187 : x11_1 < (l0.length : Int) := ODz
   obtain ⟨ad187, A187_1, c187_1, A187_2, c187_2, e187, hx187_0, hx187_1, hx187_2, hx187_3, hx187_4, hl187_1, hi187_1, hl187_2, hi187_2⟩ := at_T53 HR0.out x11_1 p187 q187
   cases e187
   replace hx187_0 := HXz HB hx187_0
   replace hx187_1 := HXz HB hx187_1
   replace hx187_2 := HXz HB hx187_2
   replace hx187_3 := HXz HB hx187_3
   replace hx187_4 := HXz HB hx187_4
   have HR187_1 := Aside0.mk hi187_1
   have HC187_1 := Aside0.mk hl187_1
   clear hi187_1 hl187_1
   have HR187_2 := Aside0.mk hi187_2
   have HC187_2 := Aside0.mk hl187_2
   clear hi187_2 hl187_2
   replace p187 := eq_true p187
   replace q187 := eq_true q187
   go_wp2_with (first | ((with_reducible refine gate_dst (N := 12) rfl ?_); (try (refine gate_guard (by rfl) ?_; dsimp only)); refine box_event ?hg (N := 12) ?hd (cs := #[.string (⟨#[]⟩ : ByteArray), .slice none 0 0, .slice none 0 0, .int .i64 0, .bool false]) (t := 53) ?hr ?_; (case hd => rfl); (case hg => rfl); (case hr => first | (go_simp; done) | (go_simp; rfl)); intro gb188 hg w47 hbox hb; have n0_ := Aside0.mk (below_step HBa hb); have n1_ := Aside0.mk (hbox); have n2_ := BSz w hg HBa; have n3_ := BSz w hg HBa; clear HB; have HB := n0_; have BK188 := n1_; have GW188 := n2_; have GE188 := n3_; clear n0_ n1_ n2_ n3_; clear hb hbox hg; have hcz48_0 := C1z BK188; have hcz48_1 := C2z BK188; have hcz48_2 := C3z BK188; have hcz48_3 := C4z BK188; have hcz48_4 := C5z BK188; have hfz48_0 := blk_frozen BK188.out 0; have hfz48_1 := blk_frozen BK188.out 1; have hfz48_2 := blk_frozen BK188.out 2; have hfz48_3 := blk_frozen BK188.out 3; have hfz48_4 := blk_frozen BK188.out 4) | (go_at_call 92; (with_reducible refine (spec_DnUnder.calls k1 _ _ l2 _ _ ((rd_T53 l0 x11_1).f1) true _ ?side1 ?side2 ?side3 ?side4 A34.out).mono ?_); (case side1 => exact Kd.C_below HR2.out (HBb GE188)); (case side2 => exact HC2.out); (case side3 => exact Kd.C_below HR187_1.out (HBb GE188)); (case side4 => exact HC187_1.out); rintro e w49 ⟨rfl, hb⟩; have n0_ := Aside0.mk (blk_below (g := gb188) (o := .cells #[.string ((rd_T53 l0 x11_1).f0), .slice A187_1 ((rd_T53 l0 x11_1).f1).length c187_1, .slice A187_2 ((rd_T53 l0 x11_1).f2).length c187_2, .int .i64 ((rd_T53 l0 x11_1).f3), .bool ((rd_T53 l0 x11_1).f4)] 53 (0, 0)) (by (with_reducible repeat (first | refine blk_drewN ?_ _ | refine blk_drew ?_ | refine blk_alloc ?_ _)); refine blk_put (cs := #[.string ((rd_T53 l0 x11_1).f0), .slice A187_1 ((rd_T53 l0 x11_1).f1).length c187_1, .slice A187_2 ((rd_T53 l0 x11_1).f2).length c187_2, .int .i64 ((rd_T53 l0 x11_1).f3), .bool false]) ?_ 4 _ rfl; (with_reducible repeat (first | refine blk_drewN ?_ _ | refine blk_drew ?_ | refine blk_alloc ?_ _)); refine blk_put (cs := #[.string ((rd_T53 l0 x11_1).f0), .slice A187_1 ((rd_T53 l0 x11_1).f1).length c187_1, .slice A187_2 ((rd_T53 l0 x11_1).f2).length c187_2, .int .i64 0, .bool false]) ?_ 3 _ rfl; (with_reducible repeat (first | refine blk_drewN ?_ _ | refine blk_drew ?_ | refine blk_alloc ?_ _)); refine blk_put (cs := #[.string ((rd_T53 l0 x11_1).f0), .slice A187_1 ((rd_T53 l0 x11_1).f1).length c187_1, .slice none 0 0, .int .i64 0, .bool false]) ?_ 2 _ rfl; (with_reducible repeat (first | refine blk_drewN ?_ _ | refine blk_drew ?_ | refine blk_alloc ?_ _)); refine blk_put (cs := #[.string ((rd_T53 l0 x11_1).f0), .slice none 0 0, .slice none 0 0, .int .i64 0, .bool false]) ?_ 1 _ rfl; (with_reducible repeat (first | refine blk_drewN ?_ _ | refine blk_drew ?_ | refine blk_alloc ?_ _)); refine blk_put (cs := #[.string (⟨#[]⟩ : ByteArray), .slice none 0 0, .slice none 0 0, .int .i64 0, .bool false]) ?_ 0 _ rfl; (with_reducible repeat (first | refine blk_drewN ?_ _ | refine blk_drew ?_ | refine blk_alloc ?_ _)); exact BK188.out) hb); have n1_ := Aside0.mk (below_step (HBb GE188) hb); clear BK188; clear HB; have BK188 := n0_; have HB := n1_; clear n0_ n1_; (try clear hb); (try clear hb2); (try clear hk); (try clear hi); have hcz50_0 := C1z BK188; have hcz50_1 := C2z BK188; have hcz50_2 := C3z BK188; have hcz50_3 := C4z BK188; have hcz50_4 := C5z BK188; have hfz50_0 := blk_frozen BK188.out 0; have hfz50_1 := blk_frozen BK188.out 1; have hfz50_2 := blk_frozen BK188.out 2; have hfz50_3 := blk_frozen BK188.out 3; have hfz50_4 := blk_frozen BK188.out 4) | (go_at_call 93; (with_reducible refine (spec_l04Has.calls k1 _ _ ((rd_T53 l0 x11_1).f2) a3 false _ ?side1 ?side2 A41.out).mono ?_); (case side1 => exact KCz (Kd.C_below HR187_2.out HB.out)); (case side2 => exact HC187_2.out); rintro e w' ⟨rfl, ⟨nd, rfl⟩⟩))
   go_roundg k1
   case measure => have := HK1.out; omega
   case rel => exact ⟨(wrap64 (x11_1 + 1)), EZc, H', ⟨by have := HK1.out; omega⟩, ⟨by repeat (first | (with_reducible first | exact HB.out | apply below_alloc | apply pw_below_drewN | apply below_drew1 | refine below_set ?_ GE188.out) | exact HB.out)⟩⟩
end Go.Proofs.YtgkjlfimjnhbbaaGreatDoor.PFnExactMayChange
