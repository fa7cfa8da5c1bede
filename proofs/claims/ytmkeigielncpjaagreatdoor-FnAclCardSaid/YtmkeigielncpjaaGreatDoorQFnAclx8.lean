import Derived.Test.YtmkeigielncpjaaGreatDoorQFnAclx0
import Derived.Test.YtmkeigielncpjaaGreatDoorQFnAclx3
import Derived.Test.YtmkeigielncpjaaGreatDoorQFnAclx5
import Derived.Test.YtmkeigielncpjaaGreatDoorQFnAclx6
import Derived.Test.YtmkeigielncpjaaGreatDoorQFnAclx7
import Derived.Test.YtmkeigielncpjaaGreatDoorLayCompare
namespace Go.Proofs.YtmkeigielncpjaaGreatDoor.PFnAcl
open Go.RowKit Go.Proofs.YtmkeigielncpjaaGreatDoorW.PrintWords Go.Proofs.YtmkeigielncpjaaGreatDoorW.PrintLast Go.Proofs.YtmkeigielncpjaaGreatDoorW.PrintMore
set_option maxRecDepth 100000
set_option maxHeartbeats 16000000
attribute [local go_sem] max2_int min2_int max_two min_two max_three min_three max_four min_four
set_option linter.unusedVariables false
set_option linter.unusedSimpArgs false
def Vm.l0 : Nat → List (S57) → ByteArray → List (S96) → ByteArray → Int → Int → Option (Bool)
 | 0, _, _, _, _, _, _ => none
 | k + 1, x0, x1, x2, x3, x4, x11 => if x11 < (x0.length : Int) then (if 0 ≤ x11 then (if ((rd_T57 x0 x11).f0).toList = ([42] : List UInt8) then (if ((rd_T57 x0 x11).f3) = x4 then ((Qm.f k x2 ((rd_T57 x0 x11).f1)).bind fun t280 => (if t280 = true then (if (((rd_T57 x0 x11).f2).length : Int) = 0 then (some ((rd_T57 x0 x11).f4)) else ((Vj.f k ((rd_T57 x0 x11).f2) x3).bind fun t281 => (if t281 = true then (some ((rd_T57 x0 x11).f4)) else (Vm.l0 k x0 x1 x2 x3 x4 (wrap64 (x11 + 1)))))) else (Vm.l0 k x0 x1 x2 x3 x4 (wrap64 (x11 + 1))))) else (Vm.l0 k x0 x1 x2 x3 x4 (wrap64 (x11 + 1)))) else (if ((rd_T57 x0 x11).f0).toList = x1.toList then (if ((rd_T57 x0 x11).f3) = x4 then ((Qm.f k x2 ((rd_T57 x0 x11).f1)).bind fun t282 => (if t282 = true then (if (((rd_T57 x0 x11).f2).length : Int) = 0 then (some ((rd_T57 x0 x11).f4)) else ((Vj.f k ((rd_T57 x0 x11).f2) x3).bind fun t283 => (if t283 = true then (some ((rd_T57 x0 x11).f4)) else (Vm.l0 k x0 x1 x2 x3 x4 (wrap64 (x11 + 1)))))) else (Vm.l0 k x0 x1 x2 x3 x4 (wrap64 (x11 + 1))))) else (Vm.l0 k x0 x1 x2 x3 x4 (wrap64 (x11 + 1)))) else (Vm.l0 k x0 x1 x2 x3 x4 (wrap64 (x11 + 1))))) else (none)) else (some false)
def Vm.f (k : Nat) (l0 : List (S57)) (a1 : ByteArray) (l2 : List (S96)) (a3 : ByteArray) (a4 : Int) : Option (Bool) := Vm.l0 k l0 a1 l2 a3 a4 0
theorem Vm.mono_l : ∀ k, (∀ y0 y1 y2 y3 y4 y5, LeO (Vm.l0 k y0 y1 y2 y3 y4 y5) (Vm.l0 (k + 1) y0 y1 y2 y3 y4 y5))
 | 0 => fun _ _ _ _ _ _ r h => by simp [Vm.l0] at h
 | k + 1 => by
  have ih0 := Vm.mono_l k
  ·intro y0 y1 y2 y3 y4 y5
   unfold Vm.l0
   with_reducible repeat' first | exact ih0 _ _ _ _ _ _ | exact Qm.mono _ _ _ | exact Vj.mono _ _ _ | exact LeO.refl _ | exact LeO.none _ | refine LeO.ite ?_ ?_ | refine LeO.bind ?_ (fun _ => ?_)
theorem Vm.mono : ∀ a0 a1 a2 a3 a4 k, LeO (Vm.f k a0 a1 a2 a3 a4) (Vm.f (k + 1) a0 a1 a2 a3 a4) := by
 intro a0 a1 a2 a3 a4 k
 have ih0 := Vm.mono_l k
 unfold Vm.f
 with_reducible repeat' first | exact ih0 _ _ _ _ _ _ | exact Qm.mono _ _ _ | exact Vj.mono _ _ _ | exact LeO.refl _ | exact LeO.none _ | refine LeO.ite ?_ ?_ | refine LeO.bind ?_ (fun _ => ?_)
theorem Vm.calls (k : Nat) (A0 : Option Addr) (c0 : Nat) (l0 : List (S57)) (a1 : ByteArray) (A2 : Option Addr) (c2 : Nat) (l2 : List (S96)) (a3 : ByteArray) (a4 : Int) (r : Bool) (w : World) (hr0 : Kd.C k57 w A0 l0.length l0) (hc0 : l0.length ≤ c0) (hr2 : Kd.C k96 w A2 l2.length l2) (hc2 : l2.length ≤ c2) (h : Vm.f k l0 a1 l2 a3 a4 = some r) :
  Calls Tryz.prog 64 #[.slice A0 l0.length c0, .string a1, .slice A2 l2.length c2, .string a3, .int .i64 a4] w fun e w' => e = .returned (.bool r) ∧ Below w.heap.size w w' := by
 have hu57 := Tryz.underlying57
 have HR0 := Aside0.mk hr0
 have HC0 := Aside0.mk hc0
 clear hr0 hc0
 have HR2 := Aside0.mk hr2
 have HC2 := Aside0.mk hc2
 clear hr2 hc2
 have HB := Aside0.mk (Below.refl w.heap.size w)
 have H : (Vm.l0 k l0 a1 l2 a3 a4 0) = some r := h
 clear h
 have H' := Aside0.mk H
 clear H
 go_enter Tryz.func64, Tryz.ntmps64
 go_wp2
 go_loopg [11] k (fun kq v11 w' => ∃ (x11_1 : Int), v11 = .int .i64 x11_1 ∧ Aside0 (Vm.l0 kq l0 a1 l2 a3 a4 x11_1 = some r) ∧ Aside0 (kq ≤ k) ∧ Aside0 (Below w.heap.size w w'))
 case atStart => exact ⟨(0), EZc, H', ⟨Nat.le_refl _⟩, ⟨HBa⟩⟩
 case round =>
  clear H'
  try clear c2
  obtain ⟨x11_1, rfl, HA, HK1, HB⟩ := hrel
  cases gk with
  | zero => exact absurd HA.out (by simp [Vm.l0])
  | succ k1 =>
   have H := HA.out
   clear HA
   simp only [Vm.l0] at H
   by_cases c6 : x11_1 < (l0.length : Int)
   rotate_left
   ·rw [if_neg c6] at H
    have c6b0 := decide_eq_false c6
    clear c6
    obtain rfl := Option.some.inj H
    clear H
    go_wp2
    go_ret
    exact ⟨EZa, HBa⟩
   rw [if_pos c6] at H
   have c6b0 := decide_eq_true c6
   clear c6
   by_cases c7 : 0 ≤ x11_1
   rotate_left
   ·rw [if_neg c7] at H
    exact absurd H (by simp)
   rw [if_pos c7] at H
   have c7b0 := decide_eq_true c7
   clear c7
   by_cases c8 : ((rd_T57 l0 x11_1).f0).toList = ([42] : List UInt8)
   ·rw [if_pos c8] at H
    obtain ⟨c8b0, c8b1⟩ := QTz c8
    clear c8
    by_cases c9 : ((rd_T57 l0 x11_1).f3) = a4
    rotate_left
    ·rw [if_neg c9] at H
     obtain ⟨c9b0, c9b1⟩ := QFz c9
     have H' := Aside0.mk H
     clear H
     have p278 : 0 ≤ (x11_1 : Int) := ODz
     have q278 : x11_1 < (l0.length : Int) := ODz
     obtain ⟨ad278, A278_1, c278_1, A278_2, c278_2, e278, hx278_0, hx278_1, hx278_2, hx278_3, hx278_4, hl278_1, hi278_1, hl278_2, hi278_2⟩ := at_T57 HR0.out x11_1 p278 q278
     cases e278
     replace hx278_0 := HXz HB hx278_0
     replace hx278_1 := HXz HB hx278_1
     replace hx278_2 := HXz HB hx278_2
     replace hx278_3 := HXz HB hx278_3
     replace hx278_4 := HXz HB hx278_4
     have HR278_1 := Aside0.mk hi278_1
     have HC278_1 := Aside0.mk hl278_1
     clear hi278_1 hl278_1
     have HR278_2 := Aside0.mk hi278_2
     have HC278_2 := Aside0.mk hl278_2
     clear hi278_2 hl278_2
     replace p278 := eq_true p278
     replace q278 := eq_true q278
     go_wp2_with (first | ((with_reducible refine gate_dst (N := 12) rfl ?_); (try (refine gate_guard (by rfl) ?_; dsimp only)); refine box_event ?hg (N := 12) ?hd (cs := #[.string (⟨#[]⟩ : ByteArray), .slice none 0 0, .slice none 0 0, .int .i64 0, .bool false]) (t := 57) ?hr ?_; (case hd => rfl); (case hg => rfl); (case hr => first | (go_simp; done) | (go_simp; rfl)); intro gb279 hg w30 hbox hb; have n0_ := Aside0.mk (below_step HBa hb); have n1_ := Aside0.mk (hbox); have n2_ := BSz w hg HBa; have n3_ := BSz w hg HBa; clear HB; have HB := n0_; have BK279 := n1_; have GW279 := n2_; have GE279 := n3_; clear n0_ n1_ n2_ n3_; clear hb hbox hg; have hcz31_0 := C1z BK279; have hcz31_1 := C2z BK279; have hcz31_2 := C3z BK279; have hcz31_3 := C4z BK279; have hcz31_4 := C5z BK279; have hfz31_0 := blk_frozen BK279.out 0; have hfz31_1 := blk_frozen BK279.out 1; have hfz31_2 := blk_frozen BK279.out 2; have hfz31_3 := blk_frozen BK279.out 3; have hfz31_4 := blk_frozen BK279.out 4))
     go_roundg k1
     case measure => have := HK1.out; omega
     case rel => exact ⟨(wrap64 (x11_1 + 1)), EZc, H', ⟨by have := HK1.out; omega⟩, ⟨by repeat (first | (with_reducible first | exact HB.out | apply below_alloc | apply pw_below_drewN | apply below_drew1 | refine below_set ?_ GE279.out) | exact HB.out)⟩⟩
    rw [if_pos c9] at H
    obtain ⟨c9b0, c9b1⟩ := QTz c9
    clear c9
    replace H := Option.bind_eq_some_iff.mp H
    obtain ⟨t280, A100, H⟩ := H
    replace H : (if t280 = true then (if (((rd_T57 l0 x11_1).f2).length : Int) = 0 then (some ((rd_T57 l0 x11_1).f4)) else ((Vj.f k1 ((rd_T57 l0 x11_1).f2) a3).bind fun t281 => (if t281 = true then (some ((rd_T57 l0 x11_1).f4)) else (Vm.l0 k1 l0 a1 l2 a3 a4 (wrap64 (x11_1 + 1)))))) else (Vm.l0 k1 l0 a1 l2 a3 a4 (wrap64 (x11_1 + 1)))) = some r := H
    have A10 := Aside0.mk A100
    clear A100
    by_cases c11 : t280 = true
    rotate_left
    ·replace c11 := Bool.eq_false_iff.mpr c11
     subst c11
     have H1 : (Vm.l0 k1 l0 a1 l2 a3 a4 (wrap64 (x11_1 + 1))) = some r := by rw [if_neg (show ¬ (false = true) by decide)] at H; exact H
     clear H
     have H := H1
     clear H1
     have H' := Aside0.mk H
     clear H
     have p278 : 0 ≤ (x11_1 : Int) := ODz
     have q278 : x11_1 < (l0.length : Int) := ODz
     obtain ⟨ad278, A278_1, c278_1, A278_2, c278_2, e278, hx278_0, hx278_1, hx278_2, hx278_3, hx278_4, hl278_1, hi278_1, hl278_2, hi278_2⟩ := at_T57 HR0.out x11_1 p278 q278
     cases e278
     replace hx278_0 := HXz HB hx278_0
     replace hx278_1 := HXz HB hx278_1
     replace hx278_2 := HXz HB hx278_2
     replace hx278_3 := HXz HB hx278_3
     replace hx278_4 := HXz HB hx278_4
     have HR278_1 := Aside0.mk hi278_1
     have HC278_1 := Aside0.mk hl278_1
     clear hi278_1 hl278_1
     have HR278_2 := Aside0.mk hi278_2
     have HC278_2 := Aside0.mk hl278_2
     clear hi278_2 hl278_2
     replace p278 := eq_true p278
     replace q278 := eq_true q278
     go_wp2_with (first | ((with_reducible refine gate_dst (N := 12) rfl ?_); (try (refine gate_guard (by rfl) ?_; dsimp only)); refine box_event ?hg (N := 12) ?hd (cs := #[.string (⟨#[]⟩ : ByteArray), .slice none 0 0, .slice none 0 0, .int .i64 0, .bool false]) (t := 57) ?hr ?_; (case hd => rfl); (case hg => rfl); (case hr => first | (go_simp; done) | (go_simp; rfl)); intro gb279 hg w27 hbox hb; have n0_ := Aside0.mk (below_step HBa hb); have n1_ := Aside0.mk (hbox); have n2_ := BSz w hg HBa; have n3_ := BSz w hg HBa; clear HB; have HB := n0_; have BK279 := n1_; have GW279 := n2_; have GE279 := n3_; clear n0_ n1_ n2_ n3_; clear hb hbox hg; have hcz28_0 := C1z BK279; have hcz28_1 := C2z BK279; have hcz28_2 := C3z BK279; have hcz28_3 := C4z BK279; have hcz28_4 := C5z BK279; have hfz28_0 := blk_frozen BK279.out 0; have hfz28_1 := blk_frozen BK279.out 1; have hfz28_2 := blk_frozen BK279.out 2; have hfz28_3 := blk_frozen BK279.out 3; have hfz28_4 := blk_frozen BK279.out 4) | (go_at_call 103; (with_reducible refine (Qm.calls k1 _ _ l2 _ _ ((rd_T57 l0 x11_1).f1) false _ ?side1 ?side2 ?side3 ?side4 A10.out).mono ?_); (case side1 => exact Kd.C_below HR2.out (HBb GE279)); (case side2 => exact HC2.out); (case side3 => exact Kd.C_below HR278_1.out (HBb GE279)); (case side4 => exact HC278_1.out); rintro e w29 ⟨rfl, hb⟩; have n0_ := Aside0.mk (blk_below (g := gb279) (o := .cells #[.string ((rd_T57 l0 x11_1).f0), .slice A278_1 ((rd_T57 l0 x11_1).f1).length c278_1, .slice A278_2 ((rd_T57 l0 x11_1).f2).length c278_2, .int .i64 ((rd_T57 l0 x11_1).f3), .bool ((rd_T57 l0 x11_1).f4)] 57 (0, 0)) (by (with_reducible repeat first | apply blk_drewN | apply blk_drew | apply blk_alloc); refine blk_put (cs := #[.string ((rd_T57 l0 x11_1).f0), .slice A278_1 ((rd_T57 l0 x11_1).f1).length c278_1, .slice A278_2 ((rd_T57 l0 x11_1).f2).length c278_2, .int .i64 ((rd_T57 l0 x11_1).f3), .bool false]) ?_ 4 _ rfl; (with_reducible repeat first | apply blk_drewN | apply blk_drew | apply blk_alloc); refine blk_put (cs := #[.string ((rd_T57 l0 x11_1).f0), .slice A278_1 ((rd_T57 l0 x11_1).f1).length c278_1, .slice A278_2 ((rd_T57 l0 x11_1).f2).length c278_2, .int .i64 0, .bool false]) ?_ 3 _ rfl; (with_reducible repeat first | apply blk_drewN | apply blk_drew | apply blk_alloc); refine blk_put (cs := #[.string ((rd_T57 l0 x11_1).f0), .slice A278_1 ((rd_T57 l0 x11_1).f1).length c278_1, .slice none 0 0, .int .i64 0, .bool false]) ?_ 2 _ rfl; (with_reducible repeat first | apply blk_drewN | apply blk_drew | apply blk_alloc); refine blk_put (cs := #[.string ((rd_T57 l0 x11_1).f0), .slice none 0 0, .slice none 0 0, .int .i64 0, .bool false]) ?_ 1 _ rfl; (with_reducible repeat first | apply blk_drewN | apply blk_drew | apply blk_alloc); refine blk_put (cs := #[.string (⟨#[]⟩ : ByteArray), .slice none 0 0, .slice none 0 0, .int .i64 0, .bool false]) ?_ 0 _ rfl; (with_reducible repeat first | apply blk_drewN | apply blk_drew | apply blk_alloc); exact BK279.out) hb); have n1_ := Aside0.mk (below_step (HBb GE279) hb); clear BK279; clear HB; have BK279 := n0_; have HB := n1_; clear n0_ n1_; (try clear hb); (try clear hb2); (try clear hk); (try clear hi)))
     go_roundg k1
     case measure => have := HK1.out; omega
     case rel => exact ⟨(wrap64 (x11_1 + 1)), EZc, H', ⟨by have := HK1.out; omega⟩, ⟨by repeat (first | (with_reducible first | exact HB.out | apply below_alloc | apply pw_below_drewN | apply below_drew1 | refine below_set ?_ GE279.out) | exact HB.out)⟩⟩
    subst c11
    have H1 : (if (((rd_T57 l0 x11_1).f2).length : Int) = 0 then (some ((rd_T57 l0 x11_1).f4)) else ((Vj.f k1 ((rd_T57 l0 x11_1).f2) a3).bind fun t281 => (if t281 = true then (some ((rd_T57 l0 x11_1).f4)) else (Vm.l0 k1 l0 a1 l2 a3 a4 (wrap64 (x11_1 + 1)))))) = some r := by rw [if_pos rfl] at H; exact H
    clear H
    have H := H1
    clear H1
    by_cases c12 : (((rd_T57 l0 x11_1).f2).length : Int) = 0
    ·rw [if_pos c12] at H
     obtain ⟨c12b0, c12b1⟩ := QTz c12
     clear c12
     obtain rfl := Option.some.inj H
     clear H
     have p278 : 0 ≤ (x11_1 : Int) := ODz
     have q278 : x11_1 < (l0.length : Int) := ODz
     obtain ⟨ad278, A278_1, c278_1, A278_2, c278_2, e278, hx278_0, hx278_1, hx278_2, hx278_3, hx278_4, hl278_1, hi278_1, hl278_2, hi278_2⟩ := at_T57 HR0.out x11_1 p278 q278
     cases e278
     replace hx278_0 := HXz HB hx278_0
     replace hx278_1 := HXz HB hx278_1
     replace hx278_2 := HXz HB hx278_2
     replace hx278_3 := HXz HB hx278_3
     replace hx278_4 := HXz HB hx278_4
     have HR278_1 := Aside0.mk hi278_1
     have HC278_1 := Aside0.mk hl278_1
     clear hi278_1 hl278_1
     have HR278_2 := Aside0.mk hi278_2
     have HC278_2 := Aside0.mk hl278_2
     clear hi278_2 hl278_2
     replace p278 := eq_true p278
     replace q278 := eq_true q278
     go_wp2_with (first | ((with_reducible refine gate_dst (N := 12) rfl ?_); (try (refine gate_guard (by rfl) ?_; dsimp only)); refine box_event ?hg (N := 12) ?hd (cs := #[.string (⟨#[]⟩ : ByteArray), .slice none 0 0, .slice none 0 0, .int .i64 0, .bool false]) (t := 57) ?hr ?_; (case hd => rfl); (case hg => rfl); (case hr => first | (go_simp; done) | (go_simp; rfl)); intro gb279 hg w13 hbox hb; have n0_ := Aside0.mk (below_step HBa hb); have n1_ := Aside0.mk (hbox); have n2_ := BSz w hg HBa; have n3_ := BSz w hg HBa; clear HB; have HB := n0_; have BK279 := n1_; have GW279 := n2_; have GE279 := n3_; clear n0_ n1_ n2_ n3_; clear hb hbox hg; have hcz14_0 := C1z BK279; have hcz14_1 := C2z BK279; have hcz14_2 := C3z BK279; have hcz14_3 := C4z BK279; have hcz14_4 := C5z BK279; have hfz14_0 := blk_frozen BK279.out 0; have hfz14_1 := blk_frozen BK279.out 1; have hfz14_2 := blk_frozen BK279.out 2; have hfz14_3 := blk_frozen BK279.out 3; have hfz14_4 := blk_frozen BK279.out 4) | (go_at_call 103; (with_reducible refine (Qm.calls k1 _ _ l2 _ _ ((rd_T57 l0 x11_1).f1) true _ ?side1 ?side2 ?side3 ?side4 A10.out).mono ?_); (case side1 => exact Kd.C_below HR2.out (HBb GE279)); (case side2 => exact HC2.out); (case side3 => exact Kd.C_below HR278_1.out (HBb GE279)); (case side4 => exact HC278_1.out); rintro e w15 ⟨rfl, hb⟩; have n0_ := Aside0.mk (blk_below (g := gb279) (o := .cells #[.string ((rd_T57 l0 x11_1).f0), .slice A278_1 ((rd_T57 l0 x11_1).f1).length c278_1, .slice A278_2 ((rd_T57 l0 x11_1).f2).length c278_2, .int .i64 ((rd_T57 l0 x11_1).f3), .bool ((rd_T57 l0 x11_1).f4)] 57 (0, 0)) (by (with_reducible repeat first | apply blk_drewN | apply blk_drew | apply blk_alloc); refine blk_put (cs := #[.string ((rd_T57 l0 x11_1).f0), .slice A278_1 ((rd_T57 l0 x11_1).f1).length c278_1, .slice A278_2 ((rd_T57 l0 x11_1).f2).length c278_2, .int .i64 ((rd_T57 l0 x11_1).f3), .bool false]) ?_ 4 _ rfl; (with_reducible repeat first | apply blk_drewN | apply blk_drew | apply blk_alloc); refine blk_put (cs := #[.string ((rd_T57 l0 x11_1).f0), .slice A278_1 ((rd_T57 l0 x11_1).f1).length c278_1, .slice A278_2 ((rd_T57 l0 x11_1).f2).length c278_2, .int .i64 0, .bool false]) ?_ 3 _ rfl; (with_reducible repeat first | apply blk_drewN | apply blk_drew | apply blk_alloc); refine blk_put (cs := #[.string ((rd_T57 l0 x11_1).f0), .slice A278_1 ((rd_T57 l0 x11_1).f1).length c278_1, .slice none 0 0, .int .i64 0, .bool false]) ?_ 2 _ rfl; (with_reducible repeat first | apply blk_drewN | apply blk_drew | apply blk_alloc); refine blk_put (cs := #[.string ((rd_T57 l0 x11_1).f0), .slice none 0 0, .slice none 0 0, .int .i64 0, .bool false]) ?_ 1 _ rfl; (with_reducible repeat first | apply blk_drewN | apply blk_drew | apply blk_alloc); refine blk_put (cs := #[.string (⟨#[]⟩ : ByteArray), .slice none 0 0, .slice none 0 0, .int .i64 0, .bool false]) ?_ 0 _ rfl; (with_reducible repeat first | apply blk_drewN | apply blk_drew | apply blk_alloc); exact BK279.out) hb); have n1_ := Aside0.mk (below_step (HBb GE279) hb); clear BK279; clear HB; have BK279 := n0_; have HB := n1_; clear n0_ n1_; (try clear hb); (try clear hb2); (try clear hk); (try clear hi); have hcz16_0 := C1z BK279; have hcz16_1 := C2z BK279; have hcz16_2 := C3z BK279; have hcz16_3 := C4z BK279; have hcz16_4 := C5z BK279; have hfz16_0 := blk_frozen BK279.out 0; have hfz16_1 := blk_frozen BK279.out 1; have hfz16_2 := blk_frozen BK279.out 2; have hfz16_3 := blk_frozen BK279.out 3; have hfz16_4 := blk_frozen BK279.out 4))
     go_ret
     exact ⟨EZa, HBb GE279⟩
    rw [if_neg c12] at H
    obtain ⟨c12b0, c12b1⟩ := QFz c12
    have c12b2 : ¬ (((rd_T57 l0 x11_1).f2) = []) := fun h_ => c12 (by rw [h_]; rfl)
    replace H := Option.bind_eq_some_iff.mp H
    obtain ⟨t281, A170, H⟩ := H
    replace H : (if t281 = true then (some ((rd_T57 l0 x11_1).f4)) else (Vm.l0 k1 l0 a1 l2 a3 a4 (wrap64 (x11_1 + 1)))) = some r := H
    have A17 := Aside0.mk A170
    clear A170
    by_cases c18 : t281 = true
    ·subst c18
     have H1 : (some ((rd_T57 l0 x11_1).f4)) = some r := by rw [if_pos rfl] at H; exact H
     clear H
     have H := H1
     clear H1
     obtain rfl := Option.some.inj H
     clear H
     have p278 : 0 ≤ (x11_1 : Int) := ODz
     have q278 : x11_1 < (l0.length : Int) := ODz
     obtain ⟨ad278, A278_1, c278_1, A278_2, c278_2, e278, hx278_0, hx278_1, hx278_2, hx278_3, hx278_4, hl278_1, hi278_1, hl278_2, hi278_2⟩ := at_T57 HR0.out x11_1 p278 q278
     cases e278
     replace hx278_0 := HXz HB hx278_0
     replace hx278_1 := HXz HB hx278_1
     replace hx278_2 := HXz HB hx278_2
     replace hx278_3 := HXz HB hx278_3
     replace hx278_4 := HXz HB hx278_4
     have HR278_1 := Aside0.mk hi278_1
     have HC278_1 := Aside0.mk hl278_1
     clear hi278_1 hl278_1
     have HR278_2 := Aside0.mk hi278_2
     have HC278_2 := Aside0.mk hl278_2
     clear hi278_2 hl278_2
     replace p278 := eq_true p278
     replace q278 := eq_true q278
     go_wp2_with (first | ((with_reducible refine gate_dst (N := 12) rfl ?_); (try (refine gate_guard (by rfl) ?_; dsimp only)); refine box_event ?hg (N := 12) ?hd (cs := #[.string (⟨#[]⟩ : ByteArray), .slice none 0 0, .slice none 0 0, .int .i64 0, .bool false]) (t := 57) ?hr ?_; (case hd => rfl); (case hg => rfl); (case hr => first | (go_simp; done) | (go_simp; rfl)); intro gb279 hg w19 hbox hb; have n0_ := Aside0.mk (below_step HBa hb); have n1_ := Aside0.mk (hbox); have n2_ := BSz w hg HBa; have n3_ := BSz w hg HBa; clear HB; have HB := n0_; have BK279 := n1_; have GW279 := n2_; have GE279 := n3_; clear n0_ n1_ n2_ n3_; clear hb hbox hg; have hcz20_0 := C1z BK279; have hcz20_1 := C2z BK279; have hcz20_2 := C3z BK279; have hcz20_3 := C4z BK279; have hcz20_4 := C5z BK279; have hfz20_0 := blk_frozen BK279.out 0; have hfz20_1 := blk_frozen BK279.out 1; have hfz20_2 := blk_frozen BK279.out 2; have hfz20_3 := blk_frozen BK279.out 3; have hfz20_4 := blk_frozen BK279.out 4) | (go_at_call 103; (with_reducible refine (Qm.calls k1 _ _ l2 _ _ ((rd_T57 l0 x11_1).f1) true _ ?side1 ?side2 ?side3 ?side4 A10.out).mono ?_); (case side1 => exact Kd.C_below HR2.out (HBb GE279)); (case side2 => exact HC2.out); (case side3 => exact Kd.C_below HR278_1.out (HBb GE279)); (case side4 => exact HC278_1.out); rintro e w21 ⟨rfl, hb⟩; have n0_ := Aside0.mk (blk_below (g := gb279) (o := .cells #[.string ((rd_T57 l0 x11_1).f0), .slice A278_1 ((rd_T57 l0 x11_1).f1).length c278_1, .slice A278_2 ((rd_T57 l0 x11_1).f2).length c278_2, .int .i64 ((rd_T57 l0 x11_1).f3), .bool ((rd_T57 l0 x11_1).f4)] 57 (0, 0)) (by (with_reducible repeat first | apply blk_drewN | apply blk_drew | apply blk_alloc); refine blk_put (cs := #[.string ((rd_T57 l0 x11_1).f0), .slice A278_1 ((rd_T57 l0 x11_1).f1).length c278_1, .slice A278_2 ((rd_T57 l0 x11_1).f2).length c278_2, .int .i64 ((rd_T57 l0 x11_1).f3), .bool false]) ?_ 4 _ rfl; (with_reducible repeat first | apply blk_drewN | apply blk_drew | apply blk_alloc); refine blk_put (cs := #[.string ((rd_T57 l0 x11_1).f0), .slice A278_1 ((rd_T57 l0 x11_1).f1).length c278_1, .slice A278_2 ((rd_T57 l0 x11_1).f2).length c278_2, .int .i64 0, .bool false]) ?_ 3 _ rfl; (with_reducible repeat first | apply blk_drewN | apply blk_drew | apply blk_alloc); refine blk_put (cs := #[.string ((rd_T57 l0 x11_1).f0), .slice A278_1 ((rd_T57 l0 x11_1).f1).length c278_1, .slice none 0 0, .int .i64 0, .bool false]) ?_ 2 _ rfl; (with_reducible repeat first | apply blk_drewN | apply blk_drew | apply blk_alloc); refine blk_put (cs := #[.string ((rd_T57 l0 x11_1).f0), .slice none 0 0, .slice none 0 0, .int .i64 0, .bool false]) ?_ 1 _ rfl; (with_reducible repeat first | apply blk_drewN | apply blk_drew | apply blk_alloc); refine blk_put (cs := #[.string (⟨#[]⟩ : ByteArray), .slice none 0 0, .slice none 0 0, .int .i64 0, .bool false]) ?_ 0 _ rfl; (with_reducible repeat first | apply blk_drewN | apply blk_drew | apply blk_alloc); exact BK279.out) hb); have n1_ := Aside0.mk (below_step (HBb GE279) hb); clear BK279; clear HB; have BK279 := n0_; have HB := n1_; clear n0_ n1_; (try clear hb); (try clear hb2); (try clear hk); (try clear hi); have hcz22_0 := C1z BK279; have hcz22_1 := C2z BK279; have hcz22_2 := C3z BK279; have hcz22_3 := C4z BK279; have hcz22_4 := C5z BK279; have hfz22_0 := blk_frozen BK279.out 0; have hfz22_1 := blk_frozen BK279.out 1; have hfz22_2 := blk_frozen BK279.out 2; have hfz22_3 := blk_frozen BK279.out 3; have hfz22_4 := blk_frozen BK279.out 4) | (go_at_call 104; (with_reducible refine (Vj.calls k1 _ _ ((rd_T57 l0 x11_1).f2) a3 true _ ?side1 ?side2 A17.out).mono ?_); (case side1 => exact KCz (Kd.C_below HR278_2.out HB.out)); (case side2 => exact HC278_2.out); rintro e w' ⟨rfl, ⟨nd, rfl⟩⟩))
     go_ret
     exact ⟨EZa, HBb GE279⟩
    replace c18 := Bool.eq_false_iff.mpr c18
    subst c18
    have H1 : (Vm.l0 k1 l0 a1 l2 a3 a4 (wrap64 (x11_1 + 1))) = some r := by rw [if_neg (show ¬ (false = true) by decide)] at H; exact H
    clear H
    have H := H1
    clear H1
    have H' := Aside0.mk H
    clear H
    have p278 : 0 ≤ (x11_1 : Int) := ODz
    have q278 : x11_1 < (l0.length : Int) := ODz
    obtain ⟨ad278, A278_1, c278_1, A278_2, c278_2, e278, hx278_0, hx278_1, hx278_2, hx278_3, hx278_4, hl278_1, hi278_1, hl278_2, hi278_2⟩ := at_T57 HR0.out x11_1 p278 q278
    cases e278
    replace hx278_0 := HXz HB hx278_0
    replace hx278_1 := HXz HB hx278_1
    replace hx278_2 := HXz HB hx278_2
    replace hx278_3 := HXz HB hx278_3
    replace hx278_4 := HXz HB hx278_4
    have HR278_1 := Aside0.mk hi278_1
    have HC278_1 := Aside0.mk hl278_1
    clear hi278_1 hl278_1
    have HR278_2 := Aside0.mk hi278_2
    have HC278_2 := Aside0.mk hl278_2
    clear hi278_2 hl278_2
    replace p278 := eq_true p278
    replace q278 := eq_true q278
    go_wp2_with (first | ((with_reducible refine gate_dst (N := 12) rfl ?_); (try (refine gate_guard (by rfl) ?_; dsimp only)); refine box_event ?hg (N := 12) ?hd (cs := #[.string (⟨#[]⟩ : ByteArray), .slice none 0 0, .slice none 0 0, .int .i64 0, .bool false]) (t := 57) ?hr ?_; (case hd => rfl); (case hg => rfl); (case hr => first | (go_simp; done) | (go_simp; rfl)); intro gb279 hg w23 hbox hb; have n0_ := Aside0.mk (below_step HBa hb); have n1_ := Aside0.mk (hbox); have n2_ := BSz w hg HBa; have n3_ := BSz w hg HBa; clear HB; have HB := n0_; have BK279 := n1_; have GW279 := n2_; have GE279 := n3_; clear n0_ n1_ n2_ n3_; clear hb hbox hg; have hcz24_0 := C1z BK279; have hcz24_1 := C2z BK279; have hcz24_2 := C3z BK279; have hcz24_3 := C4z BK279; have hcz24_4 := C5z BK279; have hfz24_0 := blk_frozen BK279.out 0; have hfz24_1 := blk_frozen BK279.out 1; have hfz24_2 := blk_frozen BK279.out 2; have hfz24_3 := blk_frozen BK279.out 3; have hfz24_4 := blk_frozen BK279.out 4) | (go_at_call 103; (with_reducible refine (Qm.calls k1 _ _ l2 _ _ ((rd_T57 l0 x11_1).f1) true _ ?side1 ?side2 ?side3 ?side4 A10.out).mono ?_); (case side1 => exact Kd.C_below HR2.out (HBb GE279)); (case side2 => exact HC2.out); (case side3 => exact Kd.C_below HR278_1.out (HBb GE279)); (case side4 => exact HC278_1.out); rintro e w25 ⟨rfl, hb⟩; have n0_ := Aside0.mk (blk_below (g := gb279) (o := .cells #[.string ((rd_T57 l0 x11_1).f0), .slice A278_1 ((rd_T57 l0 x11_1).f1).length c278_1, .slice A278_2 ((rd_T57 l0 x11_1).f2).length c278_2, .int .i64 ((rd_T57 l0 x11_1).f3), .bool ((rd_T57 l0 x11_1).f4)] 57 (0, 0)) (by (with_reducible repeat first | apply blk_drewN | apply blk_drew | apply blk_alloc); refine blk_put (cs := #[.string ((rd_T57 l0 x11_1).f0), .slice A278_1 ((rd_T57 l0 x11_1).f1).length c278_1, .slice A278_2 ((rd_T57 l0 x11_1).f2).length c278_2, .int .i64 ((rd_T57 l0 x11_1).f3), .bool false]) ?_ 4 _ rfl; (with_reducible repeat first | apply blk_drewN | apply blk_drew | apply blk_alloc); refine blk_put (cs := #[.string ((rd_T57 l0 x11_1).f0), .slice A278_1 ((rd_T57 l0 x11_1).f1).length c278_1, .slice A278_2 ((rd_T57 l0 x11_1).f2).length c278_2, .int .i64 0, .bool false]) ?_ 3 _ rfl; (with_reducible repeat first | apply blk_drewN | apply blk_drew | apply blk_alloc); refine blk_put (cs := #[.string ((rd_T57 l0 x11_1).f0), .slice A278_1 ((rd_T57 l0 x11_1).f1).length c278_1, .slice none 0 0, .int .i64 0, .bool false]) ?_ 2 _ rfl; (with_reducible repeat first | apply blk_drewN | apply blk_drew | apply blk_alloc); refine blk_put (cs := #[.string ((rd_T57 l0 x11_1).f0), .slice none 0 0, .slice none 0 0, .int .i64 0, .bool false]) ?_ 1 _ rfl; (with_reducible repeat first | apply blk_drewN | apply blk_drew | apply blk_alloc); refine blk_put (cs := #[.string (⟨#[]⟩ : ByteArray), .slice none 0 0, .slice none 0 0, .int .i64 0, .bool false]) ?_ 0 _ rfl; (with_reducible repeat first | apply blk_drewN | apply blk_drew | apply blk_alloc); exact BK279.out) hb); have n1_ := Aside0.mk (below_step (HBb GE279) hb); clear BK279; clear HB; have BK279 := n0_; have HB := n1_; clear n0_ n1_; (try clear hb); (try clear hb2); (try clear hk); (try clear hi); have hcz26_0 := C1z BK279; have hcz26_1 := C2z BK279; have hcz26_2 := C3z BK279; have hcz26_3 := C4z BK279; have hcz26_4 := C5z BK279; have hfz26_0 := blk_frozen BK279.out 0; have hfz26_1 := blk_frozen BK279.out 1; have hfz26_2 := blk_frozen BK279.out 2; have hfz26_3 := blk_frozen BK279.out 3; have hfz26_4 := blk_frozen BK279.out 4) | (go_at_call 104; (with_reducible refine (Vj.calls k1 _ _ ((rd_T57 l0 x11_1).f2) a3 false _ ?side1 ?side2 A17.out).mono ?_); (case side1 => exact KCz (Kd.C_below HR278_2.out HB.out)); (case side2 => exact HC278_2.out); rintro e w' ⟨rfl, ⟨nd, rfl⟩⟩))
    go_roundg k1
    case measure => have := HK1.out; omega
    case rel => exact ⟨(wrap64 (x11_1 + 1)), EZc, H', ⟨by have := HK1.out; omega⟩, ⟨by repeat (first | (with_reducible first | exact HB.out | apply below_alloc | apply pw_below_drewN | apply below_drew1 | refine below_set ?_ GE279.out) | exact HB.out)⟩⟩
   rw [if_neg c8] at H
   obtain ⟨c8b0, c8b1⟩ := QFz c8
   by_cases c32 : ((rd_T57 l0 x11_1).f0).toList = a1.toList
   rotate_left
   ·rw [if_neg c32] at H
    obtain ⟨c32b0, c32b1⟩ := QFz c32
    have H' := Aside0.mk H
    clear H
    have p278 : 0 ≤ (x11_1 : Int) := ODz
    have q278 : x11_1 < (l0.length : Int) := ODz
    obtain ⟨ad278, A278_1, c278_1, A278_2, c278_2, e278, hx278_0, hx278_1, hx278_2, hx278_3, hx278_4, hl278_1, hi278_1, hl278_2, hi278_2⟩ := at_T57 HR0.out x11_1 p278 q278
    cases e278
    replace hx278_0 := HXz HB hx278_0
    replace hx278_1 := HXz HB hx278_1
    replace hx278_2 := HXz HB hx278_2
    replace hx278_3 := HXz HB hx278_3
    replace hx278_4 := HXz HB hx278_4
    have HR278_1 := Aside0.mk hi278_1
    have HC278_1 := Aside0.mk hl278_1
    clear hi278_1 hl278_1
    have HR278_2 := Aside0.mk hi278_2
    have HC278_2 := Aside0.mk hl278_2
    clear hi278_2 hl278_2
    replace p278 := eq_true p278
    replace q278 := eq_true q278
    go_wp2_with (first | ((with_reducible refine gate_dst (N := 12) rfl ?_); (try (refine gate_guard (by rfl) ?_; dsimp only)); refine box_event ?hg (N := 12) ?hd (cs := #[.string (⟨#[]⟩ : ByteArray), .slice none 0 0, .slice none 0 0, .int .i64 0, .bool false]) (t := 57) ?hr ?_; (case hd => rfl); (case hg => rfl); (case hr => first | (go_simp; done) | (go_simp; rfl)); intro gb279 hg w56 hbox hb; have n0_ := Aside0.mk (below_step HBa hb); have n1_ := Aside0.mk (hbox); have n2_ := BSz w hg HBa; have n3_ := BSz w hg HBa; clear HB; have HB := n0_; have BK279 := n1_; have GW279 := n2_; have GE279 := n3_; clear n0_ n1_ n2_ n3_; clear hb hbox hg; have hcz57_0 := C1z BK279; have hcz57_1 := C2z BK279; have hcz57_2 := C3z BK279; have hcz57_3 := C4z BK279; have hcz57_4 := C5z BK279; have hfz57_0 := blk_frozen BK279.out 0; have hfz57_1 := blk_frozen BK279.out 1; have hfz57_2 := blk_frozen BK279.out 2; have hfz57_3 := blk_frozen BK279.out 3; have hfz57_4 := blk_frozen BK279.out 4))
    go_roundg k1
    case measure => have := HK1.out; omega
    case rel => exact ⟨(wrap64 (x11_1 + 1)), EZc, H', ⟨by have := HK1.out; omega⟩, ⟨by repeat (first | (with_reducible first | exact HB.out | apply below_alloc | apply pw_below_drewN | apply below_drew1 | refine below_set ?_ GE279.out) | exact HB.out)⟩⟩
   rw [if_pos c32] at H
   obtain ⟨c32b0, c32b1⟩ := QTz c32
   clear c32
   by_cases c33 : ((rd_T57 l0 x11_1).f3) = a4
   rotate_left
   ·rw [if_neg c33] at H
    obtain ⟨c33b0, c33b1⟩ := QFz c33
    have H' := Aside0.mk H
    clear H
    have p278 : 0 ≤ (x11_1 : Int) := ODz
    have q278 : x11_1 < (l0.length : Int) := ODz
    obtain ⟨ad278, A278_1, c278_1, A278_2, c278_2, e278, hx278_0, hx278_1, hx278_2, hx278_3, hx278_4, hl278_1, hi278_1, hl278_2, hi278_2⟩ := at_T57 HR0.out x11_1 p278 q278
    cases e278
    replace hx278_0 := HXz HB hx278_0
    replace hx278_1 := HXz HB hx278_1
    replace hx278_2 := HXz HB hx278_2
    replace hx278_3 := HXz HB hx278_3
    replace hx278_4 := HXz HB hx278_4
    have HR278_1 := Aside0.mk hi278_1
    have HC278_1 := Aside0.mk hl278_1
    clear hi278_1 hl278_1
    have HR278_2 := Aside0.mk hi278_2
    have HC278_2 := Aside0.mk hl278_2
    clear hi278_2 hl278_2
    replace p278 := eq_true p278
    replace q278 := eq_true q278
    go_wp2_with (first | ((with_reducible refine gate_dst (N := 12) rfl ?_); (try (refine gate_guard (by rfl) ?_; dsimp only)); refine box_event ?hg (N := 12) ?hd (cs := #[.string (⟨#[]⟩ : ByteArray), .slice none 0 0, .slice none 0 0, .int .i64 0, .bool false]) (t := 57) ?hr ?_; (case hd => rfl); (case hg => rfl); (case hr => first | (go_simp; done) | (go_simp; rfl)); intro gb279 hg w54 hbox hb; have n0_ := Aside0.mk (below_step HBa hb); have n1_ := Aside0.mk (hbox); have n2_ := BSz w hg HBa; have n3_ := BSz w hg HBa; clear HB; have HB := n0_; have BK279 := n1_; have GW279 := n2_; have GE279 := n3_; clear n0_ n1_ n2_ n3_; clear hb hbox hg; have hcz55_0 := C1z BK279; have hcz55_1 := C2z BK279; have hcz55_2 := C3z BK279; have hcz55_3 := C4z BK279; have hcz55_4 := C5z BK279; have hfz55_0 := blk_frozen BK279.out 0; have hfz55_1 := blk_frozen BK279.out 1; have hfz55_2 := blk_frozen BK279.out 2; have hfz55_3 := blk_frozen BK279.out 3; have hfz55_4 := blk_frozen BK279.out 4))
    go_roundg k1
    case measure => have := HK1.out; omega
    case rel => exact ⟨(wrap64 (x11_1 + 1)), EZc, H', ⟨by have := HK1.out; omega⟩, ⟨by repeat (first | (with_reducible first | exact HB.out | apply below_alloc | apply pw_below_drewN | apply below_drew1 | refine below_set ?_ GE279.out) | exact HB.out)⟩⟩
   rw [if_pos c33] at H
   obtain ⟨c33b0, c33b1⟩ := QTz c33
   clear c33
   replace H := Option.bind_eq_some_iff.mp H
   obtain ⟨t282, A340, H⟩ := H
   replace H : (if t282 = true then (if (((rd_T57 l0 x11_1).f2).length : Int) = 0 then (some ((rd_T57 l0 x11_1).f4)) else ((Vj.f k1 ((rd_T57 l0 x11_1).f2) a3).bind fun t283 => (if t283 = true then (some ((rd_T57 l0 x11_1).f4)) else (Vm.l0 k1 l0 a1 l2 a3 a4 (wrap64 (x11_1 + 1)))))) else (Vm.l0 k1 l0 a1 l2 a3 a4 (wrap64 (x11_1 + 1)))) = some r := H
   have A34 := Aside0.mk A340
   clear A340
   by_cases c35 : t282 = true
   rotate_left
   ·replace c35 := Bool.eq_false_iff.mpr c35
    subst c35
    have H1 : (Vm.l0 k1 l0 a1 l2 a3 a4 (wrap64 (x11_1 + 1))) = some r := by rw [if_neg (show ¬ (false = true) by decide)] at H; exact H
    clear H
    have H := H1
    clear H1
    have H' := Aside0.mk H
    clear H
    have p278 : 0 ≤ (x11_1 : Int) := ODz
    have q278 : x11_1 < (l0.length : Int) := ODz
    obtain ⟨ad278, A278_1, c278_1, A278_2, c278_2, e278, hx278_0, hx278_1, hx278_2, hx278_3, hx278_4, hl278_1, hi278_1, hl278_2, hi278_2⟩ := at_T57 HR0.out x11_1 p278 q278
    cases e278
    replace hx278_0 := HXz HB hx278_0
    replace hx278_1 := HXz HB hx278_1
    replace hx278_2 := HXz HB hx278_2
    replace hx278_3 := HXz HB hx278_3
    replace hx278_4 := HXz HB hx278_4
    have HR278_1 := Aside0.mk hi278_1
    have HC278_1 := Aside0.mk hl278_1
    clear hi278_1 hl278_1
    have HR278_2 := Aside0.mk hi278_2
    have HC278_2 := Aside0.mk hl278_2
    clear hi278_2 hl278_2
    replace p278 := eq_true p278
    replace q278 := eq_true q278
    go_wp2_with (first | ((with_reducible refine gate_dst (N := 12) rfl ?_); (try (refine gate_guard (by rfl) ?_; dsimp only)); refine box_event ?hg (N := 12) ?hd (cs := #[.string (⟨#[]⟩ : ByteArray), .slice none 0 0, .slice none 0 0, .int .i64 0, .bool false]) (t := 57) ?hr ?_; (case hd => rfl); (case hg => rfl); (case hr => first | (go_simp; done) | (go_simp; rfl)); intro gb279 hg w51 hbox hb; have n0_ := Aside0.mk (below_step HBa hb); have n1_ := Aside0.mk (hbox); have n2_ := BSz w hg HBa; have n3_ := BSz w hg HBa; clear HB; have HB := n0_; have BK279 := n1_; have GW279 := n2_; have GE279 := n3_; clear n0_ n1_ n2_ n3_; clear hb hbox hg; have hcz52_0 := C1z BK279; have hcz52_1 := C2z BK279; have hcz52_2 := C3z BK279; have hcz52_3 := C4z BK279; have hcz52_4 := C5z BK279; have hfz52_0 := blk_frozen BK279.out 0; have hfz52_1 := blk_frozen BK279.out 1; have hfz52_2 := blk_frozen BK279.out 2; have hfz52_3 := blk_frozen BK279.out 3; have hfz52_4 := blk_frozen BK279.out 4) | (go_at_call 103; (with_reducible refine (Qm.calls k1 _ _ l2 _ _ ((rd_T57 l0 x11_1).f1) false _ ?side1 ?side2 ?side3 ?side4 A34.out).mono ?_); (case side1 => exact Kd.C_below HR2.out (HBb GE279)); (case side2 => exact HC2.out); (case side3 => exact Kd.C_below HR278_1.out (HBb GE279)); (case side4 => exact HC278_1.out); rintro e w53 ⟨rfl, hb⟩; have n0_ := Aside0.mk (blk_below (g := gb279) (o := .cells #[.string ((rd_T57 l0 x11_1).f0), .slice A278_1 ((rd_T57 l0 x11_1).f1).length c278_1, .slice A278_2 ((rd_T57 l0 x11_1).f2).length c278_2, .int .i64 ((rd_T57 l0 x11_1).f3), .bool ((rd_T57 l0 x11_1).f4)] 57 (0, 0)) (by (with_reducible repeat first | apply blk_drewN | apply blk_drew | apply blk_alloc); refine blk_put (cs := #[.string ((rd_T57 l0 x11_1).f0), .slice A278_1 ((rd_T57 l0 x11_1).f1).length c278_1, .slice A278_2 ((rd_T57 l0 x11_1).f2).length c278_2, .int .i64 ((rd_T57 l0 x11_1).f3), .bool false]) ?_ 4 _ rfl; (with_reducible repeat first | apply blk_drewN | apply blk_drew | apply blk_alloc); refine blk_put (cs := #[.string ((rd_T57 l0 x11_1).f0), .slice A278_1 ((rd_T57 l0 x11_1).f1).length c278_1, .slice A278_2 ((rd_T57 l0 x11_1).f2).length c278_2, .int .i64 0, .bool false]) ?_ 3 _ rfl; (with_reducible repeat first | apply blk_drewN | apply blk_drew | apply blk_alloc); refine blk_put (cs := #[.string ((rd_T57 l0 x11_1).f0), .slice A278_1 ((rd_T57 l0 x11_1).f1).length c278_1, .slice none 0 0, .int .i64 0, .bool false]) ?_ 2 _ rfl; (with_reducible repeat first | apply blk_drewN | apply blk_drew | apply blk_alloc); refine blk_put (cs := #[.string ((rd_T57 l0 x11_1).f0), .slice none 0 0, .slice none 0 0, .int .i64 0, .bool false]) ?_ 1 _ rfl; (with_reducible repeat first | apply blk_drewN | apply blk_drew | apply blk_alloc); refine blk_put (cs := #[.string (⟨#[]⟩ : ByteArray), .slice none 0 0, .slice none 0 0, .int .i64 0, .bool false]) ?_ 0 _ rfl; (with_reducible repeat first | apply blk_drewN | apply blk_drew | apply blk_alloc); exact BK279.out) hb); have n1_ := Aside0.mk (below_step (HBb GE279) hb); clear BK279; clear HB; have BK279 := n0_; have HB := n1_; clear n0_ n1_; (try clear hb); (try clear hb2); (try clear hk); (try clear hi)))
    go_roundg k1
    case measure => have := HK1.out; omega
    case rel => exact ⟨(wrap64 (x11_1 + 1)), EZc, H', ⟨by have := HK1.out; omega⟩, ⟨by repeat (first | (with_reducible first | exact HB.out | apply below_alloc | apply pw_below_drewN | apply below_drew1 | refine below_set ?_ GE279.out) | exact HB.out)⟩⟩
   subst c35
   have H1 : (if (((rd_T57 l0 x11_1).f2).length : Int) = 0 then (some ((rd_T57 l0 x11_1).f4)) else ((Vj.f k1 ((rd_T57 l0 x11_1).f2) a3).bind fun t283 => (if t283 = true then (some ((rd_T57 l0 x11_1).f4)) else (Vm.l0 k1 l0 a1 l2 a3 a4 (wrap64 (x11_1 + 1)))))) = some r := by rw [if_pos rfl] at H; exact H
   clear H
   have H := H1
   clear H1
   by_cases c36 : (((rd_T57 l0 x11_1).f2).length : Int) = 0
   ·rw [if_pos c36] at H
    obtain ⟨c36b0, c36b1⟩ := QTz c36
    clear c36
    obtain rfl := Option.some.inj H
    clear H
    have p278 : 0 ≤ (x11_1 : Int) := ODz
    have q278 : x11_1 < (l0.length : Int) := ODz
    obtain ⟨ad278, A278_1, c278_1, A278_2, c278_2, e278, hx278_0, hx278_1, hx278_2, hx278_3, hx278_4, hl278_1, hi278_1, hl278_2, hi278_2⟩ := at_T57 HR0.out x11_1 p278 q278
    cases e278
    replace hx278_0 := HXz HB hx278_0
    replace hx278_1 := HXz HB hx278_1
    replace hx278_2 := HXz HB hx278_2
    replace hx278_3 := HXz HB hx278_3
    replace hx278_4 := HXz HB hx278_4
    have HR278_1 := Aside0.mk hi278_1
    have HC278_1 := Aside0.mk hl278_1
    clear hi278_1 hl278_1
    have HR278_2 := Aside0.mk hi278_2
    have HC278_2 := Aside0.mk hl278_2
    clear hi278_2 hl278_2
    replace p278 := eq_true p278
    replace q278 := eq_true q278
    go_wp2_with (first | ((with_reducible refine gate_dst (N := 12) rfl ?_); (try (refine gate_guard (by rfl) ?_; dsimp only)); refine box_event ?hg (N := 12) ?hd (cs := #[.string (⟨#[]⟩ : ByteArray), .slice none 0 0, .slice none 0 0, .int .i64 0, .bool false]) (t := 57) ?hr ?_; (case hd => rfl); (case hg => rfl); (case hr => first | (go_simp; done) | (go_simp; rfl)); intro gb279 hg w37 hbox hb; have n0_ := Aside0.mk (below_step HBa hb); have n1_ := Aside0.mk (hbox); have n2_ := BSz w hg HBa; have n3_ := BSz w hg HBa; clear HB; have HB := n0_; have BK279 := n1_; have GW279 := n2_; have GE279 := n3_; clear n0_ n1_ n2_ n3_; clear hb hbox hg; have hcz38_0 := C1z BK279; have hcz38_1 := C2z BK279; have hcz38_2 := C3z BK279; have hcz38_3 := C4z BK279; have hcz38_4 := C5z BK279; have hfz38_0 := blk_frozen BK279.out 0; have hfz38_1 := blk_frozen BK279.out 1; have hfz38_2 := blk_frozen BK279.out 2; have hfz38_3 := blk_frozen BK279.out 3; have hfz38_4 := blk_frozen BK279.out 4) | (go_at_call 103; (with_reducible refine (Qm.calls k1 _ _ l2 _ _ ((rd_T57 l0 x11_1).f1) true _ ?side1 ?side2 ?side3 ?side4 A34.out).mono ?_); (case side1 => exact Kd.C_below HR2.out (HBb GE279)); (case side2 => exact HC2.out); (case side3 => exact Kd.C_below HR278_1.out (HBb GE279)); (case side4 => exact HC278_1.out); rintro e w39 ⟨rfl, hb⟩; have n0_ := Aside0.mk (blk_below (g := gb279) (o := .cells #[.string ((rd_T57 l0 x11_1).f0), .slice A278_1 ((rd_T57 l0 x11_1).f1).length c278_1, .slice A278_2 ((rd_T57 l0 x11_1).f2).length c278_2, .int .i64 ((rd_T57 l0 x11_1).f3), .bool ((rd_T57 l0 x11_1).f4)] 57 (0, 0)) (by (with_reducible repeat first | apply blk_drewN | apply blk_drew | apply blk_alloc); refine blk_put (cs := #[.string ((rd_T57 l0 x11_1).f0), .slice A278_1 ((rd_T57 l0 x11_1).f1).length c278_1, .slice A278_2 ((rd_T57 l0 x11_1).f2).length c278_2, .int .i64 ((rd_T57 l0 x11_1).f3), .bool false]) ?_ 4 _ rfl; (with_reducible repeat first | apply blk_drewN | apply blk_drew | apply blk_alloc); refine blk_put (cs := #[.string ((rd_T57 l0 x11_1).f0), .slice A278_1 ((rd_T57 l0 x11_1).f1).length c278_1, .slice A278_2 ((rd_T57 l0 x11_1).f2).length c278_2, .int .i64 0, .bool false]) ?_ 3 _ rfl; (with_reducible repeat first | apply blk_drewN | apply blk_drew | apply blk_alloc); refine blk_put (cs := #[.string ((rd_T57 l0 x11_1).f0), .slice A278_1 ((rd_T57 l0 x11_1).f1).length c278_1, .slice none 0 0, .int .i64 0, .bool false]) ?_ 2 _ rfl; (with_reducible repeat first | apply blk_drewN | apply blk_drew | apply blk_alloc); refine blk_put (cs := #[.string ((rd_T57 l0 x11_1).f0), .slice none 0 0, .slice none 0 0, .int .i64 0, .bool false]) ?_ 1 _ rfl; (with_reducible repeat first | apply blk_drewN | apply blk_drew | apply blk_alloc); refine blk_put (cs := #[.string (⟨#[]⟩ : ByteArray), .slice none 0 0, .slice none 0 0, .int .i64 0, .bool false]) ?_ 0 _ rfl; (with_reducible repeat first | apply blk_drewN | apply blk_drew | apply blk_alloc); exact BK279.out) hb); have n1_ := Aside0.mk (below_step (HBb GE279) hb); clear BK279; clear HB; have BK279 := n0_; have HB := n1_; clear n0_ n1_; (try clear hb); (try clear hb2); (try clear hk); (try clear hi); have hcz40_0 := C1z BK279; have hcz40_1 := C2z BK279; have hcz40_2 := C3z BK279; have hcz40_3 := C4z BK279; have hcz40_4 := C5z BK279; have hfz40_0 := blk_frozen BK279.out 0; have hfz40_1 := blk_frozen BK279.out 1; have hfz40_2 := blk_frozen BK279.out 2; have hfz40_3 := blk_frozen BK279.out 3; have hfz40_4 := blk_frozen BK279.out 4))
    go_ret
    exact ⟨EZa, HBb GE279⟩
   rw [if_neg c36] at H
   obtain ⟨c36b0, c36b1⟩ := QFz c36
   have c36b2 : ¬ (((rd_T57 l0 x11_1).f2) = []) := fun h_ => c36 (by rw [h_]; rfl)
   replace H := Option.bind_eq_some_iff.mp H
   obtain ⟨t283, A410, H⟩ := H
   replace H : (if t283 = true then (some ((rd_T57 l0 x11_1).f4)) else (Vm.l0 k1 l0 a1 l2 a3 a4 (wrap64 (x11_1 + 1)))) = some r := H
   have A41 := Aside0.mk A410
   clear A410
   by_cases c42 : t283 = true
   ·subst c42
    have H1 : (some ((rd_T57 l0 x11_1).f4)) = some r := by rw [if_pos rfl] at H; exact H
    clear H
    have H := H1
    clear H1
    obtain rfl := Option.some.inj H
    clear H
    have p278 : 0 ≤ (x11_1 : Int) := ODz
    have q278 : x11_1 < (l0.length : Int) := ODz
    obtain ⟨ad278, A278_1, c278_1, A278_2, c278_2, e278, hx278_0, hx278_1, hx278_2, hx278_3, hx278_4, hl278_1, hi278_1, hl278_2, hi278_2⟩ := at_T57 HR0.out x11_1 p278 q278
    cases e278
    replace hx278_0 := HXz HB hx278_0
    replace hx278_1 := HXz HB hx278_1
    replace hx278_2 := HXz HB hx278_2
    replace hx278_3 := HXz HB hx278_3
    replace hx278_4 := HXz HB hx278_4
    have HR278_1 := Aside0.mk hi278_1
    have HC278_1 := Aside0.mk hl278_1
    clear hi278_1 hl278_1
    have HR278_2 := Aside0.mk hi278_2
    have HC278_2 := Aside0.mk hl278_2
    clear hi278_2 hl278_2
    replace p278 := eq_true p278
    replace q278 := eq_true q278
    go_wp2_with (first | ((with_reducible refine gate_dst (N := 12) rfl ?_); (try (refine gate_guard (by rfl) ?_; dsimp only)); refine box_event ?hg (N := 12) ?hd (cs := #[.string (⟨#[]⟩ : ByteArray), .slice none 0 0, .slice none 0 0, .int .i64 0, .bool false]) (t := 57) ?hr ?_; (case hd => rfl); (case hg => rfl); (case hr => first | (go_simp; done) | (go_simp; rfl)); intro gb279 hg w43 hbox hb; have n0_ := Aside0.mk (below_step HBa hb); have n1_ := Aside0.mk (hbox); have n2_ := BSz w hg HBa; have n3_ := BSz w hg HBa; clear HB; have HB := n0_; have BK279 := n1_; have GW279 := n2_; have GE279 := n3_; clear n0_ n1_ n2_ n3_; clear hb hbox hg; have hcz44_0 := C1z BK279; have hcz44_1 := C2z BK279; have hcz44_2 := C3z BK279; have hcz44_3 := C4z BK279; have hcz44_4 := C5z BK279; have hfz44_0 := blk_frozen BK279.out 0; have hfz44_1 := blk_frozen BK279.out 1; have hfz44_2 := blk_frozen BK279.out 2; have hfz44_3 := blk_frozen BK279.out 3; have hfz44_4 := blk_frozen BK279.out 4) | (go_at_call 103; (with_reducible refine (Qm.calls k1 _ _ l2 _ _ ((rd_T57 l0 x11_1).f1) true _ ?side1 ?side2 ?side3 ?side4 A34.out).mono ?_); (case side1 => exact Kd.C_below HR2.out (HBb GE279)); (case side2 => exact HC2.out); (case side3 => exact Kd.C_below HR278_1.out (HBb GE279)); (case side4 => exact HC278_1.out); rintro e w45 ⟨rfl, hb⟩; have n0_ := Aside0.mk (blk_below (g := gb279) (o := .cells #[.string ((rd_T57 l0 x11_1).f0), .slice A278_1 ((rd_T57 l0 x11_1).f1).length c278_1, .slice A278_2 ((rd_T57 l0 x11_1).f2).length c278_2, .int .i64 ((rd_T57 l0 x11_1).f3), .bool ((rd_T57 l0 x11_1).f4)] 57 (0, 0)) (by (with_reducible repeat first | apply blk_drewN | apply blk_drew | apply blk_alloc); refine blk_put (cs := #[.string ((rd_T57 l0 x11_1).f0), .slice A278_1 ((rd_T57 l0 x11_1).f1).length c278_1, .slice A278_2 ((rd_T57 l0 x11_1).f2).length c278_2, .int .i64 ((rd_T57 l0 x11_1).f3), .bool false]) ?_ 4 _ rfl; (with_reducible repeat first | apply blk_drewN | apply blk_drew | apply blk_alloc); refine blk_put (cs := #[.string ((rd_T57 l0 x11_1).f0), .slice A278_1 ((rd_T57 l0 x11_1).f1).length c278_1, .slice A278_2 ((rd_T57 l0 x11_1).f2).length c278_2, .int .i64 0, .bool false]) ?_ 3 _ rfl; (with_reducible repeat first | apply blk_drewN | apply blk_drew | apply blk_alloc); refine blk_put (cs := #[.string ((rd_T57 l0 x11_1).f0), .slice A278_1 ((rd_T57 l0 x11_1).f1).length c278_1, .slice none 0 0, .int .i64 0, .bool false]) ?_ 2 _ rfl; (with_reducible repeat first | apply blk_drewN | apply blk_drew | apply blk_alloc); refine blk_put (cs := #[.string ((rd_T57 l0 x11_1).f0), .slice none 0 0, .slice none 0 0, .int .i64 0, .bool false]) ?_ 1 _ rfl; (with_reducible repeat first | apply blk_drewN | apply blk_drew | apply blk_alloc); refine blk_put (cs := #[.string (⟨#[]⟩ : ByteArray), .slice none 0 0, .slice none 0 0, .int .i64 0, .bool false]) ?_ 0 _ rfl; (with_reducible repeat first | apply blk_drewN | apply blk_drew | apply blk_alloc); exact BK279.out) hb); have n1_ := Aside0.mk (below_step (HBb GE279) hb); clear BK279; clear HB; have BK279 := n0_; have HB := n1_; clear n0_ n1_; (try clear hb); (try clear hb2); (try clear hk); (try clear hi); have hcz46_0 := C1z BK279; have hcz46_1 := C2z BK279; have hcz46_2 := C3z BK279; have hcz46_3 := C4z BK279; have hcz46_4 := C5z BK279; have hfz46_0 := blk_frozen BK279.out 0; have hfz46_1 := blk_frozen BK279.out 1; have hfz46_2 := blk_frozen BK279.out 2; have hfz46_3 := blk_frozen BK279.out 3; have hfz46_4 := blk_frozen BK279.out 4) | (go_at_call 104; (with_reducible refine (Vj.calls k1 _ _ ((rd_T57 l0 x11_1).f2) a3 true _ ?side1 ?side2 A41.out).mono ?_); (case side1 => exact KCz (Kd.C_below HR278_2.out HB.out)); (case side2 => exact HC278_2.out); rintro e w' ⟨rfl, ⟨nd, rfl⟩⟩))
    go_ret
    exact ⟨EZa, HBb GE279⟩
   replace c42 := Bool.eq_false_iff.mpr c42
   subst c42
   have H1 : (Vm.l0 k1 l0 a1 l2 a3 a4 (wrap64 (x11_1 + 1))) = some r := by rw [if_neg (show ¬ (false = true) by decide)] at H; exact H
   clear H
   have H := H1
   clear H1
   have H' := Aside0.mk H
   clear H
   have p278 : 0 ≤ (x11_1 : Int) := ODz
   have q278 : x11_1 < (l0.length : Int) := ODz
   obtain ⟨ad278, A278_1, c278_1, A278_2, c278_2, e278, hx278_0, hx278_1, hx278_2, hx278_3, hx278_4, hl278_1, hi278_1, hl278_2, hi278_2⟩ := at_T57 HR0.out x11_1 p278 q278
   cases e278
   replace hx278_0 := HXz HB hx278_0
   replace hx278_1 := HXz HB hx278_1
   replace hx278_2 := HXz HB hx278_2
   replace hx278_3 := HXz HB hx278_3
   replace hx278_4 := HXz HB hx278_4
   have HR278_1 := Aside0.mk hi278_1
   have HC278_1 := Aside0.mk hl278_1
   clear hi278_1 hl278_1
   have HR278_2 := Aside0.mk hi278_2
   have HC278_2 := Aside0.mk hl278_2
   clear hi278_2 hl278_2
   replace p278 := eq_true p278
   replace q278 := eq_true q278
   go_wp2_with (first | ((with_reducible refine gate_dst (N := 12) rfl ?_); (try (refine gate_guard (by rfl) ?_; dsimp only)); refine box_event ?hg (N := 12) ?hd (cs := #[.string (⟨#[]⟩ : ByteArray), .slice none 0 0, .slice none 0 0, .int .i64 0, .bool false]) (t := 57) ?hr ?_; (case hd => rfl); (case hg => rfl); (case hr => first | (go_simp; done) | (go_simp; rfl)); intro gb279 hg w47 hbox hb; have n0_ := Aside0.mk (below_step HBa hb); have n1_ := Aside0.mk (hbox); have n2_ := BSz w hg HBa; have n3_ := BSz w hg HBa; clear HB; have HB := n0_; have BK279 := n1_; have GW279 := n2_; have GE279 := n3_; clear n0_ n1_ n2_ n3_; clear hb hbox hg; have hcz48_0 := C1z BK279; have hcz48_1 := C2z BK279; have hcz48_2 := C3z BK279; have hcz48_3 := C4z BK279; have hcz48_4 := C5z BK279; have hfz48_0 := blk_frozen BK279.out 0; have hfz48_1 := blk_frozen BK279.out 1; have hfz48_2 := blk_frozen BK279.out 2; have hfz48_3 := blk_frozen BK279.out 3; have hfz48_4 := blk_frozen BK279.out 4) | (go_at_call 103; (with_reducible refine (Qm.calls k1 _ _ l2 _ _ ((rd_T57 l0 x11_1).f1) true _ ?side1 ?side2 ?side3 ?side4 A34.out).mono ?_); (case side1 => exact Kd.C_below HR2.out (HBb GE279)); (case side2 => exact HC2.out); (case side3 => exact Kd.C_below HR278_1.out (HBb GE279)); (case side4 => exact HC278_1.out); rintro e w49 ⟨rfl, hb⟩; have n0_ := Aside0.mk (blk_below (g := gb279) (o := .cells #[.string ((rd_T57 l0 x11_1).f0), .slice A278_1 ((rd_T57 l0 x11_1).f1).length c278_1, .slice A278_2 ((rd_T57 l0 x11_1).f2).length c278_2, .int .i64 ((rd_T57 l0 x11_1).f3), .bool ((rd_T57 l0 x11_1).f4)] 57 (0, 0)) (by (with_reducible repeat first | apply blk_drewN | apply blk_drew | apply blk_alloc); refine blk_put (cs := #[.string ((rd_T57 l0 x11_1).f0), .slice A278_1 ((rd_T57 l0 x11_1).f1).length c278_1, .slice A278_2 ((rd_T57 l0 x11_1).f2).length c278_2, .int .i64 ((rd_T57 l0 x11_1).f3), .bool false]) ?_ 4 _ rfl; (with_reducible repeat first | apply blk_drewN | apply blk_drew | apply blk_alloc); refine blk_put (cs := #[.string ((rd_T57 l0 x11_1).f0), .slice A278_1 ((rd_T57 l0 x11_1).f1).length c278_1, .slice A278_2 ((rd_T57 l0 x11_1).f2).length c278_2, .int .i64 0, .bool false]) ?_ 3 _ rfl; (with_reducible repeat first | apply blk_drewN | apply blk_drew | apply blk_alloc); refine blk_put (cs := #[.string ((rd_T57 l0 x11_1).f0), .slice A278_1 ((rd_T57 l0 x11_1).f1).length c278_1, .slice none 0 0, .int .i64 0, .bool false]) ?_ 2 _ rfl; (with_reducible repeat first | apply blk_drewN | apply blk_drew | apply blk_alloc); refine blk_put (cs := #[.string ((rd_T57 l0 x11_1).f0), .slice none 0 0, .slice none 0 0, .int .i64 0, .bool false]) ?_ 1 _ rfl; (with_reducible repeat first | apply blk_drewN | apply blk_drew | apply blk_alloc); refine blk_put (cs := #[.string (⟨#[]⟩ : ByteArray), .slice none 0 0, .slice none 0 0, .int .i64 0, .bool false]) ?_ 0 _ rfl; (with_reducible repeat first | apply blk_drewN | apply blk_drew | apply blk_alloc); exact BK279.out) hb); have n1_ := Aside0.mk (below_step (HBb GE279) hb); clear BK279; clear HB; have BK279 := n0_; have HB := n1_; clear n0_ n1_; (try clear hb); (try clear hb2); (try clear hk); (try clear hi); have hcz50_0 := C1z BK279; have hcz50_1 := C2z BK279; have hcz50_2 := C3z BK279; have hcz50_3 := C4z BK279; have hcz50_4 := C5z BK279; have hfz50_0 := blk_frozen BK279.out 0; have hfz50_1 := blk_frozen BK279.out 1; have hfz50_2 := blk_frozen BK279.out 2; have hfz50_3 := blk_frozen BK279.out 3; have hfz50_4 := blk_frozen BK279.out 4) | (go_at_call 104; (with_reducible refine (Vj.calls k1 _ _ ((rd_T57 l0 x11_1).f2) a3 false _ ?side1 ?side2 A41.out).mono ?_); (case side1 => exact KCz (Kd.C_below HR278_2.out HB.out)); (case side2 => exact HC278_2.out); rintro e w' ⟨rfl, ⟨nd, rfl⟩⟩))
   go_roundg k1
   case measure => have := HK1.out; omega
   case rel => exact ⟨(wrap64 (x11_1 + 1)), EZc, H', ⟨by have := HK1.out; omega⟩, ⟨by repeat (first | (with_reducible first | exact HB.out | apply below_alloc | apply pw_below_drewN | apply below_drew1 | refine below_set ?_ GE279.out) | exact HB.out)⟩⟩
def Qj.j0 : Nat → List (S57) → ByteArray → List (S96) → ByteArray → Int → Bool → Option (Bool)
 | 0, _, _, _, _, _, _ => none
 | k + 1, x0, x1, x2, x3, x4, x28 => if x28 = true then (some false) else ((Qh.f k x0).bind fun t284 => (if t284 = true then ((Qq.f k x1).bind fun t285 => (if t285 = true then (if (x2.length : Int) = 0 then (some false) else ((Qk.f k x2).bind fun t286 => (if t286 = true then (if x3.toList = ([] : List UInt8) then ((Qx.f x4 1 4).bind fun t287 => (if t287 = true then ((Vm.f k x0 x1 x2 x3 x4).bind fun t288 => (some t288)) else (some false))) else ((Qq.f k x3).bind fun t289 => (if t289 = true then ((Qx.f x4 1 4).bind fun t290 => (if t290 = true then ((Vm.f k x0 x1 x2 x3 x4).bind fun t291 => (some t291)) else (some false))) else (some false)))) else (some false)))) else (some false))) else (some false)))
def Qj.f (k : Nat) (l0 : List (S57)) (a1 : ByteArray) (l2 : List (S96)) (a3 : ByteArray) (a4 : Int) : Option (Bool) := if (l0.length : Int) > 400 then (Qj.j0 k l0 a1 l2 a3 a4 true) else (if (l2.length : Int) > 400 then (Qj.j0 k l0 a1 l2 a3 a4 true) else (if (a1.size : Int) > 8000 then (Qj.j0 k l0 a1 l2 a3 a4 true) else (Qj.j0 k l0 a1 l2 a3 a4 (decide ((a3.size : Int) > 8000)))))
theorem Qj.mono_l : ∀ k, (∀ y0 y1 y2 y3 y4 y5, LeO (Qj.j0 k y0 y1 y2 y3 y4 y5) (Qj.j0 (k + 1) y0 y1 y2 y3 y4 y5))
 | 0 => fun _ _ _ _ _ _ r h => by simp [Qj.j0] at h
 | k + 1 => by
  have ih0 := Qj.mono_l k
  ·intro y0 y1 y2 y3 y4 y5
   unfold Qj.j0
   with_reducible repeat' first | exact ih0 _ _ _ _ _ _ | exact Qh.mono _ _ | exact Qk.mono _ _ | exact Qq.mono _ _ | exact Vm.mono _ _ _ _ _ _ | exact LeO.refl _ | exact LeO.none _ | refine LeO.ite ?_ ?_ | refine LeO.bind ?_ (fun _ => ?_)
theorem Qj.mono : ∀ a0 a1 a2 a3 a4 k, LeO (Qj.f k a0 a1 a2 a3 a4) (Qj.f (k + 1) a0 a1 a2 a3 a4) := by
 intro a0 a1 a2 a3 a4 k
 have ih0 := Qj.mono_l k
 unfold Qj.f
 with_reducible repeat' first | exact ih0 _ _ _ _ _ _ | exact Qh.mono _ _ | exact Qk.mono _ _ | exact Qq.mono _ _ | exact Vm.mono _ _ _ _ _ _ | exact LeO.refl _ | exact LeO.none _ | refine LeO.ite ?_ ?_ | refine LeO.bind ?_ (fun _ => ?_)
theorem Qj.calls (k : Nat) (A0 : Option Addr) (c0 : Nat) (l0 : List (S57)) (a1 : ByteArray) (A2 : Option Addr) (c2 : Nat) (l2 : List (S96)) (a3 : ByteArray) (a4 : Int) (r : Bool) (w : World) (hr0 : Kd.C k57 w A0 l0.length l0) (hc0 : l0.length ≤ c0) (hr2 : Kd.C k96 w A2 l2.length l2) (hc2 : l2.length ≤ c2) (h : Qj.f k l0 a1 l2 a3 a4 = some r) :
  Calls Tryz.prog 28 #[.slice A0 l0.length c0, .string a1, .slice A2 l2.length c2, .string a3, .int .i64 a4] w fun e w' => e = .returned (.bool r) ∧ Below w.heap.size w w' := by
 have HR0 := Aside0.mk hr0
 have HC0 := Aside0.mk hc0
 clear hr0 hc0
 have HR2 := Aside0.mk hr2
 have HC2 := Aside0.mk hc2
 clear hr2 hc2
 have HB := Aside0.mk (Below.refl w.heap.size w)
 have H : (if (l0.length : Int) > 400 then (Qj.j0 k l0 a1 l2 a3 a4 true) else (if (l2.length : Int) > 400 then (Qj.j0 k l0 a1 l2 a3 a4 true) else (if (a1.size : Int) > 8000 then (Qj.j0 k l0 a1 l2 a3 a4 true) else (Qj.j0 k l0 a1 l2 a3 a4 (decide ((a3.size : Int) > 8000)))))) = some r := h
 clear h
 have HC6 := Aside0.mk H
 clear H
 go_enter Tryz.func28, Tryz.ntmps28
 go_upto_region 1 with (fail)
 go_cut [28] (fun v28 wc => ∃ (kq : Nat) (x28_5 : Bool), v28 = .bool x28_5 ∧ Aside0 (Qj.j0 kq l0 a1 l2 a3 a4 x28_5 = some r) ∧ Aside0 (kq ≤ k) ∧ Aside0 (Below w.heap.size w wc))
 case first =>
  have H := HC6.out
  clear HC6
  by_cases c7 : (l0.length : Int) > 400
  ·rw [if_pos c7] at H
   have c7b0 : decide (400 < (l0.length : Int)) = true := decide_eq_true c7
   have c7b1 : decide (400 < l0.length) = true := decide_eq_true (by omega)
   clear c7
   (first | rw [c7b0] | rw [c7v0] | (simp only [i64_w, i32_w]; rw [c7b0]) | (simp only [i64_w, i32_w]; rw [c7v0]) | skip)
   have H' := Aside0.mk H
   clear H
   go_wp2
   go_meet
   case rel => exact ⟨_, (true), EZc, H', ⟨by first | omega | exact Nat.le_refl _⟩, ⟨HBa⟩⟩
  rw [if_neg c7] at H
  have c7b0 : decide (400 < (l0.length : Int)) = false := decide_eq_false c7
  have c7b1 : decide (400 < l0.length) = false := decide_eq_false (by omega)
  clear c7
  (first | rw [c7b0] | rw [c7v0] | (simp only [i64_w, i32_w]; rw [c7b0]) | (simp only [i64_w, i32_w]; rw [c7v0]) | skip)
  by_cases c8 : (l2.length : Int) > 400
  ·rw [if_pos c8] at H
   have c8b0 : decide (400 < (l2.length : Int)) = true := decide_eq_true c8
   have c8b1 : decide (400 < l2.length) = true := decide_eq_true (by omega)
   clear c8
   have H' := Aside0.mk H
   clear H
   go_wp2
   go_meet
   case rel => exact ⟨_, (true), EZc, H', ⟨by first | omega | exact Nat.le_refl _⟩, ⟨HBa⟩⟩
  rw [if_neg c8] at H
  have c8b0 : decide (400 < (l2.length : Int)) = false := decide_eq_false c8
  have c8b1 : decide (400 < l2.length) = false := decide_eq_false (by omega)
  clear c8
  by_cases c9 : (a1.size : Int) > 8000
  ·rw [if_pos c9] at H
   have c9b0 : decide (8000 < (a1.size : Int)) = true := decide_eq_true c9
   have c9b1 : decide (8000 < a1.size) = true := decide_eq_true (by omega)
   clear c9
   have H' := Aside0.mk H
   clear H
   go_wp2
   go_meet
   case rel => exact ⟨_, (true), EZc, H', ⟨by first | omega | exact Nat.le_refl _⟩, ⟨HBa⟩⟩
  rw [if_neg c9] at H
  have c9b0 : decide (8000 < (a1.size : Int)) = false := decide_eq_false c9
  have c9b1 : decide (8000 < a1.size) = false := decide_eq_false (by omega)
  clear c9
  have H' := Aside0.mk H
  clear H
  go_wp2
  go_meet
  case rel => exact ⟨_, (decide ((a3.size : Int) > 8000)), EZc, H', ⟨by first | omega | exact Nat.le_refl _⟩, ⟨HBa⟩⟩
 case rest =>
  clear HC6
  try clear c2
  obtain ⟨kq, x28_5, rfl, HA, HJ5, HB⟩ := hcut
  cases kq with
  | zero => exact absurd HA.out (by simp [Qj.j0])
  | succ kj5 =>
   have H := HA.out
   clear HA
   simp only [Qj.j0] at H
   by_cases c10 : x28_5 = true
   ·subst c10
    have H1 : (some false) = some r := by rw [if_pos rfl] at H; exact H
    clear H
    have H := H1
    clear H1
    obtain rfl := Option.some.inj H
    clear H
    go_wp2
    go_ret
    exact ⟨EZa, HBa⟩
   replace c10 := Bool.eq_false_iff.mpr c10
   subst c10
   have H1 : ((Qh.f kj5 l0).bind fun t284 => (if t284 = true then ((Qq.f kj5 a1).bind fun t285 => (if t285 = true then (if (l2.length : Int) = 0 then (some false) else ((Qk.f kj5 l2).bind fun t286 => (if t286 = true then (if a3.toList = ([] : List UInt8) then ((Qx.f a4 1 4).bind fun t287 => (if t287 = true then ((Vm.f kj5 l0 a1 l2 a3 a4).bind fun t288 => (some t288)) else (some false))) else ((Qq.f kj5 a3).bind fun t289 => (if t289 = true then ((Qx.f a4 1 4).bind fun t290 => (if t290 = true then ((Vm.f kj5 l0 a1 l2 a3 a4).bind fun t291 => (some t291)) else (some false))) else (some false)))) else (some false)))) else (some false))) else (some false))) = some r := by rw [if_neg (show ¬ (false = true) by decide)] at H; exact H
   clear H
   have H := H1
   clear H1
   replace H := Option.bind_eq_some_iff.mp H
   obtain ⟨t284, A110, H⟩ := H
   replace H : (if t284 = true then ((Qq.f kj5 a1).bind fun t285 => (if t285 = true then (if (l2.length : Int) = 0 then (some false) else ((Qk.f kj5 l2).bind fun t286 => (if t286 = true then (if a3.toList = ([] : List UInt8) then ((Qx.f a4 1 4).bind fun t287 => (if t287 = true then ((Vm.f kj5 l0 a1 l2 a3 a4).bind fun t288 => (some t288)) else (some false))) else ((Qq.f kj5 a3).bind fun t289 => (if t289 = true then ((Qx.f a4 1 4).bind fun t290 => (if t290 = true then ((Vm.f kj5 l0 a1 l2 a3 a4).bind fun t291 => (some t291)) else (some false))) else (some false)))) else (some false)))) else (some false))) else (some false)) = some r := H
   have A11 := Aside0.mk A110
   clear A110
   by_cases c12 : t284 = true
   rotate_left
   ·replace c12 := Bool.eq_false_iff.mpr c12
    subst c12
    have H1 : (some false) = some r := by rw [if_neg (show ¬ (false = true) by decide)] at H; exact H
    clear H
    have H := H1
    clear H1
    obtain rfl := Option.some.inj H
    clear H
    go_wp2_with (first | ((with_reducible refine gate_callee (f := 30) rfl ?_); refine goesL_ (some 30) rfl rfl Tryz.func30 (by kernel_rfl) rfl #[.slice A0 l0.length c0] rfl MPz ?_; (with_reducible refine (Qh.calls kj5 _ _ l0 false _ ?side1 ?side2 A11.out).mono ?_); (case side1 => exact KCz (Kd.C_below HR0.out HB.out)); (case side2 => exact HC0.out); rintro e w43 ⟨rfl, hb⟩; refine ⟨_, rfl, ?_⟩; have n0_ := Aside0.mk (below_step HBa hb); clear HB; have HB := n0_; clear n0_; (try clear hb); (try clear hb2); (try clear hk); (try clear hi)))
    go_ret
    exact ⟨EZa, HBa⟩
   subst c12
   have H1 : ((Qq.f kj5 a1).bind fun t285 => (if t285 = true then (if (l2.length : Int) = 0 then (some false) else ((Qk.f kj5 l2).bind fun t286 => (if t286 = true then (if a3.toList = ([] : List UInt8) then ((Qx.f a4 1 4).bind fun t287 => (if t287 = true then ((Vm.f kj5 l0 a1 l2 a3 a4).bind fun t288 => (some t288)) else (some false))) else ((Qq.f kj5 a3).bind fun t289 => (if t289 = true then ((Qx.f a4 1 4).bind fun t290 => (if t290 = true then ((Vm.f kj5 l0 a1 l2 a3 a4).bind fun t291 => (some t291)) else (some false))) else (some false)))) else (some false)))) else (some false))) = some r := by rw [if_pos rfl] at H; exact H
   clear H
   have H := H1
   clear H1
   replace H := Option.bind_eq_some_iff.mp H
   obtain ⟨t285, A130, H⟩ := H
   replace H : (if t285 = true then (if (l2.length : Int) = 0 then (some false) else ((Qk.f kj5 l2).bind fun t286 => (if t286 = true then (if a3.toList = ([] : List UInt8) then ((Qx.f a4 1 4).bind fun t287 => (if t287 = true then ((Vm.f kj5 l0 a1 l2 a3 a4).bind fun t288 => (some t288)) else (some false))) else ((Qq.f kj5 a3).bind fun t289 => (if t289 = true then ((Qx.f a4 1 4).bind fun t290 => (if t290 = true then ((Vm.f kj5 l0 a1 l2 a3 a4).bind fun t291 => (some t291)) else (some false))) else (some false)))) else (some false)))) else (some false)) = some r := H
   have A13 := Aside0.mk A130
   clear A130
   by_cases c14 : t285 = true
   rotate_left
   ·replace c14 := Bool.eq_false_iff.mpr c14
    subst c14
    have H1 : (some false) = some r := by rw [if_neg (show ¬ (false = true) by decide)] at H; exact H
    clear H
    have H := H1
    clear H1
    obtain rfl := Option.some.inj H
    clear H
    go_wp2_with (first | ((with_reducible refine gate_callee (f := 30) rfl ?_); refine goesL_ (some 30) rfl rfl Tryz.func30 (by kernel_rfl) rfl #[.slice A0 l0.length c0] rfl MPz ?_; (with_reducible refine (Qh.calls kj5 _ _ l0 true _ ?side1 ?side2 A11.out).mono ?_); (case side1 => exact KCz (Kd.C_below HR0.out HB.out)); (case side2 => exact HC0.out); rintro e w42 ⟨rfl, hb⟩; refine ⟨_, rfl, ?_⟩; have n0_ := Aside0.mk (below_step HBa hb); clear HB; have HB := n0_; clear n0_; (try clear hb); (try clear hb2); (try clear hk); (try clear hi)) | (go_at_call 36; (with_reducible refine (Qq.calls kj5 a1 false _ A13.out).mono ?_); rintro e w' ⟨rfl, ⟨nd, rfl⟩⟩))
    go_ret
    exact ⟨EZa, HBa⟩
   subst c14
   have H1 : (if (l2.length : Int) = 0 then (some false) else ((Qk.f kj5 l2).bind fun t286 => (if t286 = true then (if a3.toList = ([] : List UInt8) then ((Qx.f a4 1 4).bind fun t287 => (if t287 = true then ((Vm.f kj5 l0 a1 l2 a3 a4).bind fun t288 => (some t288)) else (some false))) else ((Qq.f kj5 a3).bind fun t289 => (if t289 = true then ((Qx.f a4 1 4).bind fun t290 => (if t290 = true then ((Vm.f kj5 l0 a1 l2 a3 a4).bind fun t291 => (some t291)) else (some false))) else (some false)))) else (some false)))) = some r := by rw [if_pos rfl] at H; exact H
   clear H
   have H := H1
   clear H1
   by_cases c15 : (l2.length : Int) = 0
   ·rw [if_pos c15] at H
    obtain ⟨c15b0, c15b1⟩ := QTz c15
    clear c15
    obtain rfl := Option.some.inj H
    clear H
    go_wp2_with (first | ((with_reducible refine gate_callee (f := 30) rfl ?_); refine goesL_ (some 30) rfl rfl Tryz.func30 (by kernel_rfl) rfl #[.slice A0 l0.length c0] rfl MPz ?_; (with_reducible refine (Qh.calls kj5 _ _ l0 true _ ?side1 ?side2 A11.out).mono ?_); (case side1 => exact KCz (Kd.C_below HR0.out HB.out)); (case side2 => exact HC0.out); rintro e w16 ⟨rfl, hb⟩; refine ⟨_, rfl, ?_⟩; have n0_ := Aside0.mk (below_step HBa hb); clear HB; have HB := n0_; clear n0_; (try clear hb); (try clear hb2); (try clear hk); (try clear hi)) | (go_at_call 36; (with_reducible refine (Qq.calls kj5 a1 true _ A13.out).mono ?_); rintro e w' ⟨rfl, ⟨nd, rfl⟩⟩))
    go_ret
    exact ⟨EZa, HBa⟩
   rw [if_neg c15] at H
   obtain ⟨c15b0, c15b1⟩ := QFz c15
   have c15b2 : ¬ (l2 = []) := fun h_ => c15 (by rw [h_]; rfl)
   replace H := Option.bind_eq_some_iff.mp H
   obtain ⟨t286, A170, H⟩ := H
   replace H : (if t286 = true then (if a3.toList = ([] : List UInt8) then ((Qx.f a4 1 4).bind fun t287 => (if t287 = true then ((Vm.f kj5 l0 a1 l2 a3 a4).bind fun t288 => (some t288)) else (some false))) else ((Qq.f kj5 a3).bind fun t289 => (if t289 = true then ((Qx.f a4 1 4).bind fun t290 => (if t290 = true then ((Vm.f kj5 l0 a1 l2 a3 a4).bind fun t291 => (some t291)) else (some false))) else (some false)))) else (some false)) = some r := H
   have A17 := Aside0.mk A170
   clear A170
   by_cases c18 : t286 = true
   rotate_left
   ·replace c18 := Bool.eq_false_iff.mpr c18
    subst c18
    have H1 : (some false) = some r := by rw [if_neg (show ¬ (false = true) by decide)] at H; exact H
    clear H
    have H := H1
    clear H1
    obtain rfl := Option.some.inj H
    clear H
    go_wp2_with (first | ((with_reducible refine gate_callee (f := 30) rfl ?_); refine goesL_ (some 30) rfl rfl Tryz.func30 (by kernel_rfl) rfl #[.slice A0 l0.length c0] rfl MPz ?_; (with_reducible refine (Qh.calls kj5 _ _ l0 true _ ?side1 ?side2 A11.out).mono ?_); (case side1 => exact KCz (Kd.C_below HR0.out HB.out)); (case side2 => exact HC0.out); rintro e w40 ⟨rfl, hb⟩; refine ⟨_, rfl, ?_⟩; have n0_ := Aside0.mk (below_step HBa hb); clear HB; have HB := n0_; clear n0_; (try clear hb); (try clear hb2); (try clear hk); (try clear hi)) | (go_at_call 36; (with_reducible refine (Qq.calls kj5 a1 true _ A13.out).mono ?_); rintro e w' ⟨rfl, ⟨nd, rfl⟩⟩) | (go_at_call 35; (with_reducible refine (Qk.calls kj5 _ _ l2 false _ ?side1 ?side2 A17.out).mono ?_); (case side1 => repeat (first | exact (Kd.C_below HR2.out HBa) | (with_reducible refine Kd.C_alloc ?_ _) | (with_reducible refine Kd.C_drewN ?_ _) | (with_reducible refine Kd.C_drew ?_))); (case side2 => exact HC2.out); rintro e w41 ⟨rfl, hb⟩; have n0_ := Aside0.mk (below_step HBa hb); clear HB; have HB := n0_; clear n0_; (try clear hb); (try clear hb2); (try clear hk); (try clear hi)))
    go_ret
    exact ⟨EZa, HBa⟩
   subst c18
   have H1 : (if a3.toList = ([] : List UInt8) then ((Qx.f a4 1 4).bind fun t287 => (if t287 = true then ((Vm.f kj5 l0 a1 l2 a3 a4).bind fun t288 => (some t288)) else (some false))) else ((Qq.f kj5 a3).bind fun t289 => (if t289 = true then ((Qx.f a4 1 4).bind fun t290 => (if t290 = true then ((Vm.f kj5 l0 a1 l2 a3 a4).bind fun t291 => (some t291)) else (some false))) else (some false)))) = some r := by rw [if_pos rfl] at H; exact H
   clear H
   have H := H1
   clear H1
   by_cases c19 : a3.toList = ([] : List UInt8)
   ·rw [if_pos c19] at H
    obtain ⟨c19b0, c19b1⟩ := QTz c19
    clear c19
    replace H := Option.bind_eq_some_iff.mp H
    obtain ⟨t287, A200, H⟩ := H
    replace H : (if t287 = true then ((Vm.f kj5 l0 a1 l2 a3 a4).bind fun t288 => (some t288)) else (some false)) = some r := H
    have A20 := Aside0.mk A200
    clear A200
    by_cases c21 : t287 = true
    ·subst c21
     have H1 : ((Vm.f kj5 l0 a1 l2 a3 a4).bind fun t288 => (some t288)) = some r := by rw [if_pos rfl] at H; exact H
     clear H
     have H := H1
     clear H1
     replace H := Option.bind_eq_some_iff.mp H
     obtain ⟨t288, A220, H⟩ := H
     replace H : (some t288) = some r := H
     have A22 := Aside0.mk A220
     clear A220
     obtain rfl := Option.some.inj H
     clear H
     go_wp2_with (first | ((with_reducible refine gate_callee (f := 30) rfl ?_); refine goesL_ (some 30) rfl rfl Tryz.func30 (by kernel_rfl) rfl #[.slice A0 l0.length c0] rfl MPz ?_; (with_reducible refine (Qh.calls kj5 _ _ l0 true _ ?side1 ?side2 A11.out).mono ?_); (case side1 => exact KCz (Kd.C_below HR0.out HB.out)); (case side2 => exact HC0.out); rintro e w23 ⟨rfl, hb⟩; refine ⟨_, rfl, ?_⟩; have n0_ := Aside0.mk (below_step HBa hb); clear HB; have HB := n0_; clear n0_; (try clear hb); (try clear hb2); (try clear hk); (try clear hi)) | (go_at_call 36; (with_reducible refine (Qq.calls kj5 a1 true _ A13.out).mono ?_); rintro e w' ⟨rfl, ⟨nd, rfl⟩⟩) | (go_at_call 35; (with_reducible refine (Qk.calls kj5 _ _ l2 true _ ?side1 ?side2 A17.out).mono ?_); (case side1 => repeat (first | exact (Kd.C_below HR2.out HBa) | (with_reducible refine Kd.C_alloc ?_ _) | (with_reducible refine Kd.C_drewN ?_ _) | (with_reducible refine Kd.C_drew ?_))); (case side2 => exact HC2.out); rintro e w24 ⟨rfl, hb⟩; have n0_ := Aside0.mk (below_step HBa hb); clear HB; have HB := n0_; clear n0_; (try clear hb); (try clear hb2); (try clear hk); (try clear hi)) | (go_at_call 63; (with_reducible refine (Qx.calls a4 1 4 true _ A20.out).mono ?_); rintro e w' ⟨rfl, ⟨nd, rfl⟩⟩) | ((with_reducible refine gate_callee (f := 64) rfl ?_); refine goesL_ (some 66) rfl rfl Tryz.func64 (by kernel_rfl) rfl #[.slice A0 l0.length c0, .string a1, .slice A2 l2.length c2, .string a3, .int .i64 a4] rfl MPz ?_; (with_reducible refine (Vm.calls kj5 _ _ l0 a1 _ _ l2 a3 a4 t288 _ ?side1 ?side2 ?side3 ?side4 A22.out).mono ?_); (case side1 => repeat (first | exact (Kd.C_below HR0.out HBa) | (with_reducible refine Kd.C_alloc ?_ _) | (with_reducible refine Kd.C_drewN ?_ _) | (with_reducible refine Kd.C_drew ?_))); (case side2 => exact HC0.out); (case side3 => repeat (first | exact (Kd.C_below HR2.out HBa) | (with_reducible refine Kd.C_alloc ?_ _) | (with_reducible refine Kd.C_drewN ?_ _) | (with_reducible refine Kd.C_drew ?_))); (case side4 => exact HC2.out); rintro e w25 ⟨rfl, hb⟩; refine ⟨_, rfl, ?_⟩; have n0_ := Aside0.mk (below_step HBa hb); clear HB; have HB := n0_; clear n0_; (try clear hb); (try clear hb2); (try clear hk); (try clear hi)))
     go_ret
     exact ⟨EZa, HBa⟩
    replace c21 := Bool.eq_false_iff.mpr c21
    subst c21
    have H1 : (some false) = some r := by rw [if_neg (show ¬ (false = true) by decide)] at H; exact H
    clear H
    have H := H1
    clear H1
    obtain rfl := Option.some.inj H
    clear H
    go_wp2_with (first | ((with_reducible refine gate_callee (f := 30) rfl ?_); refine goesL_ (some 30) rfl rfl Tryz.func30 (by kernel_rfl) rfl #[.slice A0 l0.length c0] rfl MPz ?_; (with_reducible refine (Qh.calls kj5 _ _ l0 true _ ?side1 ?side2 A11.out).mono ?_); (case side1 => exact KCz (Kd.C_below HR0.out HB.out)); (case side2 => exact HC0.out); rintro e w26 ⟨rfl, hb⟩; refine ⟨_, rfl, ?_⟩; have n0_ := Aside0.mk (below_step HBa hb); clear HB; have HB := n0_; clear n0_; (try clear hb); (try clear hb2); (try clear hk); (try clear hi)) | (go_at_call 36; (with_reducible refine (Qq.calls kj5 a1 true _ A13.out).mono ?_); rintro e w' ⟨rfl, ⟨nd, rfl⟩⟩) | (go_at_call 35; (with_reducible refine (Qk.calls kj5 _ _ l2 true _ ?side1 ?side2 A17.out).mono ?_); (case side1 => repeat (first | exact (Kd.C_below HR2.out HBa) | (with_reducible refine Kd.C_alloc ?_ _) | (with_reducible refine Kd.C_drewN ?_ _) | (with_reducible refine Kd.C_drew ?_))); (case side2 => exact HC2.out); rintro e w27 ⟨rfl, hb⟩; have n0_ := Aside0.mk (below_step HBa hb); clear HB; have HB := n0_; clear n0_; (try clear hb); (try clear hb2); (try clear hk); (try clear hi)) | (go_at_call 63; (with_reducible refine (Qx.calls a4 1 4 false _ A20.out).mono ?_); rintro e w' ⟨rfl, ⟨nd, rfl⟩⟩))
    go_ret
    exact ⟨EZa, HBa⟩
   rw [if_neg c19] at H
   obtain ⟨c19b0, c19b1⟩ := QFz c19
   replace H := Option.bind_eq_some_iff.mp H
   obtain ⟨t289, A280, H⟩ := H
   replace H : (if t289 = true then ((Qx.f a4 1 4).bind fun t290 => (if t290 = true then ((Vm.f kj5 l0 a1 l2 a3 a4).bind fun t291 => (some t291)) else (some false))) else (some false)) = some r := H
   have A28 := Aside0.mk A280
   clear A280
   by_cases c29 : t289 = true
   rotate_left
   ·replace c29 := Bool.eq_false_iff.mpr c29
    subst c29
    have H1 : (some false) = some r := by rw [if_neg (show ¬ (false = true) by decide)] at H; exact H
    clear H
    have H := H1
    clear H1
    obtain rfl := Option.some.inj H
    clear H
    go_wp2_with (first | ((with_reducible refine gate_callee (f := 30) rfl ?_); refine goesL_ (some 30) rfl rfl Tryz.func30 (by kernel_rfl) rfl #[.slice A0 l0.length c0] rfl MPz ?_; (with_reducible refine (Qh.calls kj5 _ _ l0 true _ ?side1 ?side2 A11.out).mono ?_); (case side1 => exact KCz (Kd.C_below HR0.out HB.out)); (case side2 => exact HC0.out); rintro e w38 ⟨rfl, hb⟩; refine ⟨_, rfl, ?_⟩; have n0_ := Aside0.mk (below_step HBa hb); clear HB; have HB := n0_; clear n0_; (try clear hb); (try clear hb2); (try clear hk); (try clear hi)) | (go_at_call 36; (with_reducible refine (Qq.calls kj5 a1 true _ A13.out).mono ?_); rintro e w' ⟨rfl, ⟨nd, rfl⟩⟩) | (go_at_call 35; (with_reducible refine (Qk.calls kj5 _ _ l2 true _ ?side1 ?side2 A17.out).mono ?_); (case side1 => repeat (first | exact (Kd.C_below HR2.out HBa) | (with_reducible refine Kd.C_alloc ?_ _) | (with_reducible refine Kd.C_drewN ?_ _) | (with_reducible refine Kd.C_drew ?_))); (case side2 => exact HC2.out); rintro e w39 ⟨rfl, hb⟩; have n0_ := Aside0.mk (below_step HBa hb); clear HB; have HB := n0_; clear n0_; (try clear hb); (try clear hb2); (try clear hk); (try clear hi)) | (go_at_call 36; (with_reducible refine (Qq.calls kj5 a3 false _ A28.out).mono ?_); rintro e w' ⟨rfl, ⟨nd, rfl⟩⟩))
    go_ret
    exact ⟨EZa, HBa⟩
   subst c29
   have H1 : ((Qx.f a4 1 4).bind fun t290 => (if t290 = true then ((Vm.f kj5 l0 a1 l2 a3 a4).bind fun t291 => (some t291)) else (some false))) = some r := by rw [if_pos rfl] at H; exact H
   clear H
   have H := H1
   clear H1
   replace H := Option.bind_eq_some_iff.mp H
   obtain ⟨t290, A300, H⟩ := H
   replace H : (if t290 = true then ((Vm.f kj5 l0 a1 l2 a3 a4).bind fun t291 => (some t291)) else (some false)) = some r := H
   have A30 := Aside0.mk A300
   clear A300
   by_cases c31 : t290 = true
   ·subst c31
    have H1 : ((Vm.f kj5 l0 a1 l2 a3 a4).bind fun t291 => (some t291)) = some r := by rw [if_pos rfl] at H; exact H
    clear H
    have H := H1
    clear H1
    replace H := Option.bind_eq_some_iff.mp H
    obtain ⟨t291, A320, H⟩ := H
    replace H : (some t291) = some r := H
    have A32 := Aside0.mk A320
    clear A320
    obtain rfl := Option.some.inj H
    clear H
    go_wp2_with (first | ((with_reducible refine gate_callee (f := 30) rfl ?_); refine goesL_ (some 30) rfl rfl Tryz.func30 (by kernel_rfl) rfl #[.slice A0 l0.length c0] rfl MPz ?_; (with_reducible refine (Qh.calls kj5 _ _ l0 true _ ?side1 ?side2 A11.out).mono ?_); (case side1 => exact KCz (Kd.C_below HR0.out HB.out)); (case side2 => exact HC0.out); rintro e w33 ⟨rfl, hb⟩; refine ⟨_, rfl, ?_⟩; have n0_ := Aside0.mk (below_step HBa hb); clear HB; have HB := n0_; clear n0_; (try clear hb); (try clear hb2); (try clear hk); (try clear hi)) | (go_at_call 36; (with_reducible refine (Qq.calls kj5 a1 true _ A13.out).mono ?_); rintro e w' ⟨rfl, ⟨nd, rfl⟩⟩) | (go_at_call 35; (with_reducible refine (Qk.calls kj5 _ _ l2 true _ ?side1 ?side2 A17.out).mono ?_); (case side1 => repeat (first | exact (Kd.C_below HR2.out HBa) | (with_reducible refine Kd.C_alloc ?_ _) | (with_reducible refine Kd.C_drewN ?_ _) | (with_reducible refine Kd.C_drew ?_))); (case side2 => exact HC2.out); rintro e w34 ⟨rfl, hb⟩; have n0_ := Aside0.mk (below_step HBa hb); clear HB; have HB := n0_; clear n0_; (try clear hb); (try clear hb2); (try clear hk); (try clear hi)) | (go_at_call 36; (with_reducible refine (Qq.calls kj5 a3 true _ A28.out).mono ?_); rintro e w' ⟨rfl, ⟨nd, rfl⟩⟩) | (go_at_call 63; (with_reducible refine (Qx.calls a4 1 4 true _ A30.out).mono ?_); rintro e w' ⟨rfl, ⟨nd, rfl⟩⟩) | ((with_reducible refine gate_callee (f := 64) rfl ?_); refine goesL_ (some 66) rfl rfl Tryz.func64 (by kernel_rfl) rfl #[.slice A0 l0.length c0, .string a1, .slice A2 l2.length c2, .string a3, .int .i64 a4] rfl MPz ?_; (with_reducible refine (Vm.calls kj5 _ _ l0 a1 _ _ l2 a3 a4 t291 _ ?side1 ?side2 ?side3 ?side4 A32.out).mono ?_); (case side1 => repeat (first | exact (Kd.C_below HR0.out HBa) | (with_reducible refine Kd.C_alloc ?_ _) | (with_reducible refine Kd.C_drewN ?_ _) | (with_reducible refine Kd.C_drew ?_))); (case side2 => exact HC0.out); (case side3 => repeat (first | exact (Kd.C_below HR2.out HBa) | (with_reducible refine Kd.C_alloc ?_ _) | (with_reducible refine Kd.C_drewN ?_ _) | (with_reducible refine Kd.C_drew ?_))); (case side4 => exact HC2.out); rintro e w35 ⟨rfl, hb⟩; refine ⟨_, rfl, ?_⟩; have n0_ := Aside0.mk (below_step HBa hb); clear HB; have HB := n0_; clear n0_; (try clear hb); (try clear hb2); (try clear hk); (try clear hi)))
    go_ret
    exact ⟨EZa, HBa⟩
   replace c31 := Bool.eq_false_iff.mpr c31
   subst c31
   have H1 : (some false) = some r := by rw [if_neg (show ¬ (false = true) by decide)] at H; exact H
   clear H
   have H := H1
   clear H1
   obtain rfl := Option.some.inj H
   clear H
   go_wp2_with (first | ((with_reducible refine gate_callee (f := 30) rfl ?_); refine goesL_ (some 30) rfl rfl Tryz.func30 (by kernel_rfl) rfl #[.slice A0 l0.length c0] rfl MPz ?_; (with_reducible refine (Qh.calls kj5 _ _ l0 true _ ?side1 ?side2 A11.out).mono ?_); (case side1 => exact KCz (Kd.C_below HR0.out HB.out)); (case side2 => exact HC0.out); rintro e w36 ⟨rfl, hb⟩; refine ⟨_, rfl, ?_⟩; have n0_ := Aside0.mk (below_step HBa hb); clear HB; have HB := n0_; clear n0_; (try clear hb); (try clear hb2); (try clear hk); (try clear hi)) | (go_at_call 36; (with_reducible refine (Qq.calls kj5 a1 true _ A13.out).mono ?_); rintro e w' ⟨rfl, ⟨nd, rfl⟩⟩) | (go_at_call 35; (with_reducible refine (Qk.calls kj5 _ _ l2 true _ ?side1 ?side2 A17.out).mono ?_); (case side1 => repeat (first | exact (Kd.C_below HR2.out HBa) | (with_reducible refine Kd.C_alloc ?_ _) | (with_reducible refine Kd.C_drewN ?_ _) | (with_reducible refine Kd.C_drew ?_))); (case side2 => exact HC2.out); rintro e w37 ⟨rfl, hb⟩; have n0_ := Aside0.mk (below_step HBa hb); clear HB; have HB := n0_; clear n0_; (try clear hb); (try clear hb2); (try clear hk); (try clear hi)) | (go_at_call 36; (with_reducible refine (Qq.calls kj5 a3 true _ A28.out).mono ?_); rintro e w' ⟨rfl, ⟨nd, rfl⟩⟩) | (go_at_call 63; (with_reducible refine (Qx.calls a4 1 4 false _ A30.out).mono ?_); rintro e w' ⟨rfl, ⟨nd, rfl⟩⟩))
   go_ret
   exact ⟨EZa, HBa⟩
def Gw.f (l0 : List ByteArray) : Option (Bool) := some (decide ((l0.length : Int) > 400))
theorem Gw.calls (A0 : Option Addr) (c0 : Nat) (l0 : List ByteArray) (r : Bool) (w : World) (hr0 : Kd.C Kd.string w A0 l0.length l0) (hc0 : l0.length ≤ c0) (h : Gw.f l0 = some r) :
  Calls Tryz.prog 69 #[.slice A0 l0.length c0] w fun e w' => e = .returned (.bool r) ∧ Drawn0 w w' := by
 have HR0 := Aside0.mk hr0
 have HC0 := Aside0.mk hc0
 clear hr0 hc0
 have H : (some (decide ((l0.length : Int) > 400))) = some r := h
 clear h
 obtain rfl := Option.some.inj H
 clear H
 go_enter Tryz.func69, Tryz.ntmps69
 go_wp2
 go_ret
 exact ⟨EZb, DRz⟩
def Qc.f (l0 : List ByteArray) : Option (Int) := some (l0.length : Int)
theorem Qc.calls (A0 : Option Addr) (c0 : Nat) (l0 : List ByteArray) (r : Int) (w : World) (hr0 : Kd.C Kd.string w A0 l0.length l0) (hc0 : l0.length ≤ c0) (h : Qc.f l0 = some r) :
  Calls Tryz.prog 143 #[.slice A0 l0.length c0] w fun e w' => e = .returned (.int .i64 r) ∧ Drawn0 w w' := by
 have HR0 := Aside0.mk hr0
 have HC0 := Aside0.mk hc0
 clear hr0 hc0
 have H : (some (l0.length : Int)) = some r := h
 clear h
 obtain rfl := Option.some.inj H
 clear H
 go_enter Tryz.func143, Tryz.ntmps143
 go_wp2
 go_ret
 exact ⟨EZb, DRz⟩
def Vp.f (a0 : ByteArray) (a1 : ByteArray) : Option (Int) := some (Lib.compareBytes a0.data.toList a1.data.toList)
theorem Vp.calls (a0 : ByteArray) (a1 : ByteArray) (r : Int) (w : World) (h : Vp.f a0 a1 = some r) :
  Calls Tryz.prog 169 #[.string a0, .string a1] w fun e w' => e = .returned (.int .i64 r) ∧ Drawn0 w w' := by
 obtain rfl := Option.some.inj h
 refine (show Calls Tryz.prog 169 _ _ _ from Any.strings_Compare Tryz.lays106 a0 a1 w).mono ?_
 rintro e w' ⟨he, rfl⟩
 exact ⟨he, Drawn0.refl _⟩
def Gq.f (k : Nat) (a0 : ByteArray) (a1 : ByteArray) : Option (Int) := (Gk.f k a0).bind fun t292 => ((Gk.f k a1).bind fun t293 => ((Vp.f t292 t293).bind fun t294 => (some t294)))
theorem Gq.mono : ∀ a0 a1 k, LeO (Gq.f k a0 a1) (Gq.f (k + 1) a0 a1) := by
 intro a0 a1 k
 unfold Gq.f
 with_reducible repeat' first | exact Gk.mono _ _ | exact LeO.refl _ | exact LeO.none _ | refine LeO.ite ?_ ?_ | refine LeO.bind ?_ (fun _ => ?_)
theorem Gq.calls (k : Nat) (a0 : ByteArray) (a1 : ByteArray) (r : Int) (w : World) (h : Gq.f k a0 a1 = some r) :
  Calls Tryz.prog 144 #[.string a0, .string a1] w fun e w' => e = .returned (.int .i64 r) ∧ Below w.heap.size w w' := by
 have HB := Aside0.mk (Below.refl w.heap.size w)
 have H : ((Gk.f k a0).bind fun t292 => ((Gk.f k a1).bind fun t293 => ((Vp.f t292 t293).bind fun t294 => (some t294)))) = some r := h
 clear h
 replace H := Option.bind_eq_some_iff.mp H
 obtain ⟨t292, A30, H⟩ := H
 replace H : ((Gk.f k a1).bind fun t293 => ((Vp.f t292 t293).bind fun t294 => (some t294))) = some r := H
 have A3 := Aside0.mk A30
 clear A30
 replace H := Option.bind_eq_some_iff.mp H
 obtain ⟨t293, A40, H⟩ := H
 replace H : ((Vp.f t292 t293).bind fun t294 => (some t294)) = some r := H
 have A4 := Aside0.mk A40
 clear A40
 replace H := Option.bind_eq_some_iff.mp H
 obtain ⟨t294, A50, H⟩ := H
 replace H : (some t294) = some r := H
 have A5 := Aside0.mk A50
 clear A50
 obtain rfl := Option.some.inj H
 clear H
 go_enter Tryz.func144, Tryz.ntmps144
 go_wp2_with (first | ((with_reducible refine gate_callee (f := 122) rfl ?_); refine goesL_ (some 6) rfl rfl Tryz.func122 (by kernel_rfl) rfl #[.string a0] rfl MPz ?_; (with_reducible refine (Gk.calls k a0 t292 _ A3.out).mono ?_); rintro e w6 ⟨rfl, hb⟩; refine ⟨_, rfl, ?_⟩; have n0_ := Aside0.mk (below_step HBa hb); clear HB; have HB := n0_; clear n0_; (try clear hb); (try clear hb2); (try clear hk); (try clear hi)) | ((with_reducible refine gate_callee (f := 122) rfl ?_); refine goesL_ (some 8) rfl rfl Tryz.func122 (by kernel_rfl) rfl #[.string a1] rfl MPz ?_; (with_reducible refine (Gk.calls k a1 t293 _ A4.out).mono ?_); rintro e w7 ⟨rfl, hb⟩; refine ⟨_, rfl, ?_⟩; have n0_ := Aside0.mk (below_step HBa hb); clear HB; have HB := n0_; clear n0_; (try clear hb); (try clear hb2); (try clear hk); (try clear hi)) | ((with_reducible refine gate_callee (f := 169) rfl ?_); refine goesL_ (some 9) rfl rfl Tryz.func169 (by kernel_rfl) rfl #[.string t292, .string t293] rfl MPz ?_; (with_reducible refine (Vp.calls t292 t293 t294 _ A5.out).mono ?_); rintro e w' ⟨rfl, ⟨nd, rfl⟩⟩; refine ⟨_, rfl, ?_⟩))
 go_ret
 exact ⟨EZa, HBa⟩
mutual
def Gu.j0 : Nat → Bool → ByteArray → List ByteArray → Option (Bool)
 | 0, _, _, _ => none
 | k + 1, x15, x296000, x296001 => if x15 = true then (some false) else (Gu.l0 k x296001 (x296001.length : Int) 0 x296000 x296001)
def Gu.l0 : Nat → List ByteArray → Int → Int → ByteArray → List ByteArray → Option (Bool)
 | 0, _, _, _, _, _ => none
 | k + 1, x17, x18, x19, x296000, x296001 => if x19 < x18 then (if 0 ≤ x19 then (if x19 < (x17.length : Int) then ((Gy.f k (rdOf ByteArray.empty x17 x19)).bind fun t300 => (if t300 = true then (if x19 > 0 then (if 0 ≤ (wrap64 (x19 - 1)) then (if (wrap64 (x19 - 1)) < (x296001.length : Int) then ((Gq.f k (rdOf ByteArray.empty x296001 (wrap64 (x19 - 1))) (rdOf ByteArray.empty x17 x19)).bind fun t302 => (if t302 ≥ 0 then (some false) else (Gu.l0 k x17 x18 (wrap64 (x19 + 1)) x296000 x296001))) else (none)) else (none)) else (Gu.l0 k x17 x18 (wrap64 (x19 + 1)) x296000 x296001)) else (some false))) else (none)) else (none)) else (some true)
end
def Gu.f (k : Nat) (a0_0 : ByteArray) (l0_1 : List ByteArray) : Option (Bool) := (Gj.f a0_0).bind fun t296 => (if t296 = true then ((Qc.f l0_1).bind fun t297 => ((Gp.f t297 1 4).bind fun t298 => (Gu.j0 k (!t298) a0_0 l0_1))) else (Gu.j0 k true a0_0 l0_1))
theorem Gu.mono_l : ∀ k, (∀ y0 y1 y2, LeO (Gu.j0 k y0 y1 y2) (Gu.j0 (k + 1) y0 y1 y2)) ∧ (∀ y0 y1 y2 y3 y4, LeO (Gu.l0 k y0 y1 y2 y3 y4) (Gu.l0 (k + 1) y0 y1 y2 y3 y4))
 | 0 => ⟨fun _ _ _ r h => by simp [Gu.j0] at h, fun _ _ _ _ _ r h => by simp [Gu.l0] at h⟩
 | k + 1 => by
  obtain ⟨ih0, ih1⟩ := Gu.mono_l k
  refine ⟨?_, ?_⟩
  ·intro y0 y1 y2
   unfold Gu.j0
   with_reducible repeat' first | exact ih0 _ _ _ | exact ih1 _ _ _ _ _ | exact Gq.mono _ _ _ | exact Gy.mono _ _ | exact LeO.refl _ | exact LeO.none _ | refine LeO.ite ?_ ?_ | refine LeO.bind ?_ (fun _ => ?_)
  ·intro y0 y1 y2 y3 y4
   unfold Gu.l0
   with_reducible repeat' first | exact ih0 _ _ _ | exact ih1 _ _ _ _ _ | exact Gq.mono _ _ _ | exact Gy.mono _ _ | exact LeO.refl _ | exact LeO.none _ | refine LeO.ite ?_ ?_ | refine LeO.bind ?_ (fun _ => ?_)
theorem Gu.mono : ∀ a0 a1 k, LeO (Gu.f k a0 a1) (Gu.f (k + 1) a0 a1) := by
 intro a0 a1 k
 obtain ⟨ih0, ih1⟩ := Gu.mono_l k
 unfold Gu.f
 with_reducible repeat' first | exact ih0 _ _ _ | exact ih1 _ _ _ _ _ | exact Gq.mono _ _ _ | exact Gy.mono _ _ | exact LeO.refl _ | exact LeO.none _ | refine LeO.ite ?_ ?_ | refine LeO.bind ?_ (fun _ => ?_)
theorem Gu.calls (k : Nat) (a0_0 : ByteArray) (A0_1 : Option Addr) (c0_1 : Nat) (l0_1 : List ByteArray) (r : Bool) (w : World) (hr0_1 : Kd.C Kd.string w A0_1 l0_1.length l0_1) (hc0_1 : l0_1.length ≤ c0_1) (h : Gu.f k a0_0 l0_1 = some r) :
  Calls Tryz.prog 107 #[.agg #[.string a0_0, .slice A0_1 l0_1.length c0_1]] w fun e w' => e = .returned (.bool r) ∧ Below w.heap.size w w' := by
 have hu117 := Tryz.underlying117
 have HR0_1 := Aside0.mk hr0_1
 have HC0_1 := Aside0.mk hc0_1
 clear hr0_1 hc0_1
 have HB := Aside0.mk (Below.refl w.heap.size w)
 have H : ((Gj.f a0_0).bind fun t296 => (if t296 = true then ((Qc.f l0_1).bind fun t297 => ((Gp.f t297 1 4).bind fun t298 => (Gu.j0 k (!t298) a0_0 l0_1))) else (Gu.j0 k true a0_0 l0_1))) = some r := h
 clear h
 have HC2 := Aside0.mk H
 clear H
 go_enter Tryz.func107, Tryz.ntmps107
 go_upto_region 1 with (first | ((with_reducible refine gate_dst (N := 1) rfl ?_); refine box_event ?hg (N := 1) ?hd (cs := #[.string a0_0, .slice A0_1 l0_1.length c0_1]) (t := 117) ?hr ?_; (case hd => rfl); (case hg => rfl); (case hr => first | (go_simp; done) | (go_simp; rfl)); intro gb295 hg w3 hbox hb; have n0_ := Aside0.mk (below_step HBa hb); have n1_ := Aside0.mk (hbox); have n2_ := BSz w hg HBa; have n3_ := BSz w hg HBa; clear HB; have HB := n0_; have BK295 := n1_; have GW295 := n2_; have GE295 := n3_; clear n0_ n1_ n2_ n3_; clear hb hbox hg))
 (try simp only [Act.put, List.setIfInBounds_toArray, List.set_cons_zero, List.set_cons_succ])
 go_cut [15] (fun v15 wc => ∃ (kq : Nat) (x15_1 : Bool), v15 = .bool x15_1 ∧ Aside0 (Gu.j0 kq x15_1 a0_0 l0_1 = some r) ∧ Aside0 (kq ≤ k) ∧ Aside0 (wc.heap[gb295]? = some (.cells #[.string a0_0, (.slice A0_1 l0_1.length c0_1)] 117 (0, 0))) ∧ Aside0 (Below w.heap.size w wc))
 case first =>
  have H := HC2.out
  clear HC2
  replace H := Option.bind_eq_some_iff.mp H
  obtain ⟨t296, A40, H⟩ := H
  replace H : (if t296 = true then ((Qc.f l0_1).bind fun t297 => ((Gp.f t297 1 4).bind fun t298 => (Gu.j0 k (!t298) a0_0 l0_1))) else (Gu.j0 k true a0_0 l0_1)) = some r := H
  have A4 := Aside0.mk A40
  clear A40
  by_cases c5 : t296 = true
  rotate_left
  ·replace c5 := Bool.eq_false_iff.mpr c5
   subst c5
   have H1 : (Gu.j0 k true a0_0 l0_1) = some r := by rw [if_neg (show ¬ (false = true) by decide)] at H; exact H
   clear H
   have H := H1
   clear H1
   have H' := Aside0.mk H
   clear H
   have hcz11_0 := C1z BK295
   have hcz11_1 := C2z BK295
   have hfz11_0 := blk_frozen BK295.out 0
   have hfz11_1 := blk_frozen BK295.out 1
   go_wp2_with (first | ((with_reducible refine gate_callee (f := 59) rfl ?_); refine goesL_ (some 7) rfl rfl Tryz.func59 (by kernel_rfl) rfl #[.string a0_0] rfl MPz ?_; (with_reducible refine (Gj.calls a0_0 false _ A4.out).mono ?_); rintro e w12 ⟨rfl, hb⟩; refine ⟨_, rfl, ?_⟩; have n0_ := BBz BK295 hb; have n1_ := Aside0.mk (below_step (HBb GE295) hb); clear BK295; clear HB; have BK295 := n0_; have HB := n1_; clear n0_ n1_; (try clear hb); (try clear hb2); (try clear hk); (try clear hi)))
   go_meet
   case rel => exact ⟨_, (true), EZc, H', ⟨by first | omega | exact Nat.le_refl _⟩, ⟨by (with_reducible repeat first | apply blk_drewN | apply blk_drew | apply blk_alloc); exact BK295.out⟩, ⟨by repeat (first | (with_reducible first | exact HB.out | apply below_alloc | apply pw_below_drewN | apply below_drew1 | refine below_set ?_ GE295.out) | exact HB.out)⟩⟩
  subst c5
  have H1 : ((Qc.f l0_1).bind fun t297 => ((Gp.f t297 1 4).bind fun t298 => (Gu.j0 k (!t298) a0_0 l0_1))) = some r := by rw [if_pos rfl] at H; exact H
  clear H
  have H := H1
  clear H1
  replace H := Option.bind_eq_some_iff.mp H
  obtain ⟨t297, A60, H⟩ := H
  replace H : ((Gp.f t297 1 4).bind fun t298 => (Gu.j0 k (!t298) a0_0 l0_1)) = some r := H
  have A6 := Aside0.mk A60
  clear A60
  replace H := Option.bind_eq_some_iff.mp H
  obtain ⟨t298, A70, H⟩ := H
  replace H : (Gu.j0 k (!t298) a0_0 l0_1) = some r := H
  have A7 := Aside0.mk A70
  clear A70
  have H' := Aside0.mk H
  clear H
  have hcz8_0 := C1z BK295
  have hcz8_1 := C2z BK295
  have hfz8_0 := blk_frozen BK295.out 0
  have hfz8_1 := blk_frozen BK295.out 1
  go_wp2_with (first | ((with_reducible refine gate_callee (f := 59) rfl ?_); refine goesL_ (some 7) rfl rfl Tryz.func59 (by kernel_rfl) rfl #[.string a0_0] rfl MPz ?_; (with_reducible refine (Gj.calls a0_0 true _ A4.out).mono ?_); rintro e w9 ⟨rfl, hb⟩; refine ⟨_, rfl, ?_⟩; have n0_ := BBz BK295 hb; have n1_ := Aside0.mk (below_step (HBb GE295) hb); clear BK295; clear HB; have BK295 := n0_; have HB := n1_; clear n0_ n1_; (try clear hb); (try clear hb2); (try clear hk); (try clear hi); have hcz10_0 := C1z BK295; have hcz10_1 := C2z BK295; have hfz10_0 := blk_frozen BK295.out 0; have hfz10_1 := blk_frozen BK295.out 1) | (go_at_call 143; (with_reducible refine (Qc.calls _ _ l0_1 t297 _ ?side1 ?side2 A6.out).mono ?_); (case side1 => exact KCz (Kd.C_below HR0_1.out HB.out)); (case side2 => exact HC0_1.out); rintro e w' ⟨rfl, ⟨nd, rfl⟩⟩) | (go_at_call 98; (with_reducible refine (Gp.calls t297 1 4 t298 _ A7.out).mono ?_); rintro e w' ⟨rfl, ⟨nd, rfl⟩⟩))
  go_meet
  case rel => exact ⟨_, (!t298), EZc, H', ⟨by first | omega | exact Nat.le_refl _⟩, ⟨by (with_reducible repeat first | apply blk_drewN | apply blk_drew | apply blk_alloc); exact BK295.out⟩, ⟨by repeat (first | (with_reducible first | exact HB.out | apply below_alloc | apply pw_below_drewN | apply below_drew1 | refine below_set ?_ GE295.out) | exact HB.out)⟩⟩
 case rest =>
  clear HC2
  obtain ⟨kq, x15_1, rfl, HA, HJ1, BK295, HB⟩ := hcut
  cases kq with
  | zero => exact absurd HA.out (by simp [Gu.j0])
  | succ kj1 =>
   have H := HA.out
   clear HA
   simp only [Gu.j0] at H
   by_cases c13 : x15_1 = true
   ·subst c13
    have H1 : (some false) = some r := by rw [if_pos rfl] at H; exact H
    clear H
    have H := H1
    clear H1
    obtain rfl := Option.some.inj H
    clear H
    go_wp2
    go_ret
    exact ⟨EZa, HBb GE295⟩
   replace c13 := Bool.eq_false_iff.mpr c13
   subst c13
   have H1 : (Gu.l0 kj1 l0_1 (l0_1.length : Int) 0 a0_0 l0_1) = some r := by rw [if_neg (show ¬ (false = true) by decide)] at H; exact H
   clear H
   have H := H1
   clear H1
   have H' := Aside0.mk H
   clear H
   have hcz14_0 := C1z BK295
   have hcz14_1 := C2z BK295
   have hfz14_0 := blk_frozen BK295.out 0
   have hfz14_1 := blk_frozen BK295.out 1
   go_wp2
   go_loopg [19] kj1 (fun kq v19 w' => ∃ (x19_2 : Int), v19 = .int .i64 x19_2 ∧ Aside0 (Gu.l0 kq l0_1 (l0_1.length : Int) x19_2 a0_0 l0_1 = some r) ∧ Aside0 (kq ≤ kj1) ∧ Aside0 (w'.heap[gb295]? = some (.cells #[.string a0_0, (.slice A0_1 l0_1.length c0_1)] 117 (0, 0))) ∧ Aside0 (Below w.heap.size w w'))
   case atStart => exact ⟨(0), EZc, H', ⟨Nat.le_refl _⟩, ⟨by (with_reducible repeat first | apply blk_drewN | apply blk_drew | apply blk_alloc); exact BK295.out⟩, ⟨by repeat (first | (with_reducible first | exact HB.out | apply below_alloc | apply pw_below_drewN | apply below_drew1 | refine below_set ?_ GE295.out) | exact HB.out)⟩⟩
   case round =>
    clear H'
    try clear c13
    try clear hcz14_0
    try clear hcz14_1
    try clear hfz14_0
    try clear hfz14_1
    obtain ⟨x19_2, rfl, HA, HK2, BK295, HB⟩ := hrel
    cases gk with
    | zero => exact absurd HA.out (by simp [Gu.l0])
    | succ k2 =>
     have H := HA.out
     clear HA
     simp only [Gu.l0] at H
     by_cases c15 : x19_2 < (l0_1.length : Int)
     rotate_left
     ·rw [if_neg c15] at H
      have c15b0 := decide_eq_false c15
      clear c15
      obtain rfl := Option.some.inj H
      clear H
      go_wp2
      go_ret
      exact ⟨EZa, HBb GE295⟩
     rw [if_pos c15] at H
     have c15b0 := decide_eq_true c15
     clear c15
     by_cases c16 : 0 ≤ x19_2
     rotate_left
     ·rw [if_neg c16] at H
      exact absurd H (by simp)
     rw [if_pos c16] at H
     have c16b0 := decide_eq_true c16
     clear c16
     by_cases c17 : x19_2 < (l0_1.length : Int)
     rotate_left
     ·rw [if_neg c17] at H
      exact absurd H (by simp)
     rw [if_pos c17] at H
     have c17b0 := decide_eq_true c17
     clear c17
     replace H := Option.bind_eq_some_iff.mp H
     obtain ⟨t300, A180, H⟩ := H
     replace H : (if t300 = true then (if x19_2 > 0 then (if 0 ≤ (wrap64 (x19_2 - 1)) then (if (wrap64 (x19_2 - 1)) < (l0_1.length : Int) then ((Gq.f k2 (rdOf ByteArray.empty l0_1 (wrap64 (x19_2 - 1))) (rdOf ByteArray.empty l0_1 x19_2)).bind fun t302 => (if t302 ≥ 0 then (some false) else (Gu.l0 k2 l0_1 (l0_1.length : Int) (wrap64 (x19_2 + 1)) a0_0 l0_1))) else (none)) else (none)) else (Gu.l0 k2 l0_1 (l0_1.length : Int) (wrap64 (x19_2 + 1)) a0_0 l0_1)) else (some false)) = some r := H
     have A18 := Aside0.mk A180
     clear A180
     by_cases c19 : t300 = true
     rotate_left
     ·replace c19 := Bool.eq_false_iff.mpr c19
      subst c19
      have H1 : (some false) = some r := by rw [if_neg (show ¬ (false = true) by decide)] at H; exact H
      clear H
      have H := H1
      clear H1
      obtain rfl := Option.some.inj H
      clear H
      have p299 : 0 ≤ (x19_2 : Int) := ODz
      have q299 : x19_2 < (l0_1.length : Int) := ODz
      obtain ⟨ad299, e299, hx299_0⟩ := Kd.at_string HR0_1.out x19_2 p299 q299
      cases e299
      replace hx299_0 := HXz HB hx299_0
      replace p299 := eq_true p299
      replace q299 := eq_true q299
      go_wp2_with (first | ((with_reducible refine gate_callee (f := 88) rfl ?_); refine goesL_ (some 25) rfl rfl Tryz.func88 (by kernel_rfl) rfl #[.string (rdOf ByteArray.empty l0_1 x19_2)] rfl MPz ?_; (with_reducible refine (Gy.calls k2 (rdOf ByteArray.empty l0_1 x19_2) false _ A18.out).mono ?_); rintro e w33 ⟨rfl, hb⟩; refine ⟨_, rfl, ?_⟩; have n0_ := BBz BK295 hb; have n1_ := Aside0.mk (below_step (HBb GE295) hb); clear BK295; clear HB; have BK295 := n0_; have HB := n1_; clear n0_ n1_; (try clear hb); (try clear hb2); (try clear hk); (try clear hi)))
      go_ret
      exact ⟨EZa, HBb GE295⟩
     subst c19
     have H1 : (if x19_2 > 0 then (if 0 ≤ (wrap64 (x19_2 - 1)) then (if (wrap64 (x19_2 - 1)) < (l0_1.length : Int) then ((Gq.f k2 (rdOf ByteArray.empty l0_1 (wrap64 (x19_2 - 1))) (rdOf ByteArray.empty l0_1 x19_2)).bind fun t302 => (if t302 ≥ 0 then (some false) else (Gu.l0 k2 l0_1 (l0_1.length : Int) (wrap64 (x19_2 + 1)) a0_0 l0_1))) else (none)) else (none)) else (Gu.l0 k2 l0_1 (l0_1.length : Int) (wrap64 (x19_2 + 1)) a0_0 l0_1)) = some r := by rw [if_pos rfl] at H; exact H
     clear H
     have H := H1
     clear H1
     by_cases c20 : x19_2 > 0
     rotate_left
     ·rw [if_neg c20] at H
      have c20b0 : decide (0 < x19_2) = false := decide_eq_false c20
      clear c20
      have H' := Aside0.mk H
      clear H
      have p299 : 0 ≤ (x19_2 : Int) := ODz
      have q299 : x19_2 < (l0_1.length : Int) := ODz
      obtain ⟨ad299, e299, hx299_0⟩ := Kd.at_string HR0_1.out x19_2 p299 q299
      cases e299
      replace hx299_0 := HXz HB hx299_0
      replace p299 := eq_true p299
      replace q299 := eq_true q299
      go_wp2_with (first | ((with_reducible refine gate_callee (f := 88) rfl ?_); refine goesL_ (some 25) rfl rfl Tryz.func88 (by kernel_rfl) rfl #[.string (rdOf ByteArray.empty l0_1 x19_2)] rfl MPz ?_; (with_reducible refine (Gy.calls k2 (rdOf ByteArray.empty l0_1 x19_2) true _ A18.out).mono ?_); rintro e w32 ⟨rfl, hb⟩; refine ⟨_, rfl, ?_⟩; have n0_ := BBz BK295 hb; have n1_ := Aside0.mk (below_step (HBb GE295) hb); clear BK295; clear HB; have BK295 := n0_; have HB := n1_; clear n0_ n1_; (try clear hb); (try clear hb2); (try clear hk); (try clear hi)))
      go_roundg k2
      case measure => have := HJ1.out; have := HK2.out; omega
      case rel => exact ⟨(wrap64 (x19_2 + 1)), EZc, H', ⟨by have := HJ1.out; have := HK2.out; omega⟩, ⟨by (with_reducible repeat first | apply blk_drewN | apply blk_drew | apply blk_alloc); exact BK295.out⟩, ⟨by repeat (first | (with_reducible first | exact HB.out | apply below_alloc | apply pw_below_drewN | apply below_drew1 | refine below_set ?_ GE295.out) | exact HB.out)⟩⟩
     rw [if_pos c20] at H
     have c20b0 : decide (0 < x19_2) = true := decide_eq_true c20
     clear c20
     obtain ⟨ji21, hji21⟩ : ∃ j_ : Int, (wrap64 (x19_2 - 1)) = j_ := ⟨_, rfl⟩
     replace H : (if 0 ≤ (ji21) then (if (ji21) < (l0_1.length : Int) then ((Gq.f k2 (rdOf ByteArray.empty l0_1 (ji21)) (rdOf ByteArray.empty l0_1 x19_2)).bind fun t302 => (if t302 ≥ 0 then (some false) else (Gu.l0 k2 l0_1 (l0_1.length : Int) (wrap64 (x19_2 + 1)) a0_0 l0_1))) else (none)) else (none)) = some r := by first | (rw [hji21] at H; exact H) | (simp only [hji21] at H ⊢; exact H)
     (try rw [hji21] at A18)
     have hji21w : (IntKind.i64.wrap (x19_2 - 1)) = ji21 := (i64_w _).trans hji21
     by_cases c22 : 0 ≤ (ji21)
     rotate_left
     ·rw [if_neg c22] at H
      exact absurd H (by simp)
     rw [if_pos c22] at H
     have c22b0 := decide_eq_true c22
     clear c22
     by_cases c23 : (ji21) < (l0_1.length : Int)
     rotate_left
     ·rw [if_neg c23] at H
      exact absurd H (by simp)
     rw [if_pos c23] at H
     have c23b0 := decide_eq_true c23
     clear c23
     replace H := Option.bind_eq_some_iff.mp H
     obtain ⟨t302, A240, H⟩ := H
     replace H : (if t302 ≥ 0 then (some false) else (Gu.l0 k2 l0_1 (l0_1.length : Int) (wrap64 (x19_2 + 1)) a0_0 l0_1)) = some r := H
     have A24 := Aside0.mk A240
     clear A240
     by_cases c25 : t302 ≥ 0
     ·rw [if_pos c25] at H
      have c25b0 : decide (0 ≤ t302) = true := decide_eq_true c25
      clear c25
      obtain rfl := Option.some.inj H
      clear H
      have p299 : 0 ≤ (x19_2 : Int) := ODz
      have q299 : x19_2 < (l0_1.length : Int) := ODz
      obtain ⟨ad299, e299, hx299_0⟩ := Kd.at_string HR0_1.out x19_2 p299 q299
      cases e299
      replace hx299_0 := HXz HB hx299_0
      replace p299 := eq_true p299
      replace q299 := eq_true q299
      go_wp2_with (first | ((with_reducible refine gate_callee (f := 88) rfl ?_); refine goesL_ (some 25) rfl rfl Tryz.func88 (by kernel_rfl) rfl #[.string (rdOf ByteArray.empty l0_1 x19_2)] rfl MPz ?_; (with_reducible refine (Gy.calls k2 (rdOf ByteArray.empty l0_1 x19_2) true _ A18.out).mono ?_); rintro e w26 ⟨rfl, hb⟩; refine ⟨_, rfl, ?_⟩; have n0_ := BBz BK295 hb; have n1_ := Aside0.mk (below_step (HBb GE295) hb); clear BK295; clear HB; have BK295 := n0_; have HB := n1_; clear n0_ n1_; (try clear hb); (try clear hb2); (try clear hk); (try clear hi); have hcz27_0 := C1z BK295; have hcz27_1 := C2z BK295; have hfz27_0 := blk_frozen BK295.out 0; have hfz27_1 := blk_frozen BK295.out 1; have p301 : 0 ≤ ((ji21) : Int) := ODz; have q301 : (ji21) < (l0_1.length : Int) := ODz; obtain ⟨ad301, e301, hx301_0⟩ := Kd.at_string HR0_1.out (ji21) p301 q301; obtain rfl : ad299 = ad301 := (by injection e301); replace hx301_0 := HXz HB hx301_0; replace p301 := eq_true p301; replace q301 := eq_true q301) | (go_at_call 144; (with_reducible refine (Gq.calls k2 (rdOf ByteArray.empty l0_1 (ji21)) (rdOf ByteArray.empty l0_1 x19_2) t302 _ A24.out).mono ?_); rintro e w28 ⟨rfl, hb⟩; have n0_ := BBz BK295 hb; have n1_ := Aside0.mk (below_step (HBb GE295) hb); clear BK295; clear HB; have BK295 := n0_; have HB := n1_; clear n0_ n1_; (try clear hb); (try clear hb2); (try clear hk); (try clear hi)))
      go_ret
      exact ⟨by first | rfl | (simp only [bne_nil_, beq_nil_]; rfl) | (simp [errW_none, errW_some] <;> rfl) | (simp only [← hji21]; first | rfl | (simp [errW_none, errW_some] <;> rfl)) | (simp [*, errW_none, errW_some] <;> rfl), HBb GE295⟩
     rw [if_neg c25] at H
     have c25b0 : decide (0 ≤ t302) = false := decide_eq_false c25
     clear c25
     have H' := Aside0.mk H
     clear H
     have p299 : 0 ≤ (x19_2 : Int) := ODz
     have q299 : x19_2 < (l0_1.length : Int) := ODz
     obtain ⟨ad299, e299, hx299_0⟩ := Kd.at_string HR0_1.out x19_2 p299 q299
     cases e299
     replace hx299_0 := HXz HB hx299_0
     replace p299 := eq_true p299
     replace q299 := eq_true q299
     go_wp2_with (first | ((with_reducible refine gate_callee (f := 88) rfl ?_); refine goesL_ (some 25) rfl rfl Tryz.func88 (by kernel_rfl) rfl #[.string (rdOf ByteArray.empty l0_1 x19_2)] rfl MPz ?_; (with_reducible refine (Gy.calls k2 (rdOf ByteArray.empty l0_1 x19_2) true _ A18.out).mono ?_); rintro e w29 ⟨rfl, hb⟩; refine ⟨_, rfl, ?_⟩; have n0_ := BBz BK295 hb; have n1_ := Aside0.mk (below_step (HBb GE295) hb); clear BK295; clear HB; have BK295 := n0_; have HB := n1_; clear n0_ n1_; (try clear hb); (try clear hb2); (try clear hk); (try clear hi); have hcz30_0 := C1z BK295; have hcz30_1 := C2z BK295; have hfz30_0 := blk_frozen BK295.out 0; have hfz30_1 := blk_frozen BK295.out 1; have p301 : 0 ≤ ((ji21) : Int) := ODz; have q301 : (ji21) < (l0_1.length : Int) := ODz; obtain ⟨ad301, e301, hx301_0⟩ := Kd.at_string HR0_1.out (ji21) p301 q301; obtain rfl : ad299 = ad301 := (by injection e301); replace hx301_0 := HXz HB hx301_0; replace p301 := eq_true p301; replace q301 := eq_true q301) | (go_at_call 144; (with_reducible refine (Gq.calls k2 (rdOf ByteArray.empty l0_1 (ji21)) (rdOf ByteArray.empty l0_1 x19_2) t302 _ A24.out).mono ?_); rintro e w31 ⟨rfl, hb⟩; have n0_ := BBz BK295 hb; have n1_ := Aside0.mk (below_step (HBb GE295) hb); clear BK295; clear HB; have BK295 := n0_; have HB := n1_; clear n0_ n1_; (try clear hb); (try clear hb2); (try clear hk); (try clear hi)))
     go_roundg k2
     case measure => have := HJ1.out; have := HK2.out; omega
     case rel => exact ⟨(wrap64 (x19_2 + 1)), EZc, H', ⟨by have := HJ1.out; have := HK2.out; omega⟩, ⟨by (with_reducible repeat first | apply blk_drewN | apply blk_drew | apply blk_alloc); exact BK295.out⟩, ⟨by repeat (first | (with_reducible first | exact HB.out | apply below_alloc | apply pw_below_drewN | apply below_drew1 | refine below_set ?_ GE295.out) | exact HB.out)⟩⟩
end Go.Proofs.YtmkeigielncpjaaGreatDoor.PFnAcl
