import Derived.Test.YtmkeigielncpjaaGreatDoorQFnAclx0
import Derived.Test.YtmkeigielncpjaaGreatDoorQFnAclx3
import Derived.Test.YtmkeigielncpjaaGreatDoorQFnAclx4
import Derived.Test.YtmkeigielncpjaaGreatDoorQFnAclx5
import Derived.Test.YtmkeigielncpjaaGreatDoorQFnAclx6
import Derived.Test.YtmkeigielncpjaaGreatDoorQFnAclx7
import Derived.Test.YtmkeigielncpjaaGreatDoorQFnAclx8
namespace Go.Proofs.YtmkeigielncpjaaGreatDoor.PFnAcl
open Go.RowKit Go.Proofs.YtmkeigielncpjaaGreatDoorW.PrintWords Go.Proofs.YtmkeigielncpjaaGreatDoorW.PrintLast Go.Proofs.YtmkeigielncpjaaGreatDoorW.PrintMore
set_option maxRecDepth 100000
set_option maxHeartbeats 16000000
attribute [local go_sem] max2_int min2_int max_two min_two max_three min_three max_four min_four
set_option linter.unusedVariables false
set_option linter.unusedSimpArgs false
mutual
def Gf.j0 : Nat → Bool → List (S96) → List (S117) → Option (Bool)
 | 0, _, _, _ => none
 | k + 1, x20, x304000, x304001 => if x20 = true then (some false) else (Gf.l0 k x304001 (x304001.length : Int) 0 x304000 x304001)
def Gf.l0 : Nat → List (S117) → Int → Int → List (S96) → List (S117) → Option (Bool)
 | 0, _, _, _, _, _ => none
 | k + 1, x22, x23, x24, x304000, x304001 => if x24 < x23 then (if 0 ≤ x24 then (if x24 < (x22.length : Int) then ((Gu.f k ((rd_T117 x22 x24).f0) ((rd_T117 x22 x24).f1)).bind fun t307 => (if t307 = true then (if x24 > 0 then (if 0 ≤ (wrap64 (x24 - 1)) then (if (wrap64 (x24 - 1)) < (x304001.length : Int) then (if ((Op.bytesLess (((rd_T117 x304001 (wrap64 (x24 - 1))).f0).toList) (((rd_T117 x22 x24).f0).toList)) = true) then (Gf.l0 k x22 x23 (wrap64 (x24 + 1)) x304000 x304001) else (some false)) else (none)) else (none)) else (Gf.l0 k x22 x23 (wrap64 (x24 + 1)) x304000 x304001)) else (some false))) else (none)) else (none)) else (some true)
end
def Gf.f (k : Nat) (l0_0 : List (S96)) (l0_1 : List (S117)) : Option (Bool) := if (l0_0.length : Int) = 0 then (Gf.j0 k true l0_0 l0_1) else ((Gd.f k l0_0).bind fun t304 => (if t304 = true then (Gf.j0 k (decide ((l0_1.length : Int) > 8)) l0_0 l0_1) else (Gf.j0 k true l0_0 l0_1)))
theorem Gf.mono_l : ∀ k, (∀ y0 y1 y2, LeO (Gf.j0 k y0 y1 y2) (Gf.j0 (k + 1) y0 y1 y2)) ∧ (∀ y0 y1 y2 y3 y4, LeO (Gf.l0 k y0 y1 y2 y3 y4) (Gf.l0 (k + 1) y0 y1 y2 y3 y4))
 | 0 => ⟨fun _ _ _ r h => by simp [Gf.j0] at h, fun _ _ _ _ _ r h => by simp [Gf.l0] at h⟩
 | k + 1 => by
  obtain ⟨ih0, ih1⟩ := Gf.mono_l k
  refine ⟨?_, ?_⟩
  ·intro y0 y1 y2
   unfold Gf.j0
   with_reducible repeat' first | exact ih0 _ _ _ | exact ih1 _ _ _ _ _ | exact Gd.mono _ _ | exact Gu.mono _ _ _ | exact LeO.refl _ | exact LeO.none _ | refine LeO.ite ?_ ?_ | refine LeO.bind ?_ (fun _ => ?_)
  ·intro y0 y1 y2 y3 y4
   unfold Gf.l0
   with_reducible repeat' first | exact ih0 _ _ _ | exact ih1 _ _ _ _ _ | exact Gd.mono _ _ | exact Gu.mono _ _ _ | exact LeO.refl _ | exact LeO.none _ | refine LeO.ite ?_ ?_ | refine LeO.bind ?_ (fun _ => ?_)
theorem Gf.mono : ∀ a0 a1 k, LeO (Gf.f k a0 a1) (Gf.f (k + 1) a0 a1) := by
 intro a0 a1 k
 obtain ⟨ih0, ih1⟩ := Gf.mono_l k
 unfold Gf.f
 with_reducible repeat' first | exact ih0 _ _ _ | exact ih1 _ _ _ _ _ | exact Gd.mono _ _ | exact Gu.mono _ _ _ | exact LeO.refl _ | exact LeO.none _ | refine LeO.ite ?_ ?_ | refine LeO.bind ?_ (fun _ => ?_)
def Gf.T6 : Bool × List (List Nat × List Nat) := (true, [([], []), ([0], [0]), ([1], [1]), ([2, 1], [2]), ([3], [3]), ([4, 3], [3, 4]), ([5, 3, 3], [3, 5]), ([6], [6]), ([7, 6], [6, 7]), ([6], [6]), ([9, 6], [6, 9]), ([8, 10, 6], [6, 8, 10]), ([11, 6], [6, 11]), ([12, 6], [6, 12]), ([6], [6]), ([14, 6], [6, 14]), ([13, 15, 6], [6, 13, 15]), ([6, 16, 3], [3, 6, 16]), ([3, 17], [3, 17])])
def Gf.B6 : List Nat := [0, 1, 3, 7, 15, 31, 63, 127, 255, 127, 639, 2047, 4095, 8191, 127, 16511, 65535, 131071, 262143]
theorem Gf.tab6 : rtab .any (opsOf Tryz.f70 6) = Gf.T6 := by kernel_rfl
theorem Gf.bits6 : waitsOk Gf.T6.2 Gf.B6 = true := by kernel_rfl
theorem Gf.calls (k : Nat) (A0_0 : Option Addr) (c0_0 : Nat) (l0_0 : List (S96)) (A0_1 : Option Addr) (c0_1 : Nat) (l0_1 : List (S117)) (r : Bool) (w : World) (hr0_0 : Kd.C k96 w A0_0 l0_0.length l0_0) (hc0_0 : l0_0.length ≤ c0_0) (hr0_1 : Kd.C k117 w A0_1 l0_1.length l0_1) (hc0_1 : l0_1.length ≤ c0_1) (h : Gf.f k l0_0 l0_1 = some r) :
  Calls Tryz.prog 70 #[.agg #[.slice A0_0 l0_0.length c0_0, .slice A0_1 l0_1.length c0_1]] w fun e w' => e = .returned (.bool r) ∧ Below w.heap.size w w' := by
 have hu51 := Tryz.underlying51
 have hu117 := Tryz.underlying117
 have HR0_0 := Aside0.mk hr0_0
 have HC0_0 := Aside0.mk hc0_0
 clear hr0_0 hc0_0
 have HR0_1 := Aside0.mk hr0_1
 have HC0_1 := Aside0.mk hc0_1
 clear hr0_1 hc0_1
 have HB := Aside0.mk (Below.refl w.heap.size w)
 have H : (if (l0_0.length : Int) = 0 then (Gf.j0 k true l0_0 l0_1) else ((Gd.f k l0_0).bind fun t304 => (if t304 = true then (Gf.j0 k (decide ((l0_1.length : Int) > 8)) l0_0 l0_1) else (Gf.j0 k true l0_0 l0_1)))) = some r := h
 clear h
 have HC2 := Aside0.mk H
 clear H
 go_enter Tryz.func70, Tryz.ntmps70
 go_upto_region 1 with (first | ((with_reducible refine gate_dst (N := 1) rfl ?_); (try (refine gate_guard (by rfl) ?_; dsimp only)); refine box_event ?hg (N := 1) ?hd (cs := #[.slice A0_0 l0_0.length c0_0, .slice A0_1 l0_1.length c0_1]) (t := 51) ?hr ?_; (case hd => rfl); (case hg => rfl); (case hr => first | (go_simp; done) | (go_simp; rfl)); intro gb303 hg w3 hbox hb; have n0_ := Aside0.mk (below_step HBa hb); have n1_ := Aside0.mk (hbox); have n2_ := BSz w hg HBa; have n3_ := BSz w hg HBa; clear HB; have HB := n0_; have BK303 := n1_; have GW303 := n2_; have GE303 := n3_; clear n0_ n1_ n2_ n3_; clear hb hbox hg))
 (try simp only [Act.put, List.setIfInBounds_toArray, List.set_cons_zero, List.set_cons_succ])
 go_cut [20] (fun v20 wc => ∃ (kq : Nat) (x20_1 : Bool), v20 = .bool x20_1 ∧ Aside0 (Gf.j0 kq x20_1 l0_0 l0_1 = some r) ∧ Aside0 (kq ≤ k) ∧ Aside0 (wc.heap[gb303]? = some (.cells #[(.slice A0_0 l0_0.length c0_0), (.slice A0_1 l0_1.length c0_1)] 51 (0, 0))) ∧ Aside0 (Below w.heap.size w wc))
 case first =>
  have H := HC2.out
  clear HC2
  by_cases c4 : (l0_0.length : Int) = 0
  ·rw [if_pos c4] at H
   obtain ⟨c4b0, c4b1⟩ := QTz c4
   clear c4
   (first | rw [c4b0] | rw [c4v0] | (simp only [i64_w, i32_w]; rw [c4b0]) | (simp only [i64_w, i32_w]; rw [c4v0]) | skip)
   have H' := Aside0.mk H
   clear H
   have hcz5_0 := C1z BK303
   have hcz5_1 := C2z BK303
   have hfz5_0 := blk_frozen BK303.out 0
   have hfz5_1 := blk_frozen BK303.out 1
   go_wp2
   go_meet
   case rel => exact ⟨_, (true), EZc, H', ⟨by first | omega | exact Nat.le_refl _⟩, ⟨by (with_reducible repeat first | apply blk_drewN | apply blk_drew | apply blk_alloc); exact BK303.out⟩, ⟨by repeat (first | (with_reducible first | exact HB.out | apply below_alloc | apply pw_below_drewN | apply below_drew1 | refine below_set ?_ GE303.out) | exact HB.out)⟩⟩
  rw [if_neg c4] at H
  obtain ⟨c4b0, c4b1⟩ := QFz c4
  have c4b2 : ¬ (l0_0 = []) := fun h_ => c4 (by rw [h_]; rfl)
  (first | rw [c4b0] | rw [c4v0] | (simp only [i64_w, i32_w]; rw [c4b0]) | (simp only [i64_w, i32_w]; rw [c4v0]) | skip)
  replace H := Option.bind_eq_some_iff.mp H
  obtain ⟨t304, A60, H⟩ := H
  replace H : (if t304 = true then (Gf.j0 k (decide ((l0_1.length : Int) > 8)) l0_0 l0_1) else (Gf.j0 k true l0_0 l0_1)) = some r := H
  have A6 := Aside0.mk A60
  clear A60
  by_cases c7 : t304 = true
  ·subst c7
   have H1 : (Gf.j0 k (decide ((l0_1.length : Int) > 8)) l0_0 l0_1) = some r := by rw [if_pos rfl] at H; exact H
   clear H
   have H := H1
   clear H1
   have H' := Aside0.mk H
   clear H
   have hcz8_0 := C1z BK303
   have hcz8_1 := C2z BK303
   have hfz8_0 := blk_frozen BK303.out 0
   have hfz8_1 := blk_frozen BK303.out 1
   go_wp2_with (first | (go_at_call 60; (with_reducible refine (Gd.calls k _ _ l0_0 true _ ?side1 ?side2 A6.out).mono ?_); (case side1 => exact KCz (Kd.C_below HR0_0.out HB.out)); (case side2 => exact HC0_0.out); rintro e w9 ⟨rfl, hb⟩; have n0_ := BBz BK303 hb; have n1_ := Aside0.mk (below_step (HBb GE303) hb); clear BK303; clear HB; have BK303 := n0_; have HB := n1_; clear n0_ n1_; (try clear hb); (try clear hb2); (try clear hk); (try clear hi); have hcz10_0 := C1z BK303; have hcz10_1 := C2z BK303; have hfz10_0 := blk_frozen BK303.out 0; have hfz10_1 := blk_frozen BK303.out 1))
   go_meet
   case rel => exact ⟨_, (decide ((l0_1.length : Int) > 8)), EZc, H', ⟨by first | omega | exact Nat.le_refl _⟩, ⟨by (with_reducible repeat first | apply blk_drewN | apply blk_drew | apply blk_alloc); exact BK303.out⟩, ⟨by repeat (first | (with_reducible first | exact HB.out | apply below_alloc | apply pw_below_drewN | apply below_drew1 | refine below_set ?_ GE303.out) | exact HB.out)⟩⟩
  replace c7 := Bool.eq_false_iff.mpr c7
  subst c7
  have H1 : (Gf.j0 k true l0_0 l0_1) = some r := by rw [if_neg (show ¬ (false = true) by decide)] at H; exact H
  clear H
  have H := H1
  clear H1
  have H' := Aside0.mk H
  clear H
  have hcz11_0 := C1z BK303
  have hcz11_1 := C2z BK303
  have hfz11_0 := blk_frozen BK303.out 0
  have hfz11_1 := blk_frozen BK303.out 1
  go_wp2_with (first | (go_at_call 60; (with_reducible refine (Gd.calls k _ _ l0_0 false _ ?side1 ?side2 A6.out).mono ?_); (case side1 => exact KCz (Kd.C_below HR0_0.out HB.out)); (case side2 => exact HC0_0.out); rintro e w12 ⟨rfl, hb⟩; have n0_ := BBz BK303 hb; have n1_ := Aside0.mk (below_step (HBb GE303) hb); clear BK303; clear HB; have BK303 := n0_; have HB := n1_; clear n0_ n1_; (try clear hb); (try clear hb2); (try clear hk); (try clear hi)))
  go_meet
  case rel => exact ⟨_, (true), EZc, H', ⟨by first | omega | exact Nat.le_refl _⟩, ⟨by (with_reducible repeat first | apply blk_drewN | apply blk_drew | apply blk_alloc); exact BK303.out⟩, ⟨by repeat (first | (with_reducible first | exact HB.out | apply below_alloc | apply pw_below_drewN | apply below_drew1 | refine below_set ?_ GE303.out) | exact HB.out)⟩⟩
 case rest =>
  clear HC2
  obtain ⟨kq, x20_1, rfl, HA, HJ1, BK303, HB⟩ := hcut
  cases kq with
  | zero => exact absurd HA.out (by simp [Gf.j0])
  | succ kj1 =>
   have H := HA.out
   clear HA
   simp only [Gf.j0] at H
   by_cases c13 : x20_1 = true
   ·subst c13
    have H1 : (some false) = some r := by rw [if_pos rfl] at H; exact H
    clear H
    have H := H1
    clear H1
    obtain rfl := Option.some.inj H
    clear H
    go_wp2
    go_ret
    exact ⟨EZa, HBb GE303⟩
   replace c13 := Bool.eq_false_iff.mpr c13
   subst c13
   have H1 : (Gf.l0 kj1 l0_1 (l0_1.length : Int) 0 l0_0 l0_1) = some r := by rw [if_neg (show ¬ (false = true) by decide)] at H; exact H
   clear H
   have H := H1
   clear H1
   have H' := Aside0.mk H
   clear H
   have hcz14_0 := C1z BK303
   have hcz14_1 := C2z BK303
   have hfz14_0 := blk_frozen BK303.out 0
   have hfz14_1 := blk_frozen BK303.out 1
   go_wp2
   go_loopg [24] kj1 (fun kq v24 w' => ∃ (x24_2 : Int), v24 = .int .i64 x24_2 ∧ Aside0 (Gf.l0 kq l0_1 (l0_1.length : Int) x24_2 l0_0 l0_1 = some r) ∧ Aside0 (kq ≤ kj1) ∧ Aside0 (w'.heap[gb303]? = some (.cells #[(.slice A0_0 l0_0.length c0_0), (.slice A0_1 l0_1.length c0_1)] 51 (0, 0))) ∧ Aside0 (Below w.heap.size w w'))
   case atStart => exact ⟨(0), EZc, H', ⟨Nat.le_refl _⟩, ⟨by (with_reducible repeat first | apply blk_drewN | apply blk_drew | apply blk_alloc); exact BK303.out⟩, ⟨by repeat (first | (with_reducible first | exact HB.out | apply below_alloc | apply pw_below_drewN | apply below_drew1 | refine below_set ?_ GE303.out) | exact HB.out)⟩⟩
   case round =>
    clear H'
    try clear c13
    try clear hcz14_0
    try clear hcz14_1
    try clear hfz14_0
    try clear hfz14_1
    obtain ⟨x24_2, rfl, HA, HK2, BK303, HB⟩ := hrel
    cases gk with
    | zero => exact absurd HA.out (by simp [Gf.l0])
    | succ k2 =>
     have H := HA.out
     clear HA
     simp only [Gf.l0] at H
     by_cases c15 : x24_2 < (l0_1.length : Int)
     rotate_left
     ·rw [if_neg c15] at H
      have c15b0 := decide_eq_false c15
      clear c15
      obtain rfl := Option.some.inj H
      clear H
      go_wp2
      go_ret
      exact ⟨EZa, HBb GE303⟩
     rw [if_pos c15] at H
     have c15b0 := decide_eq_true c15
     clear c15
     by_cases c16 : 0 ≤ x24_2
     rotate_left
     ·rw [if_neg c16] at H
      exact absurd H (by simp)
     rw [if_pos c16] at H
     have c16b0 := decide_eq_true c16
     clear c16
     by_cases c17 : x24_2 < (l0_1.length : Int)
     rotate_left
     ·rw [if_neg c17] at H
      exact absurd H (by simp)
     rw [if_pos c17] at H
     have c17b0 := decide_eq_true c17
     clear c17
     replace H := Option.bind_eq_some_iff.mp H
     obtain ⟨t307, A180, H⟩ := H
     replace H : (if t307 = true then (if x24_2 > 0 then (if 0 ≤ (wrap64 (x24_2 - 1)) then (if (wrap64 (x24_2 - 1)) < (l0_1.length : Int) then (if ((Op.bytesLess (((rd_T117 l0_1 (wrap64 (x24_2 - 1))).f0).toList) (((rd_T117 l0_1 x24_2).f0).toList)) = true) then (Gf.l0 k2 l0_1 (l0_1.length : Int) (wrap64 (x24_2 + 1)) l0_0 l0_1) else (some false)) else (none)) else (none)) else (Gf.l0 k2 l0_1 (l0_1.length : Int) (wrap64 (x24_2 + 1)) l0_0 l0_1)) else (some false)) = some r := H
     have A18 := Aside0.mk A180
     clear A180
     by_cases c19 : t307 = true
     rotate_left
     ·replace c19 := Bool.eq_false_iff.mpr c19
      subst c19
      have H1 : (some false) = some r := by rw [if_neg (show ¬ (false = true) by decide)] at H; exact H
      clear H
      have H := H1
      clear H1
      obtain rfl := Option.some.inj H
      clear H
      have p305 : 0 ≤ (x24_2 : Int) := ODz
      have q305 : x24_2 < (l0_1.length : Int) := ODz
      obtain ⟨ad305, A305_1, c305_1, e305, hx305_0, hx305_1, hl305_1, hi305_1⟩ := at_T117 HR0_1.out x24_2 p305 q305
      cases e305
      replace hx305_0 := HXz HB hx305_0
      replace hx305_1 := HXz HB hx305_1
      have HR305_1 := Aside0.mk hi305_1
      have HC305_1 := Aside0.mk hl305_1
      clear hi305_1 hl305_1
      replace p305 := eq_true p305
      replace q305 := eq_true q305
      try go_wp2_with (first | ((with_reducible refine gate_dst (N := 4) rfl ?_); (try (refine gate_guard (by rfl) ?_; dsimp only)); refine box_event ?hg (N := 4) ?hd (cs := #[.string (⟨#[]⟩ : ByteArray), .slice none 0 0]) (t := 117) ?hr ?_; (case hd => rfl); (case hg => rfl); (case hr => first | (go_simp; done) | (go_simp; rfl)); intro gb306 hg w43 hbox hb; have n0_ := BBz BK303 hb; have n1_ := Aside0.mk (below_step (HBb GE303) hb); have n2_ := Aside0.mk (hbox); have n3_ := BSz w hg (HBb GE303); have n4_ := BSz w hg (HBb GE303); have n5_ := BNz BK303 hg; have n6_ := BMz BK303 hg; clear BK303; clear HB; have BK303 := n0_; have HB := n1_; have BK306 := n2_; have GW306 := n3_; have GE306 := n4_; have NB303_306 := n5_; have NB306_303 := n6_; clear n0_ n1_ n2_ n3_ n4_ n5_ n6_; clear hb hbox hg; have hnb44 := NB306_303.out; have hnc44 := NB303_306.out; have hcz45_0 := C1z BK306; have hcz45_1 := C2z BK306; have hfz45_0 := blk_frozen BK306.out 0; have hfz45_1 := blk_frozen BK306.out 1))
      have n0_ : Aside0 (((w43.setCell ⟨gb306, 0, none⟩ (.string ((rd_T117 l0_1 x24_2).f0))).setCell ⟨gb306, 1, none⟩ (.slice A305_1 ((rd_T117 l0_1 x24_2).f1).length c305_1)).heap[gb303]? = some (.cells #[.slice A0_0 l0_0.length c0_0, .slice (some ad305) l0_1.length c0_1] 51 (0, 0))) := ⟨by (with_reducible repeat first | apply blk_drewN | apply blk_drew | apply blk_alloc); refine blk_far ?_ NB303_306.out _; (with_reducible repeat first | apply blk_drewN | apply blk_drew | apply blk_alloc); refine blk_far ?_ NB303_306.out _; (with_reducible repeat first | apply blk_drewN | apply blk_drew | apply blk_alloc); exact BK303.out⟩
      have n1_ : Aside0 (((w43.setCell ⟨gb306, 0, none⟩ (.string ((rd_T117 l0_1 x24_2).f0))).setCell ⟨gb306, 1, none⟩ (.slice A305_1 ((rd_T117 l0_1 x24_2).f1).length c305_1)).heap[gb306]? = some (.cells #[.string ((rd_T117 l0_1 x24_2).f0), .slice A305_1 ((rd_T117 l0_1 x24_2).f1).length c305_1] 117 (0, 0))) := ⟨by (with_reducible repeat first | apply blk_drewN | apply blk_drew | apply blk_alloc); refine blk_put (cs := #[.string ((rd_T117 l0_1 x24_2).f0), .slice none 0 0]) ?_ 1 _ rfl; (with_reducible repeat first | apply blk_drewN | apply blk_drew | apply blk_alloc); refine blk_put (cs := #[.string (⟨#[]⟩ : ByteArray), .slice none 0 0]) ?_ 0 _ rfl; (with_reducible repeat first | apply blk_drewN | apply blk_drew | apply blk_alloc); exact BK306.out⟩
      have n2_ : Aside0 (Below w.heap.size w ((w43.setCell ⟨gb306, 0, none⟩ (.string ((rd_T117 l0_1 x24_2).f0))).setCell ⟨gb306, 1, none⟩ (.slice A305_1 ((rd_T117 l0_1 x24_2).f1).length c305_1))) := ⟨by repeat (first | (with_reducible first | exact HB.out | apply below_alloc | apply pw_below_drewN | apply below_drew1 | refine below_set ?_ GE303.out | refine below_set ?_ GE306.out) | exact HB.out)⟩
      (try clear BK303)
      (try clear BK306)
      (try clear HB)
      generalize ((w43.setCell ⟨gb306, 0, none⟩ (.string ((rd_T117 l0_1 x24_2).f0))).setCell ⟨gb306, 1, none⟩ (.slice A305_1 ((rd_T117 l0_1 x24_2).f1).length c305_1)) = w46 at n0_ n1_ n2_ ⊢
      have BK303 := n0_
      have BK306 := n1_
      have HB := n2_
      clear n0_ n1_ n2_
      have n0_ := Aside0.mk (blk_drew BK303.out)
      have n1_ := Aside0.mk (blk_drew BK306.out)
      have n2_ := Aside0.mk (below_drew1 HB.out)
      clear BK303
      clear BK306
      clear HB
      have BK303 := n0_
      have BK306 := n1_
      have HB := n2_
      clear n0_ n1_ n2_
      refine start_ (n := 19) (S := fun w' => w'.cell? ⟨gb306, 0, none⟩ = some (.string ((rd_T117 l0_1 x24_2).f0)) ∧ w'.cell? ⟨gb306, 1, none⟩ = some (.slice A305_1 ((rd_T117 l0_1 x24_2).f1).length c305_1)) (ds := []) (bz 19 0) (by kernel_rfl) rfl (by kernel_rfl) ⟨(blk_cell BK306.out 0).trans rfl, (blk_cell BK306.out 1).trans rfl⟩ (fun hHeld => ?_); refine with_tabW Gf.tab6 Gf.bits6 (fun HT_ HW_ => ?_)
      generalize w46.drew = w47 at BK303 BK306 HB hHeld ⊢
      refine PTz 0 29 (bz 19 1) rfl rfl (take_ofW HT_.out HW_.out (by kernel_rfl)) hHeld ?_
      refine one_ (i := 1) (N := some 30) (bz 19 3) rfl rfl (one_of HT_.out (by kernel_rfl)) (by decide) (fun K hK => ?_)
      refine goes_ Tryz.func107 (by kernel_rfl) rfl #[.agg #[.string ((rd_T117 l0_1 x24_2).f0), .slice A305_1 ((rd_T117 l0_1 x24_2).f1).length c305_1]] (by rfl) rfl rfl MPz ?_
      with_reducible refine (Gu.calls k2 ((rd_T117 l0_1 x24_2).f0) _ _ ((rd_T117 l0_1 x24_2).f1) false _ ?side1 ?side2 A18.out).mono ?_
      (case side1 => exact KCz (Kd.C_below HR305_1.out HB.out))
      (case side2 => exact HC305_1.out)
      rintro e w48 ⟨rfl, hb⟩
      refine ⟨_, rfl, ?_⟩
      have n0_ := BBz BK303 hb
      have n1_ := BBz BK306 hb
      have n2_ := Aside0.mk (below_step (HBc GE303 GE306) hb)
      clear BK303
      clear BK306
      clear HB
      have BK303 := n0_
      have BK306 := n1_
      have HB := n2_
      clear n0_ n1_ n2_
      (try clear hb)
      (try clear hb2)
      (try clear hk)
      (try clear hi)
      refine hK.out _ _ ⟨(blk_cell BK306.out 0).trans rfl, (blk_cell BK306.out 1).trans rfl⟩ (fun hHeld => ?_)
      clear hK K
      refine norm_ (a' := ?_) ?_ ?_
      rotate_left
      ·show Act.put _ (some 30) _ = _
       simp only [PUz]
       rfl
      refine PYz 2 31 (bz 19 7) rfl rfl (any_of HT_.out (by kernel_rfl)) ?_
      refine PYz 3 32 (bz 19 15) rfl rfl (any_of HT_.out (by kernel_rfl)) ?_
      refine PXz 4 33 (bz 19 31) rfl rfl (any_of HT_.out (by kernel_rfl)) ?_
      refine PXz 5 34 (bz 19 63) rfl rfl (any_of HT_.out (by kernel_rfl)) ?_
      refine PXz 6 35 (bz 19 127) rfl rfl (any_of HT_.out (by kernel_rfl)) ?_
      refine PXz 7 36 (bz 19 255) rfl rfl (any_of HT_.out (by kernel_rfl)) ?_
      refine PXz 8 37 (bz 19 511) rfl rfl (any_of HT_.out (by kernel_rfl)) ?_
      refine PXz 9 38 (bz 19 1023) rfl rfl (any_of HT_.out (by kernel_rfl)) ?_
      refine PXz 10 39 (bz 19 2047) rfl rfl (any_of HT_.out (by kernel_rfl)) ?_
      refine PXz 11 40 (bz 19 4095) rfl rfl (any_of HT_.out (by kernel_rfl)) ?_
      refine PXz 12 41 (bz 19 8191) rfl rfl (any_of HT_.out (by kernel_rfl)) ?_
      refine PXz 13 42 (bz 19 16383) rfl rfl (any_of HT_.out (by kernel_rfl)) ?_
      refine PXz 14 43 (bz 19 32767) rfl rfl (any_of HT_.out (by kernel_rfl)) ?_
      refine PXz 15 44 (bz 19 65535) rfl rfl (any_of HT_.out (by kernel_rfl)) ?_
      refine PXz 16 45 (bz 19 131071) rfl rfl (any_of HT_.out (by kernel_rfl)) ?_
      refine PXz 17 46 (bz 19 262143) rfl rfl (any_of HT_.out (by kernel_rfl)) ?_
      refine PYz 18 47 (bz 19 524287) rfl rfl (any_of HT_.out (by kernel_rfl)) ?_
      refine done_ (done_of HT_.out (by kernel_rfl)) ?_
      try go_wp2
      go_ret
      exact ⟨EZa, HBc GE303 GE306⟩
     subst c19
     have H1 : (if x24_2 > 0 then (if 0 ≤ (wrap64 (x24_2 - 1)) then (if (wrap64 (x24_2 - 1)) < (l0_1.length : Int) then (if ((Op.bytesLess (((rd_T117 l0_1 (wrap64 (x24_2 - 1))).f0).toList) (((rd_T117 l0_1 x24_2).f0).toList)) = true) then (Gf.l0 k2 l0_1 (l0_1.length : Int) (wrap64 (x24_2 + 1)) l0_0 l0_1) else (some false)) else (none)) else (none)) else (Gf.l0 k2 l0_1 (l0_1.length : Int) (wrap64 (x24_2 + 1)) l0_0 l0_1)) = some r := by rw [if_pos rfl] at H; exact H
     clear H
     have H := H1
     clear H1
     by_cases c20 : x24_2 > 0
     rotate_left
     ·rw [if_neg c20] at H
      have c20b0 : decide (0 < x24_2) = false := decide_eq_false c20
      clear c20
      have H' := Aside0.mk H
      clear H
      have p305 : 0 ≤ (x24_2 : Int) := ODz
      have q305 : x24_2 < (l0_1.length : Int) := ODz
      obtain ⟨ad305, A305_1, c305_1, e305, hx305_0, hx305_1, hl305_1, hi305_1⟩ := at_T117 HR0_1.out x24_2 p305 q305
      cases e305
      replace hx305_0 := HXz HB hx305_0
      replace hx305_1 := HXz HB hx305_1
      have HR305_1 := Aside0.mk hi305_1
      have HC305_1 := Aside0.mk hl305_1
      clear hi305_1 hl305_1
      replace p305 := eq_true p305
      replace q305 := eq_true q305
      try go_wp2_with (first | ((with_reducible refine gate_dst (N := 4) rfl ?_); (try (refine gate_guard (by rfl) ?_; dsimp only)); refine box_event ?hg (N := 4) ?hd (cs := #[.string (⟨#[]⟩ : ByteArray), .slice none 0 0]) (t := 117) ?hr ?_; (case hd => rfl); (case hg => rfl); (case hr => first | (go_simp; done) | (go_simp; rfl)); intro gb306 hg w37 hbox hb; have n0_ := BBz BK303 hb; have n1_ := Aside0.mk (below_step (HBb GE303) hb); have n2_ := Aside0.mk (hbox); have n3_ := BSz w hg (HBb GE303); have n4_ := BSz w hg (HBb GE303); have n5_ := BNz BK303 hg; have n6_ := BMz BK303 hg; clear BK303; clear HB; have BK303 := n0_; have HB := n1_; have BK306 := n2_; have GW306 := n3_; have GE306 := n4_; have NB303_306 := n5_; have NB306_303 := n6_; clear n0_ n1_ n2_ n3_ n4_ n5_ n6_; clear hb hbox hg; have hnb38 := NB306_303.out; have hnc38 := NB303_306.out; have hcz39_0 := C1z BK306; have hcz39_1 := C2z BK306; have hfz39_0 := blk_frozen BK306.out 0; have hfz39_1 := blk_frozen BK306.out 1))
      have n0_ : Aside0 (((w37.setCell ⟨gb306, 0, none⟩ (.string ((rd_T117 l0_1 x24_2).f0))).setCell ⟨gb306, 1, none⟩ (.slice A305_1 ((rd_T117 l0_1 x24_2).f1).length c305_1)).heap[gb303]? = some (.cells #[.slice A0_0 l0_0.length c0_0, .slice (some ad305) l0_1.length c0_1] 51 (0, 0))) := ⟨by (with_reducible repeat first | apply blk_drewN | apply blk_drew | apply blk_alloc); refine blk_far ?_ NB303_306.out _; (with_reducible repeat first | apply blk_drewN | apply blk_drew | apply blk_alloc); refine blk_far ?_ NB303_306.out _; (with_reducible repeat first | apply blk_drewN | apply blk_drew | apply blk_alloc); exact BK303.out⟩
      have n1_ : Aside0 (((w37.setCell ⟨gb306, 0, none⟩ (.string ((rd_T117 l0_1 x24_2).f0))).setCell ⟨gb306, 1, none⟩ (.slice A305_1 ((rd_T117 l0_1 x24_2).f1).length c305_1)).heap[gb306]? = some (.cells #[.string ((rd_T117 l0_1 x24_2).f0), .slice A305_1 ((rd_T117 l0_1 x24_2).f1).length c305_1] 117 (0, 0))) := ⟨by (with_reducible repeat first | apply blk_drewN | apply blk_drew | apply blk_alloc); refine blk_put (cs := #[.string ((rd_T117 l0_1 x24_2).f0), .slice none 0 0]) ?_ 1 _ rfl; (with_reducible repeat first | apply blk_drewN | apply blk_drew | apply blk_alloc); refine blk_put (cs := #[.string (⟨#[]⟩ : ByteArray), .slice none 0 0]) ?_ 0 _ rfl; (with_reducible repeat first | apply blk_drewN | apply blk_drew | apply blk_alloc); exact BK306.out⟩
      have n2_ : Aside0 (Below w.heap.size w ((w37.setCell ⟨gb306, 0, none⟩ (.string ((rd_T117 l0_1 x24_2).f0))).setCell ⟨gb306, 1, none⟩ (.slice A305_1 ((rd_T117 l0_1 x24_2).f1).length c305_1))) := ⟨by repeat (first | (with_reducible first | exact HB.out | apply below_alloc | apply pw_below_drewN | apply below_drew1 | refine below_set ?_ GE303.out | refine below_set ?_ GE306.out) | exact HB.out)⟩
      (try clear BK303)
      (try clear BK306)
      (try clear HB)
      generalize ((w37.setCell ⟨gb306, 0, none⟩ (.string ((rd_T117 l0_1 x24_2).f0))).setCell ⟨gb306, 1, none⟩ (.slice A305_1 ((rd_T117 l0_1 x24_2).f1).length c305_1)) = w40 at n0_ n1_ n2_ ⊢
      have BK303 := n0_
      have BK306 := n1_
      have HB := n2_
      clear n0_ n1_ n2_
      have n0_ := Aside0.mk (blk_drew BK303.out)
      have n1_ := Aside0.mk (blk_drew BK306.out)
      have n2_ := Aside0.mk (below_drew1 HB.out)
      clear BK303
      clear BK306
      clear HB
      have BK303 := n0_
      have BK306 := n1_
      have HB := n2_
      clear n0_ n1_ n2_
      refine start_ (n := 19) (S := fun w' => w'.cell? ⟨gb306, 0, none⟩ = some (.string ((rd_T117 l0_1 x24_2).f0)) ∧ w'.cell? ⟨gb306, 1, none⟩ = some (.slice A305_1 ((rd_T117 l0_1 x24_2).f1).length c305_1)) (ds := []) (bz 19 0) (by kernel_rfl) rfl (by kernel_rfl) ⟨(blk_cell BK306.out 0).trans rfl, (blk_cell BK306.out 1).trans rfl⟩ (fun hHeld => ?_); refine with_tabW Gf.tab6 Gf.bits6 (fun HT_ HW_ => ?_)
      generalize w40.drew = w41 at BK303 BK306 HB hHeld ⊢
      refine PTz 0 29 (bz 19 1) rfl rfl (take_ofW HT_.out HW_.out (by kernel_rfl)) hHeld ?_
      refine one_ (i := 1) (N := some 30) (bz 19 3) rfl rfl (one_of HT_.out (by kernel_rfl)) (by decide) (fun K hK => ?_)
      refine goes_ Tryz.func107 (by kernel_rfl) rfl #[.agg #[.string ((rd_T117 l0_1 x24_2).f0), .slice A305_1 ((rd_T117 l0_1 x24_2).f1).length c305_1]] (by rfl) rfl rfl MPz ?_
      with_reducible refine (Gu.calls k2 ((rd_T117 l0_1 x24_2).f0) _ _ ((rd_T117 l0_1 x24_2).f1) true _ ?side1 ?side2 A18.out).mono ?_
      (case side1 => exact KCz (Kd.C_below HR305_1.out HB.out))
      (case side2 => exact HC305_1.out)
      rintro e w42 ⟨rfl, hb⟩
      refine ⟨_, rfl, ?_⟩
      have n0_ := BBz BK303 hb
      have n1_ := BBz BK306 hb
      have n2_ := Aside0.mk (below_step (HBc GE303 GE306) hb)
      clear BK303
      clear BK306
      clear HB
      have BK303 := n0_
      have BK306 := n1_
      have HB := n2_
      clear n0_ n1_ n2_
      (try clear hb)
      (try clear hb2)
      (try clear hk)
      (try clear hi)
      refine hK.out _ _ ⟨(blk_cell BK306.out 0).trans rfl, (blk_cell BK306.out 1).trans rfl⟩ (fun hHeld => ?_)
      clear hK K
      refine norm_ (a' := ?_) ?_ ?_
      rotate_left
      ·show Act.put _ (some 30) _ = _
       simp only [PUz]
       rfl
      refine PYz 2 31 (bz 19 7) rfl rfl (any_of HT_.out (by kernel_rfl)) ?_
      refine PYz 3 32 (bz 19 15) rfl rfl (any_of HT_.out (by kernel_rfl)) ?_
      refine PYz 4 33 (bz 19 31) rfl rfl (any_of HT_.out (by kernel_rfl)) ?_
      refine PYz 5 34 (bz 19 63) rfl rfl (any_of HT_.out (by kernel_rfl)) ?_
      refine PYz 6 35 (bz 19 127) rfl rfl (any_of HT_.out (by kernel_rfl)) ?_
      refine PXz 7 36 (bz 19 255) rfl rfl (any_of HT_.out (by kernel_rfl)) ?_
      refine PXz 8 37 (bz 19 511) rfl rfl (any_of HT_.out (by kernel_rfl)) ?_
      refine PXz 9 38 (bz 19 1023) rfl rfl (any_of HT_.out (by kernel_rfl)) ?_
      refine PXz 10 39 (bz 19 2047) rfl rfl (any_of HT_.out (by kernel_rfl)) ?_
      refine PXz 11 40 (bz 19 4095) rfl rfl (any_of HT_.out (by kernel_rfl)) ?_
      refine PXz 12 41 (bz 19 8191) rfl rfl (any_of HT_.out (by kernel_rfl)) ?_
      refine PXz 13 42 (bz 19 16383) rfl rfl (any_of HT_.out (by kernel_rfl)) ?_
      refine PXz 14 43 (bz 19 32767) rfl rfl (any_of HT_.out (by kernel_rfl)) ?_
      refine PXz 15 44 (bz 19 65535) rfl rfl (any_of HT_.out (by kernel_rfl)) ?_
      refine PXz 16 45 (bz 19 131071) rfl rfl (any_of HT_.out (by kernel_rfl)) ?_
      refine PYz 17 46 (bz 19 262143) rfl rfl (any_of HT_.out (by kernel_rfl)) ?_
      refine PYz 18 47 (bz 19 524287) rfl rfl (any_of HT_.out (by kernel_rfl)) ?_
      refine done_ (done_of HT_.out (by kernel_rfl)) ?_
      try go_wp2
      go_roundg k2
      case measure => have := HJ1.out; have := HK2.out; omega
      case rel => exact ⟨(wrap64 (x24_2 + 1)), EZc, H', ⟨by have := HJ1.out; have := HK2.out; omega⟩, ⟨by (with_reducible repeat first | apply blk_drewN | apply blk_drew | apply blk_alloc); exact BK303.out⟩, ⟨by repeat (first | (with_reducible first | exact HB.out | apply below_alloc | apply pw_below_drewN | apply below_drew1 | refine below_set ?_ GE303.out | refine below_set ?_ GE306.out) | exact HB.out)⟩⟩
     rw [if_pos c20] at H
     have c20b0 : decide (0 < x24_2) = true := decide_eq_true c20
     clear c20
     obtain ⟨ji21, hji21⟩ : ∃ j_ : Int, (wrap64 (x24_2 - 1)) = j_ := ⟨_, rfl⟩
     replace H : (if 0 ≤ (ji21) then (if (ji21) < (l0_1.length : Int) then (if ((Op.bytesLess (((rd_T117 l0_1 (ji21)).f0).toList) (((rd_T117 l0_1 x24_2).f0).toList)) = true) then (Gf.l0 k2 l0_1 (l0_1.length : Int) (wrap64 (x24_2 + 1)) l0_0 l0_1) else (some false)) else (none)) else (none)) = some r := by first | (rw [hji21] at H; exact H) | (simp only [hji21] at H ⊢; exact H)
     (try rw [hji21] at A18)
     have hji21w : (IntKind.i64.wrap (x24_2 - 1)) = ji21 := (i64_w _).trans hji21
     by_cases c22 : 0 ≤ (ji21)
     rotate_left
     ·rw [if_neg c22] at H
      exact absurd H (by simp)
     rw [if_pos c22] at H
     have c22b0 := decide_eq_true c22
     clear c22
     by_cases c23 : (ji21) < (l0_1.length : Int)
     rotate_left
     ·rw [if_neg c23] at H
      exact absurd H (by simp)
     rw [if_pos c23] at H
     have c23b0 := decide_eq_true c23
     clear c23
     by_cases c24 : ((Op.bytesLess (((rd_T117 l0_1 (ji21)).f0).toList) (((rd_T117 l0_1 x24_2).f0).toList)) = true)
     rotate_left
     ·rw [if_neg c24] at H
      have c24b0 : (Op.bytesLess (((rd_T117 l0_1 (ji21)).f0).toList) (((rd_T117 l0_1 x24_2).f0).toList)) = false := by simpa using c24
      clear c24
      obtain rfl := Option.some.inj H
      clear H
      have p305 : 0 ≤ (x24_2 : Int) := ODz
      have q305 : x24_2 < (l0_1.length : Int) := ODz
      obtain ⟨ad305, A305_1, c305_1, e305, hx305_0, hx305_1, hl305_1, hi305_1⟩ := at_T117 HR0_1.out x24_2 p305 q305
      cases e305
      replace hx305_0 := HXz HB hx305_0
      replace hx305_1 := HXz HB hx305_1
      have HR305_1 := Aside0.mk hi305_1
      have HC305_1 := Aside0.mk hl305_1
      clear hi305_1 hl305_1
      replace p305 := eq_true p305
      replace q305 := eq_true q305
      try go_wp2_with (first | ((with_reducible refine gate_dst (N := 4) rfl ?_); (try (refine gate_guard (by rfl) ?_; dsimp only)); refine box_event ?hg (N := 4) ?hd (cs := #[.string (⟨#[]⟩ : ByteArray), .slice none 0 0]) (t := 117) ?hr ?_; (case hd => rfl); (case hg => rfl); (case hr => first | (go_simp; done) | (go_simp; rfl)); intro gb306 hg w31 hbox hb; have n0_ := BBz BK303 hb; have n1_ := Aside0.mk (below_step (HBb GE303) hb); have n2_ := Aside0.mk (hbox); have n3_ := BSz w hg (HBb GE303); have n4_ := BSz w hg (HBb GE303); have n5_ := BNz BK303 hg; have n6_ := BMz BK303 hg; clear BK303; clear HB; have BK303 := n0_; have HB := n1_; have BK306 := n2_; have GW306 := n3_; have GE306 := n4_; have NB303_306 := n5_; have NB306_303 := n6_; clear n0_ n1_ n2_ n3_ n4_ n5_ n6_; clear hb hbox hg; have hnb32 := NB306_303.out; have hnc32 := NB303_306.out; have hcz33_0 := C1z BK306; have hcz33_1 := C2z BK306; have hfz33_0 := blk_frozen BK306.out 0; have hfz33_1 := blk_frozen BK306.out 1))
      have n0_ : Aside0 (((w31.setCell ⟨gb306, 0, none⟩ (.string ((rd_T117 l0_1 x24_2).f0))).setCell ⟨gb306, 1, none⟩ (.slice A305_1 ((rd_T117 l0_1 x24_2).f1).length c305_1)).heap[gb303]? = some (.cells #[.slice A0_0 l0_0.length c0_0, .slice (some ad305) l0_1.length c0_1] 51 (0, 0))) := ⟨by (with_reducible repeat first | apply blk_drewN | apply blk_drew | apply blk_alloc); refine blk_far ?_ NB303_306.out _; (with_reducible repeat first | apply blk_drewN | apply blk_drew | apply blk_alloc); refine blk_far ?_ NB303_306.out _; (with_reducible repeat first | apply blk_drewN | apply blk_drew | apply blk_alloc); exact BK303.out⟩
      have n1_ : Aside0 (((w31.setCell ⟨gb306, 0, none⟩ (.string ((rd_T117 l0_1 x24_2).f0))).setCell ⟨gb306, 1, none⟩ (.slice A305_1 ((rd_T117 l0_1 x24_2).f1).length c305_1)).heap[gb306]? = some (.cells #[.string ((rd_T117 l0_1 x24_2).f0), .slice A305_1 ((rd_T117 l0_1 x24_2).f1).length c305_1] 117 (0, 0))) := ⟨by (with_reducible repeat first | apply blk_drewN | apply blk_drew | apply blk_alloc); refine blk_put (cs := #[.string ((rd_T117 l0_1 x24_2).f0), .slice none 0 0]) ?_ 1 _ (by first | rfl | (simp only [← hji21]; first | rfl | (simp; done))); (with_reducible repeat first | apply blk_drewN | apply blk_drew | apply blk_alloc); refine blk_put (cs := #[.string (⟨#[]⟩ : ByteArray), .slice none 0 0]) ?_ 0 _ (by first | rfl | (simp only [← hji21]; first | rfl | (simp; done))); (with_reducible repeat first | apply blk_drewN | apply blk_drew | apply blk_alloc); exact BK306.out⟩
      have n2_ : Aside0 (Below w.heap.size w ((w31.setCell ⟨gb306, 0, none⟩ (.string ((rd_T117 l0_1 x24_2).f0))).setCell ⟨gb306, 1, none⟩ (.slice A305_1 ((rd_T117 l0_1 x24_2).f1).length c305_1))) := ⟨by repeat (first | (with_reducible first | exact HB.out | apply below_alloc | apply pw_below_drewN | apply below_drew1 | refine below_set ?_ GE303.out | refine below_set ?_ GE306.out) | exact HB.out)⟩
      (try clear BK303)
      (try clear BK306)
      (try clear HB)
      generalize ((w31.setCell ⟨gb306, 0, none⟩ (.string ((rd_T117 l0_1 x24_2).f0))).setCell ⟨gb306, 1, none⟩ (.slice A305_1 ((rd_T117 l0_1 x24_2).f1).length c305_1)) = w34 at n0_ n1_ n2_ ⊢
      have BK303 := n0_
      have BK306 := n1_
      have HB := n2_
      clear n0_ n1_ n2_
      have n0_ := Aside0.mk (blk_drew BK303.out)
      have n1_ := Aside0.mk (blk_drew BK306.out)
      have n2_ := Aside0.mk (below_drew1 HB.out)
      clear BK303
      clear BK306
      clear HB
      have BK303 := n0_
      have BK306 := n1_
      have HB := n2_
      clear n0_ n1_ n2_
      have p308 : 0 ≤ ((ji21) : Int) := ODz
      have q308 : (ji21) < (l0_1.length : Int) := ODz
      obtain ⟨ad308, A308_1, c308_1, e308, hx308_0, hx308_1, hl308_1, hi308_1⟩ := at_T117 HR0_1.out (ji21) p308 q308
      have hw308_1 := hx308_1
      have hw308_0 := hx308_0
      obtain rfl : ad305 = ad308 := (by injection e308)
      replace hx308_0 := HXz HB hx308_0
      replace hx308_1 := HXz HB hx308_1
      have HR308_1 := Aside0.mk hi308_1
      have HC308_1 := Aside0.mk hl308_1
      clear hi308_1 hl308_1
      replace p308 := eq_true p308
      replace q308 := eq_true q308
      refine start_ (n := 19) (S := fun w' => w'.cell? ⟨gb306, 0, none⟩ = some (.string ((rd_T117 l0_1 x24_2).f0)) ∧ w'.cell? ⟨gb306, 1, none⟩ = some (.slice A305_1 ((rd_T117 l0_1 x24_2).f1).length c305_1) ∧ w'.cell? ⟨gb303, 0, none⟩ = some (.slice A0_0 l0_0.length c0_0) ∧ w'.cell? ⟨gb303, 1, none⟩ = some (.slice (some ad305) l0_1.length c0_1) ∧ w'.cell? (ad305.add (((ji21)).toNat * 2)) = some (.string ((rd_T117 l0_1 (ji21)).f0)) ∧ w'.cell? ⟨(ad305.add (((ji21)).toNat * 2)).block, (ad305.add (((ji21)).toNat * 2)).off + 1, none⟩ = some (.slice A308_1 ((rd_T117 l0_1 (ji21)).f1).length c308_1)) (ds := []) (bz 19 0) (by kernel_rfl) rfl (by kernel_rfl) ⟨(blk_cell BK306.out 0).trans rfl, (blk_cell BK306.out 1).trans rfl, (blk_cell BK303.out 0).trans rfl, (blk_cell BK303.out 1).trans rfl, (HXz HB hw308_0 :), (HXz HB hw308_1 :)⟩ (fun hHeld => ?_); refine with_tabW Gf.tab6 Gf.bits6 (fun HT_ HW_ => ?_)
      generalize w34.drew = w35 at BK303 BK306 HB HR308_1 hx308_0 hx308_1 hHeld ⊢
      refine PTz 0 29 (bz 19 1) rfl rfl (take_ofW HT_.out HW_.out (by kernel_rfl)) hHeld ?_
      refine one_ (i := 1) (N := some 30) (bz 19 3) rfl rfl (one_of HT_.out (by kernel_rfl)) (by decide) (fun K hK => ?_)
      refine goes_ Tryz.func107 (by kernel_rfl) rfl #[.agg #[.string ((rd_T117 l0_1 x24_2).f0), .slice A305_1 ((rd_T117 l0_1 x24_2).f1).length c305_1]] (by rfl) rfl rfl MPz ?_
      with_reducible refine (Gu.calls k2 ((rd_T117 l0_1 x24_2).f0) _ _ ((rd_T117 l0_1 x24_2).f1) true _ ?side1 ?side2 A18.out).mono ?_
      (case side1 => exact KCz (Kd.C_below HR305_1.out HB.out))
      (case side2 => exact HC305_1.out)
      rintro e w36 ⟨rfl, hb⟩
      refine ⟨_, rfl, ?_⟩
      have n0_ := BBz BK303 hb
      have n1_ := BBz BK306 hb
      have n2_ := Aside0.mk (below_step (HBc GE303 GE306) hb)
      clear BK303
      clear BK306
      clear HB
      have BK303 := n0_
      have BK306 := n1_
      have HB := n2_
      clear n0_ n1_ n2_
      (try clear hb)
      (try clear hb2)
      (try clear hk)
      (try clear hi)
      refine hK.out _ _ ⟨(blk_cell BK306.out 0).trans rfl, (blk_cell BK306.out 1).trans rfl, (blk_cell BK303.out 0).trans rfl, (blk_cell BK303.out 1).trans rfl, (HXz HB hw308_0 :), (HXz HB hw308_1 :)⟩ (fun hHeld => ?_)
      clear hK K
      refine norm_ (a' := ?_) ?_ ?_
      rotate_left
      ·show Act.put _ (some 30) _ = _
       simp only [PUz]
       rfl
      refine PYz 2 31 (bz 19 7) rfl rfl (any_of HT_.out (by kernel_rfl)) ?_
      refine PYz 3 32 (bz 19 15) rfl rfl (any_of HT_.out (by kernel_rfl)) ?_
      refine PYz 4 33 (bz 19 31) rfl rfl (any_of HT_.out (by kernel_rfl)) ?_
      refine PYz 5 34 (bz 19 63) rfl rfl (any_of HT_.out (by kernel_rfl)) ?_
      refine PYz 6 35 (bz 19 127) rfl rfl (any_of HT_.out (by kernel_rfl)) ?_
      refine PYz 7 36 (bz 19 255) rfl rfl (any_of HT_.out (by kernel_rfl)) ?_
      refine PYz 9 38 (bz 19 767) rfl rfl (any_of HT_.out (by kernel_rfl)) ?_
      refine PYz 10 39 (bz 19 1791) rfl rfl (any_of HT_.out (by kernel_rfl)) ?_
      refine PYz 14 43 (bz 19 18175) rfl rfl (any_of HT_.out (by kernel_rfl)) ?_
      refine PTz 8 37 (bz 19 18431) rfl rfl (take_ofW HT_.out HW_.out (by kernel_rfl)) hHeld ?_
      refine PYz 11 40 (bz 19 20479) rfl rfl (any_of HT_.out (by kernel_rfl)) ?_
      refine PYz 12 41 (bz 19 24575) rfl rfl (any_of HT_.out (by kernel_rfl)) ?_
      refine PTz 13 42 (bz 19 32767) rfl rfl (take_ofW HT_.out HW_.out (by kernel_rfl)) hHeld ?_
      refine PTz 15 44 (bz 19 65535) rfl rfl (take_ofW HT_.out HW_.out (by kernel_rfl)) hHeld ?_
      refine PYz 16 45 (bz 19 131071) rfl rfl (any_of HT_.out (by kernel_rfl)) ?_
      refine PYz 17 46 (bz 19 262143) rfl rfl (any_of HT_.out (by kernel_rfl)) ?_
      refine PYz 18 47 (bz 19 524287) rfl rfl (any_of HT_.out (by kernel_rfl)) ?_
      refine done_ (done_of HT_.out (by kernel_rfl)) ?_
      try go_wp2
      go_ret
      exact ⟨by first | rfl | (simp only [bne_nil_, beq_nil_]; rfl) | (simp [errW_none, errW_some] <;> rfl) | (simp only [← hji21]; first | rfl | (simp [errW_none, errW_some] <;> rfl)) | (simp [*, errW_none, errW_some] <;> rfl), HBc GE303 GE306⟩
     rw [if_pos c24] at H
     have c24b0 : (Op.bytesLess (((rd_T117 l0_1 (ji21)).f0).toList) (((rd_T117 l0_1 x24_2).f0).toList)) = true := c24
     clear c24
     have H' := Aside0.mk H
     clear H
     have p305 : 0 ≤ (x24_2 : Int) := ODz
     have q305 : x24_2 < (l0_1.length : Int) := ODz
     obtain ⟨ad305, A305_1, c305_1, e305, hx305_0, hx305_1, hl305_1, hi305_1⟩ := at_T117 HR0_1.out x24_2 p305 q305
     cases e305
     replace hx305_0 := HXz HB hx305_0
     replace hx305_1 := HXz HB hx305_1
     have HR305_1 := Aside0.mk hi305_1
     have HC305_1 := Aside0.mk hl305_1
     clear hi305_1 hl305_1
     replace p305 := eq_true p305
     replace q305 := eq_true q305
     try go_wp2_with (first | ((with_reducible refine gate_dst (N := 4) rfl ?_); (try (refine gate_guard (by rfl) ?_; dsimp only)); refine box_event ?hg (N := 4) ?hd (cs := #[.string (⟨#[]⟩ : ByteArray), .slice none 0 0]) (t := 117) ?hr ?_; (case hd => rfl); (case hg => rfl); (case hr => first | (go_simp; done) | (go_simp; rfl)); intro gb306 hg w25 hbox hb; have n0_ := BBz BK303 hb; have n1_ := Aside0.mk (below_step (HBb GE303) hb); have n2_ := Aside0.mk (hbox); have n3_ := BSz w hg (HBb GE303); have n4_ := BSz w hg (HBb GE303); have n5_ := BNz BK303 hg; have n6_ := BMz BK303 hg; clear BK303; clear HB; have BK303 := n0_; have HB := n1_; have BK306 := n2_; have GW306 := n3_; have GE306 := n4_; have NB303_306 := n5_; have NB306_303 := n6_; clear n0_ n1_ n2_ n3_ n4_ n5_ n6_; clear hb hbox hg; have hnb26 := NB306_303.out; have hnc26 := NB303_306.out; have hcz27_0 := C1z BK306; have hcz27_1 := C2z BK306; have hfz27_0 := blk_frozen BK306.out 0; have hfz27_1 := blk_frozen BK306.out 1))
     have n0_ : Aside0 (((w25.setCell ⟨gb306, 0, none⟩ (.string ((rd_T117 l0_1 x24_2).f0))).setCell ⟨gb306, 1, none⟩ (.slice A305_1 ((rd_T117 l0_1 x24_2).f1).length c305_1)).heap[gb303]? = some (.cells #[.slice A0_0 l0_0.length c0_0, .slice (some ad305) l0_1.length c0_1] 51 (0, 0))) := ⟨by (with_reducible repeat first | apply blk_drewN | apply blk_drew | apply blk_alloc); refine blk_far ?_ NB303_306.out _; (with_reducible repeat first | apply blk_drewN | apply blk_drew | apply blk_alloc); refine blk_far ?_ NB303_306.out _; (with_reducible repeat first | apply blk_drewN | apply blk_drew | apply blk_alloc); exact BK303.out⟩
     have n1_ : Aside0 (((w25.setCell ⟨gb306, 0, none⟩ (.string ((rd_T117 l0_1 x24_2).f0))).setCell ⟨gb306, 1, none⟩ (.slice A305_1 ((rd_T117 l0_1 x24_2).f1).length c305_1)).heap[gb306]? = some (.cells #[.string ((rd_T117 l0_1 x24_2).f0), .slice A305_1 ((rd_T117 l0_1 x24_2).f1).length c305_1] 117 (0, 0))) := ⟨by (with_reducible repeat first | apply blk_drewN | apply blk_drew | apply blk_alloc); refine blk_put (cs := #[.string ((rd_T117 l0_1 x24_2).f0), .slice none 0 0]) ?_ 1 _ (by first | rfl | (simp only [← hji21]; first | rfl | (simp; done))); (with_reducible repeat first | apply blk_drewN | apply blk_drew | apply blk_alloc); refine blk_put (cs := #[.string (⟨#[]⟩ : ByteArray), .slice none 0 0]) ?_ 0 _ (by first | rfl | (simp only [← hji21]; first | rfl | (simp; done))); (with_reducible repeat first | apply blk_drewN | apply blk_drew | apply blk_alloc); exact BK306.out⟩
     have n2_ : Aside0 (Below w.heap.size w ((w25.setCell ⟨gb306, 0, none⟩ (.string ((rd_T117 l0_1 x24_2).f0))).setCell ⟨gb306, 1, none⟩ (.slice A305_1 ((rd_T117 l0_1 x24_2).f1).length c305_1))) := ⟨by repeat (first | (with_reducible first | exact HB.out | apply below_alloc | apply pw_below_drewN | apply below_drew1 | refine below_set ?_ GE303.out | refine below_set ?_ GE306.out) | exact HB.out)⟩
     (try clear BK303)
     (try clear BK306)
     (try clear HB)
     generalize ((w25.setCell ⟨gb306, 0, none⟩ (.string ((rd_T117 l0_1 x24_2).f0))).setCell ⟨gb306, 1, none⟩ (.slice A305_1 ((rd_T117 l0_1 x24_2).f1).length c305_1)) = w28 at n0_ n1_ n2_ ⊢
     have BK303 := n0_
     have BK306 := n1_
     have HB := n2_
     clear n0_ n1_ n2_
     have n0_ := Aside0.mk (blk_drew BK303.out)
     have n1_ := Aside0.mk (blk_drew BK306.out)
     have n2_ := Aside0.mk (below_drew1 HB.out)
     clear BK303
     clear BK306
     clear HB
     have BK303 := n0_
     have BK306 := n1_
     have HB := n2_
     clear n0_ n1_ n2_
     have p308 : 0 ≤ ((ji21) : Int) := ODz
     have q308 : (ji21) < (l0_1.length : Int) := ODz
     obtain ⟨ad308, A308_1, c308_1, e308, hx308_0, hx308_1, hl308_1, hi308_1⟩ := at_T117 HR0_1.out (ji21) p308 q308
     have hw308_1 := hx308_1
     have hw308_0 := hx308_0
     obtain rfl : ad305 = ad308 := (by injection e308)
     replace hx308_0 := HXz HB hx308_0
     replace hx308_1 := HXz HB hx308_1
     have HR308_1 := Aside0.mk hi308_1
     have HC308_1 := Aside0.mk hl308_1
     clear hi308_1 hl308_1
     replace p308 := eq_true p308
     replace q308 := eq_true q308
     refine start_ (n := 19) (S := fun w' => w'.cell? ⟨gb306, 0, none⟩ = some (.string ((rd_T117 l0_1 x24_2).f0)) ∧ w'.cell? ⟨gb306, 1, none⟩ = some (.slice A305_1 ((rd_T117 l0_1 x24_2).f1).length c305_1) ∧ w'.cell? ⟨gb303, 0, none⟩ = some (.slice A0_0 l0_0.length c0_0) ∧ w'.cell? ⟨gb303, 1, none⟩ = some (.slice (some ad305) l0_1.length c0_1) ∧ w'.cell? (ad305.add (((ji21)).toNat * 2)) = some (.string ((rd_T117 l0_1 (ji21)).f0)) ∧ w'.cell? ⟨(ad305.add (((ji21)).toNat * 2)).block, (ad305.add (((ji21)).toNat * 2)).off + 1, none⟩ = some (.slice A308_1 ((rd_T117 l0_1 (ji21)).f1).length c308_1)) (ds := []) (bz 19 0) (by kernel_rfl) rfl (by kernel_rfl) ⟨(blk_cell BK306.out 0).trans rfl, (blk_cell BK306.out 1).trans rfl, (blk_cell BK303.out 0).trans rfl, (blk_cell BK303.out 1).trans rfl, (HXz HB hw308_0 :), (HXz HB hw308_1 :)⟩ (fun hHeld => ?_); refine with_tabW Gf.tab6 Gf.bits6 (fun HT_ HW_ => ?_)
     generalize w28.drew = w29 at BK303 BK306 HB HR308_1 hx308_0 hx308_1 hHeld ⊢
     refine PTz 0 29 (bz 19 1) rfl rfl (take_ofW HT_.out HW_.out (by kernel_rfl)) hHeld ?_
     refine one_ (i := 1) (N := some 30) (bz 19 3) rfl rfl (one_of HT_.out (by kernel_rfl)) (by decide) (fun K hK => ?_)
     refine goes_ Tryz.func107 (by kernel_rfl) rfl #[.agg #[.string ((rd_T117 l0_1 x24_2).f0), .slice A305_1 ((rd_T117 l0_1 x24_2).f1).length c305_1]] (by rfl) rfl rfl MPz ?_
     with_reducible refine (Gu.calls k2 ((rd_T117 l0_1 x24_2).f0) _ _ ((rd_T117 l0_1 x24_2).f1) true _ ?side1 ?side2 A18.out).mono ?_
     (case side1 => exact KCz (Kd.C_below HR305_1.out HB.out))
     (case side2 => exact HC305_1.out)
     rintro e w30 ⟨rfl, hb⟩
     refine ⟨_, rfl, ?_⟩
     have n0_ := BBz BK303 hb
     have n1_ := BBz BK306 hb
     have n2_ := Aside0.mk (below_step (HBc GE303 GE306) hb)
     clear BK303
     clear BK306
     clear HB
     have BK303 := n0_
     have BK306 := n1_
     have HB := n2_
     clear n0_ n1_ n2_
     (try clear hb)
     (try clear hb2)
     (try clear hk)
     (try clear hi)
     refine hK.out _ _ ⟨(blk_cell BK306.out 0).trans rfl, (blk_cell BK306.out 1).trans rfl, (blk_cell BK303.out 0).trans rfl, (blk_cell BK303.out 1).trans rfl, (HXz HB hw308_0 :), (HXz HB hw308_1 :)⟩ (fun hHeld => ?_)
     clear hK K
     refine norm_ (a' := ?_) ?_ ?_
     rotate_left
     ·show Act.put _ (some 30) _ = _
      simp only [PUz]
      rfl
     refine PYz 2 31 (bz 19 7) rfl rfl (any_of HT_.out (by kernel_rfl)) ?_
     refine PYz 3 32 (bz 19 15) rfl rfl (any_of HT_.out (by kernel_rfl)) ?_
     refine PYz 4 33 (bz 19 31) rfl rfl (any_of HT_.out (by kernel_rfl)) ?_
     refine PYz 5 34 (bz 19 63) rfl rfl (any_of HT_.out (by kernel_rfl)) ?_
     refine PYz 6 35 (bz 19 127) rfl rfl (any_of HT_.out (by kernel_rfl)) ?_
     refine PYz 7 36 (bz 19 255) rfl rfl (any_of HT_.out (by kernel_rfl)) ?_
     refine PYz 9 38 (bz 19 767) rfl rfl (any_of HT_.out (by kernel_rfl)) ?_
     refine PYz 10 39 (bz 19 1791) rfl rfl (any_of HT_.out (by kernel_rfl)) ?_
     refine PYz 14 43 (bz 19 18175) rfl rfl (any_of HT_.out (by kernel_rfl)) ?_
     refine PTz 8 37 (bz 19 18431) rfl rfl (take_ofW HT_.out HW_.out (by kernel_rfl)) hHeld ?_
     refine PYz 11 40 (bz 19 20479) rfl rfl (any_of HT_.out (by kernel_rfl)) ?_
     refine PYz 12 41 (bz 19 24575) rfl rfl (any_of HT_.out (by kernel_rfl)) ?_
     refine PTz 13 42 (bz 19 32767) rfl rfl (take_ofW HT_.out HW_.out (by kernel_rfl)) hHeld ?_
     refine PTz 15 44 (bz 19 65535) rfl rfl (take_ofW HT_.out HW_.out (by kernel_rfl)) hHeld ?_
     refine PYz 16 45 (bz 19 131071) rfl rfl (any_of HT_.out (by kernel_rfl)) ?_
     refine PYz 17 46 (bz 19 262143) rfl rfl (any_of HT_.out (by kernel_rfl)) ?_
     refine PYz 18 47 (bz 19 524287) rfl rfl (any_of HT_.out (by kernel_rfl)) ?_
     refine done_ (done_of HT_.out (by kernel_rfl)) ?_
     try go_wp2
     go_roundg k2
     case measure => have := HJ1.out; have := HK2.out; omega
     case rel => exact ⟨(wrap64 (x24_2 + 1)), EZc, H', ⟨by have := HJ1.out; have := HK2.out; omega⟩, ⟨by (with_reducible repeat first | apply blk_drewN | apply blk_drew | apply blk_alloc); exact BK303.out⟩, ⟨by repeat (first | (with_reducible first | exact HB.out | apply below_alloc | apply pw_below_drewN | apply below_drew1 | refine below_set ?_ GE303.out | refine below_set ?_ GE306.out) | exact HB.out)⟩⟩
def Gh.f (a0 : ByteArray) : Option (Bool) := (Gj.f a0).bind fun t309 => (some (!t309))
theorem Gh.calls (a0 : ByteArray) (r : Bool) (w : World) (h : Gh.f a0 = some r) :
  Calls Tryz.prog 72 #[.string a0] w fun e w' => e = .returned (.bool r) ∧ Below w.heap.size w w' := by
 have HB := Aside0.mk (Below.refl w.heap.size w)
 have H : ((Gj.f a0).bind fun t309 => (some (!t309))) = some r := h
 clear h
 replace H := Option.bind_eq_some_iff.mp H
 obtain ⟨t309, A20, H⟩ := H
 replace H : (some (!t309)) = some r := H
 have A2 := Aside0.mk A20
 clear A20
 obtain rfl := Option.some.inj H
 clear H
 go_enter Tryz.func72, Tryz.ntmps72
 go_wp2_with (first | ((with_reducible refine gate_callee (f := 59) rfl ?_); refine goesL_ (some 4) rfl rfl Tryz.func59 (by kernel_rfl) rfl #[.string a0] rfl MPz ?_; (with_reducible refine (Gj.calls a0 t309 _ A2.out).mono ?_); rintro e w3 ⟨rfl, hb⟩; refine ⟨_, rfl, ?_⟩; have n0_ := Aside0.mk (below_step HBa hb); clear HB; have HB := n0_; clear n0_; (try clear hb); (try clear hb2); (try clear hk); (try clear hi)))
 go_ret
 exact ⟨EZa, HBa⟩
def Gg.ix1 : List ByteArray → Int → Option Int
 | [], _ => some (-1)
 | x :: xs, i => (Gh.f x).bind fun b => if b = true then some i else Gg.ix1 xs (i + 1)
def Gg.clo2 (k : Nat) (l : List (S57)) (who : ByteArray) (dn : List (S96)) (t : ByteArray) : Option Bool := (Gm.f k l who dn t 2).bind fun b => some (!b)
def Gg.ix2 (k : Nat) (l : List (S57)) (who : ByteArray) (dn : List (S96)) : List ByteArray → Int → Option Int
 | [], _ => some (-1)
 | x :: xs, i => (Gg.clo2 k l who dn x).bind fun b => if b = true then some i else Gg.ix2 k l who dn xs (i + 1)
def Gg.f (k : Nat) (l0 : List (S57)) (a1 : ByteArray) (l2_0 : List (S96)) (l2_1 : List (S117)) (l3 : List ByteArray) : Option (Bool) :=
 (Gw.f l3).bind fun t0 => if t0 = true then some false else (Ga.f k l0).bind fun t1 => if t1 = true then ((Gf.f k l2_0 l2_1).bind fun t2 => if t2 = true then ((Gj.f a1).bind fun t3 => if t3 = true then ((Gg.ix1 l3 0).bind fun t4 => if 0 ≤ t4 then some false else (Gg.ix2 k l0 a1 l2_0 l3 0).bind fun t5 => some (!(decide (0 ≤ t5)))) else some false) else some false) else some false
theorem Gg.mono_ix2 (k : Nat) (l : List (S57)) (who : ByteArray) (dn : List (S96)) : ∀ (xs : List ByteArray) (i : Int), LeO (Gg.ix2 k l who dn xs i) (Gg.ix2 (k + 1) l who dn xs i)
 | [], _ => LeO.refl _
 | x :: xs, i => LeO.bind (LeO.bind (Gm.mono _ _ _ _ _ _) (fun _ => LeO.refl _)) (fun b => LeO.ite (LeO.refl _) (Gg.mono_ix2 k l who dn xs (i + 1)))
theorem Gg.mono : ∀ a0 a1 a2_0 a2_1 a3 k, LeO (Gg.f k a0 a1 a2_0 a2_1 a3) (Gg.f (k + 1) a0 a1 a2_0 a2_1 a3) := fun _ _ _ _ _ _ => LeO.bind (LeO.refl _) (fun _ => LeO.ite (LeO.refl _) (LeO.bind (Ga.mono _ _) (fun _ => LeO.ite (LeO.bind (Gf.mono _ _ _) (fun _ => LeO.ite (LeO.bind (LeO.refl _) (fun _ => LeO.ite (LeO.bind (LeO.refl _) (fun _ => LeO.ite (LeO.refl _) (LeO.bind (Gg.mono_ix2 _ _ _ _ _ _) (fun _ => LeO.refl _)))) (LeO.refl _))) (LeO.refl _))) (LeO.refl _))))
theorem Gg.clo_calls (k : Nat) (nl nw ne : Nat) (Al : Option Addr) (cl : Nat) (l : List (S57)) (who : ByteArray) (Ad : Option Addr) (cd : Nat) (dn : List (S96)) (t : ByteArray) (r : Bool) (w : World) (hl : w.cell? ⟨nl, 0, none⟩ = some (.slice Al l.length cl)) (hw : w.cell? ⟨nw, 0, none⟩ = some (.string who)) (hd : w.cell? ⟨ne, 0, none⟩ = some (.slice Ad dn.length cd)) (hrl : Kd.C k57 w Al l.length l) (hcl : l.length ≤ cl) (hrd : Kd.C k96 w Ad dn.length dn) (hcd : dn.length ≤ cd) (h : Gg.clo2 k l who dn t = some r) :
  Calls Tryz.prog 73 #[.string t, .pointer (some ⟨nl, 0, none⟩), .pointer (some ⟨nw, 0, none⟩), .pointer (some ⟨ne, 0, none⟩)] w fun e w' => e = .returned (.bool r) ∧ Below w.heap.size w w' := by
 have hu := Tryz.underlying51
 have HL := Aside0.mk hl
 have HW := Aside0.mk hw
 have HD := Aside0.mk hd
 have HRL := Aside0.mk hrl
 have HCL := Aside0.mk hcl
 have HRD := Aside0.mk hrd
 have HCD := Aside0.mk hcd
 have HB := Aside0.mk (Below.refl w.heap.size w)
 unfold Gg.clo2 at h
 obtain ⟨b, A50, h⟩ := Option.bind_eq_some_iff.1 h
 obtain rfl := Option.some.inj h
 have A5 := Aside0.mk A50
 clear A50 hrl hcl hrd hcd
 go_enter Tryz.func73, Tryz.ntmps73
 go_wp2_with (go_at_call 62; (with_reducible refine (Gm.calls k _ _ l who _ _ dn t 2 b _ ?s0 HCL.out ?s1 HCD.out A5.out).mono ?_); (case s0 => exact KCz (Kd.C_below HRL.out HB.out)); (case s1 => exact KCz (Kd.C_below HRD.out HB.out)); rintro e w9 ⟨rfl, hb⟩; have n9_ := Aside0.mk (below_step HB.out hb); clear HB; have HB := n9_; clear n9_; clear hb)
 go_ret
 exact ⟨by first | rfl | (simp; done) | (simp [*]; done), HBa⟩
theorem Gg.index1 (k : Nat)  (A0 : Option Addr) (c0 : Nat) (l0 : List ByteArray) (r : Int) (w : World)  (hr0 : Kd.C Kd.string w A0 l0.length l0) (h : Gg.ix1 l0 0 = some r) :
  Calls Tryz.prog 108 #[.slice A0 l0.length c0, .func (.func 72) #[] #[]] w fun e w' => e = .returned (.int .i64 r) ∧ Below w.heap.size w w' := by
 have HR0 := Aside0.mk hr0
 clear hr0 
 have HB := Aside0.mk (Below.refl w.heap.size w)
 have H' := Aside0.mk h
 clear h
 go_enter Tryz.func108, Tryz.ntmps108
 go_wp2
 go_loopg [8] l0.length (fun kq v8 w' => ∃ j : Nat, v8 = .int .i64 (j : Int) ∧ Aside0 (Gg.ix1 (l0.drop j) (j : Int) = some r) ∧ Aside0 (l0.length - j ≤ kq) ∧ Aside0 (Below w.heap.size w w'))
 case atStart => exact ⟨0, rfl, H', ⟨by omega⟩, HB⟩
 case round =>
  clear H'
  obtain ⟨j, rfl, HA, HK, HB⟩ := hrel
  by_cases c1 : (j : Int) < (l0.length : Int)
  rotate_left
  ·have c1b0 := decide_eq_false c1
   have c1b1 : decide (j < l0.length) = false := decide_eq_false (by omega)
   have H := HA.out
   rw [List.drop_of_length_le (by omega)] at H
   simp only [Gg.ix1] at H
   obtain rfl := Option.some.inj H
   clear c1
   go_wp2
   go_ret
   exact ⟨rfl, HB.out⟩
  have c1b0 := decide_eq_true c1
  have c1b1 : decide (j < l0.length) = true := decide_eq_true (by omega)
  have H := HA.out
  clear HA
  have hj : j < l0.length := by omega
  have p1 : 0 ≤ (j : Int) := by omega
  obtain ⟨ad1, e1, hx1⟩ := Kd.at_string HR0.out (j : Int) p1 c1
  cases e1
  replace hx1 := HXz HB hx1
  simp only [Int.toNat_natCast] at hx1
  have hel : l0.drop j = rdOf ByteArray.empty l0 (j : Int) :: l0.drop (j + 1) := by
   rw [List.drop_eq_getElem_cons hj]
   congr 1
   unfold rdOf
   rw [List.getD_eq_getElem?_getD, show (j : Int).toNat = j from rfl, List.getElem?_eq_getElem hj]; rfl
  rw [hel] at H
  simp only [Gg.ix1] at H
  obtain ⟨b, Ab0, H⟩ := Option.bind_eq_some_iff.1 H
  have Ab := Aside0.mk Ab0
  clear Ab0 hel
  have c1i := eq_true c1
  cases b with
  | false =>
   simp only [Bool.false_eq_true, if_false] at H
   have HN := Aside0.mk H
   clear H
   have HJ := Aside0.mk hj
   clear hj c1
   go_wp2_with (go_at_call 72; (with_reducible refine (Gh.calls _ false _ Ab.out).mono ?_); rintro e w5 ⟨rfl, hb⟩; first | (have n9_ := Aside0.mk (below_step HB.out hb); clear HB; have HB := n9_; clear n9_) | (obtain ⟨nd, rfl⟩ := hb; have n9_ := Aside0.mk (pw_below_drewN HB.out nd); clear HB; have HB := n9_; clear n9_); clear hb)
   go_roundg (l0.length - (j + 1))
   case measure => have := HK.out; have := HJ.out; omega
   case rel => exact ⟨j + 1, by have hb := HR0.out.2.1; have := HJ.out; first | rfl | go_num | (congr 1; unfold wrap64; omega), by have h2 := HN.out; rw [show (j : Int) + 1 = ((j + 1 : Nat) : Int) by omega] at h2; exact ⟨h2⟩, ⟨Nat.le_refl _⟩, HB⟩
  | true =>
   simp only [if_true] at H
   obtain rfl := Option.some.inj H
   clear hj c1
   go_wp2_with (go_at_call 72; (with_reducible refine (Gh.calls _ true _ Ab.out).mono ?_); rintro e w5 ⟨rfl, hb⟩; first | (have n9_ := Aside0.mk (below_step HB.out hb); clear HB; have HB := n9_; clear n9_) | (obtain ⟨nd, rfl⟩ := hb; have n9_ := Aside0.mk (pw_below_drewN HB.out nd); clear HB; have HB := n9_; clear n9_); clear hb)
   go_ret
   exact ⟨rfl, HB.out⟩
theorem Gg.index1c (k : Nat)  (A0 : Option Addr) (c0 : Nat) (l0 : List ByteArray) (r : Int) (w : World)  (hr0 : Kd.C Kd.string w A0 l0.length l0) (h : Gg.ix1 l0 0 = some r) :
  Calls Tryz.prog 71 #[.slice A0 l0.length c0, .func (.func 72) #[] #[]] w fun e w' => e = .returned (.bool (decide (0 ≤ r))) ∧ Below w.heap.size w w' := by
 have hc := Gg.index1 k  A0 c0 l0 r w  hr0 h
 clear hr0 h 
 go_enter Tryz.func71, Tryz.ntmps71
 go_wp2_with (go_at_call 108; refine hc.mono ?_; rintro e w' ⟨rfl, hb⟩)
 go_ret
 exact ⟨rfl, hb⟩
theorem Gg.index2 (k : Nat) (nl nw ne : Nat) (Al : Option Addr) (cl : Nat) (l : List (S57)) (who : ByteArray) (Ad : Option Addr) (cd : Nat) (dn : List (S96)) (A0 : Option Addr) (c0 : Nat) (l0 : List ByteArray) (r : Int) (w : World) (hl : w.cell? ⟨nl, 0, none⟩ = some (.slice Al l.length cl)) (hw : w.cell? ⟨nw, 0, none⟩ = some (.string who)) (hd : w.cell? ⟨ne, 0, none⟩ = some (.slice Ad dn.length cd)) (hrl : Kd.C k57 w Al l.length l) (hcl : l.length ≤ cl) (hrd : Kd.C k96 w Ad dn.length dn) (hcd : dn.length ≤ cd) (hr0 : Kd.C Kd.string w A0 l0.length l0) (h : Gg.ix2 k l who dn l0 0 = some r) :
  Calls Tryz.prog 108 #[.slice A0 l0.length c0, .func (.func 73) #[] #[.pointer (some ⟨nl, 0, none⟩), .pointer (some ⟨nw, 0, none⟩), .pointer (some ⟨ne, 0, none⟩)]] w fun e w' => e = .returned (.int .i64 r) ∧ Below w.heap.size w w' := by
 have HR0 := Aside0.mk hr0
 have HL := Aside0.mk hl
 have HW := Aside0.mk hw
 have HD := Aside0.mk hd
 have HRL := Aside0.mk hrl
 have HCL := Aside0.mk hcl
 have HRD := Aside0.mk hrd
 have HCD := Aside0.mk hcd
 clear hr0 hl hw hd hrl hcl hrd hcd
 have HB := Aside0.mk (Below.refl w.heap.size w)
 have H' := Aside0.mk h
 clear h
 go_enter Tryz.func108, Tryz.ntmps108
 go_wp2
 go_loopg [8] l0.length (fun kq v8 w' => ∃ j : Nat, v8 = .int .i64 (j : Int) ∧ Aside0 (Gg.ix2 k l who dn (l0.drop j) (j : Int) = some r) ∧ Aside0 (l0.length - j ≤ kq) ∧ Aside0 (Below w.heap.size w w'))
 case atStart => exact ⟨0, rfl, H', ⟨by omega⟩, HB⟩
 case round =>
  clear H'
  obtain ⟨j, rfl, HA, HK, HB⟩ := hrel
  by_cases c1 : (j : Int) < (l0.length : Int)
  rotate_left
  ·have c1b0 := decide_eq_false c1
   have c1b1 : decide (j < l0.length) = false := decide_eq_false (by omega)
   have H := HA.out
   rw [List.drop_of_length_le (by omega)] at H
   simp only [Gg.ix2] at H
   obtain rfl := Option.some.inj H
   clear c1
   go_wp2
   go_ret
   exact ⟨rfl, HB.out⟩
  have c1b0 := decide_eq_true c1
  have c1b1 : decide (j < l0.length) = true := decide_eq_true (by omega)
  have H := HA.out
  clear HA
  have hj : j < l0.length := by omega
  have p1 : 0 ≤ (j : Int) := by omega
  obtain ⟨ad1, e1, hx1⟩ := Kd.at_string HR0.out (j : Int) p1 c1
  cases e1
  replace hx1 := HXz HB hx1
  simp only [Int.toNat_natCast] at hx1
  have hel : l0.drop j = rdOf ByteArray.empty l0 (j : Int) :: l0.drop (j + 1) := by
   rw [List.drop_eq_getElem_cons hj]
   congr 1
   unfold rdOf
   rw [List.getD_eq_getElem?_getD, show (j : Int).toNat = j from rfl, List.getElem?_eq_getElem hj]; rfl
  rw [hel] at H
  simp only [Gg.ix2] at H
  obtain ⟨b, Ab0, H⟩ := Option.bind_eq_some_iff.1 H
  have Ab := Aside0.mk Ab0
  clear Ab0 hel
  have c1i := eq_true c1
  cases b with
  | false =>
   simp only [Bool.false_eq_true, if_false] at H
   have HN := Aside0.mk H
   clear H
   have HJ := Aside0.mk hj
   clear hj c1
   go_wp2_with (go_at_call 73; (with_reducible refine (Gg.clo_calls k nl nw ne Al cl l who Ad cd dn _ false _ ?sl ?sw ?sd ?s0 HCL.out ?s1 HCD.out Ab.out).mono ?_); (case sl => exact (HB.out.cell (World.block_lt_of_cell? w _ HL.out)).trans HL.out); (case sw => exact (HB.out.cell (World.block_lt_of_cell? w _ HW.out)).trans HW.out); (case sd => exact (HB.out.cell (World.block_lt_of_cell? w _ HD.out)).trans HD.out); (case s0 => exact KCz (Kd.C_below HRL.out HB.out)); (case s1 => exact KCz (Kd.C_below HRD.out HB.out)); rintro e w5 ⟨rfl, hb⟩; have n9_ := Aside0.mk (below_step HB.out hb); clear HB; have HB := n9_; clear n9_; clear hb)
   go_roundg (l0.length - (j + 1))
   case measure => have := HK.out; have := HJ.out; omega
   case rel => exact ⟨j + 1, by have hb := HR0.out.2.1; have := HJ.out; first | rfl | go_num | (congr 1; unfold wrap64; omega), by have h2 := HN.out; rw [show (j : Int) + 1 = ((j + 1 : Nat) : Int) by omega] at h2; exact ⟨h2⟩, ⟨Nat.le_refl _⟩, HB⟩
  | true =>
   simp only [if_true] at H
   obtain rfl := Option.some.inj H
   clear hj c1
   go_wp2_with (go_at_call 73; (with_reducible refine (Gg.clo_calls k nl nw ne Al cl l who Ad cd dn _ true _ ?sl ?sw ?sd ?s0 HCL.out ?s1 HCD.out Ab.out).mono ?_); (case sl => exact (HB.out.cell (World.block_lt_of_cell? w _ HL.out)).trans HL.out); (case sw => exact (HB.out.cell (World.block_lt_of_cell? w _ HW.out)).trans HW.out); (case sd => exact (HB.out.cell (World.block_lt_of_cell? w _ HD.out)).trans HD.out); (case s0 => exact KCz (Kd.C_below HRL.out HB.out)); (case s1 => exact KCz (Kd.C_below HRD.out HB.out)); rintro e w5 ⟨rfl, hb⟩; have n9_ := Aside0.mk (below_step HB.out hb); clear HB; have HB := n9_; clear n9_; clear hb)
   go_ret
   exact ⟨rfl, HB.out⟩
theorem Gg.index2c (k : Nat) (nl nw ne : Nat) (Al : Option Addr) (cl : Nat) (l : List (S57)) (who : ByteArray) (Ad : Option Addr) (cd : Nat) (dn : List (S96)) (A0 : Option Addr) (c0 : Nat) (l0 : List ByteArray) (r : Int) (w : World) (hl : w.cell? ⟨nl, 0, none⟩ = some (.slice Al l.length cl)) (hw : w.cell? ⟨nw, 0, none⟩ = some (.string who)) (hd : w.cell? ⟨ne, 0, none⟩ = some (.slice Ad dn.length cd)) (hrl : Kd.C k57 w Al l.length l) (hcl : l.length ≤ cl) (hrd : Kd.C k96 w Ad dn.length dn) (hcd : dn.length ≤ cd) (hr0 : Kd.C Kd.string w A0 l0.length l0) (h : Gg.ix2 k l who dn l0 0 = some r) :
  Calls Tryz.prog 71 #[.slice A0 l0.length c0, .func (.func 73) #[] #[.pointer (some ⟨nl, 0, none⟩), .pointer (some ⟨nw, 0, none⟩), .pointer (some ⟨ne, 0, none⟩)]] w fun e w' => e = .returned (.bool (decide (0 ≤ r))) ∧ Below w.heap.size w w' := by
 have hc := Gg.index2 k nl nw ne Al cl l who Ad cd dn A0 c0 l0 r w hl hw hd hrl hcl hrd hcd hr0 h
 clear hr0 h hl hw hd hrl hcl hrd hcd
 go_enter Tryz.func71, Tryz.ntmps71
 go_wp2_with (go_at_call 108; refine hc.mono ?_; rintro e w' ⟨rfl, hb⟩)
 go_ret
 exact ⟨rfl, hb⟩
theorem Gg.calls (k : Nat) (A0 : Option Addr) (c0 : Nat) (l0 : List (S57)) (a1 : ByteArray) (A2_0 : Option Addr) (c2_0 : Nat) (l2_0 : List (S96)) (A2_1 : Option Addr) (c2_1 : Nat) (l2_1 : List (S117)) (A3 : Option Addr) (c3 : Nat) (l3 : List ByteArray) (r : Bool) (w : World) (hr0 : Kd.C k57 w A0 l0.length l0) (hc0 : l0.length ≤ c0) (hr2_0 : Kd.C k96 w A2_0 l2_0.length l2_0) (hc2_0 : l2_0.length ≤ c2_0) (hr2_1 : Kd.C k117 w A2_1 l2_1.length l2_1) (hc2_1 : l2_1.length ≤ c2_1) (hr3 : Kd.C Kd.string w A3 l3.length l3) (hc3 : l3.length ≤ c3) (h : Gg.f k l0 a1 l2_0 l2_1 l3 = some r) :
  Calls Tryz.prog 32 #[.slice A0 l0.length c0, .string a1, .agg #[.slice A2_0 l2_0.length c2_0, .slice A2_1 l2_1.length c2_1], .slice A3 l3.length c3] w fun e w' => e = .returned (.bool r) ∧ Below w.heap.size w w' := by
 have hu := Tryz.underlying51
 have HR0 := Aside0.mk hr0
 clear hr0
 have HC0 := Aside0.mk hc0
 clear hc0
 have HR20 := Aside0.mk hr2_0
 clear hr2_0
 have HC20 := Aside0.mk hc2_0
 clear hc2_0
 have HR21 := Aside0.mk hr2_1
 clear hr2_1
 have HC21 := Aside0.mk hc2_1
 clear hc2_1
 have HR3 := Aside0.mk hr3
 clear hr3
 have HC3 := Aside0.mk hc3
 clear hc3
 have HB := Aside0.mk (Below.refl w.heap.size w)
 unfold Gg.f at h
 obtain ⟨t0, A0_0, h⟩ := Option.bind_eq_some_iff.1 h
 have A0_ := Aside0.mk A0_0
 clear A0_0
 cases t0 with
 | true =>
  rw [if_pos rfl] at h
  obtain rfl := Option.some.inj h
  clear h
  go_enter Tryz.func32, Tryz.ntmps32
  go_wp2_with (first | ((with_reducible refine gate_dst (N := 4) rfl ?_); (try (refine gate_guard (by rfl) ?_; dsimp only)); refine box_event ?hg (N := 4) ?hd (cs := #[.slice A0 l0.length c0]) (t := 43) ?hr ?_; (case hd => rfl); (case hg => rfl); (case hr => first | (go_simp; done) | (go_simp; rfl)); intro gl hg w3 hbox hb; have Ggl := Aside0.mk ((by rw [hg]; exact (below_size HB.out)) : w.heap.size ≤ gl); have n9_ := Aside0.mk (below_step HB.out hb); clear HB; have HB := n9_; clear n9_; have Bgl := Aside0.mk hbox; clear hb hbox hg; have hcglw30 := C1z Bgl; have hfglw30 := blk_frozen Bgl.out 0) | ((with_reducible refine gate_dst (N := 5) rfl ?_); (try (refine gate_guard (by rfl) ?_; dsimp only)); refine box_event ?hg (N := 5) ?hd (cs := #[.string a1]) (t := 9) ?hr ?_; (case hd => rfl); (case hg => rfl); (case hr => first | (go_simp; done) | (go_simp; rfl)); intro gw hg w4 hbox hb; have Ggw := Aside0.mk ((by rw [hg]; exact (below_size HB.out)) : w.heap.size ≤ gw); have Ngl_gw := Aside0.mk ((by rw [hg]; exact Nat.ne_of_lt (blk_lt (g := gl) (o := .cells #[.slice A0 l0.length c0] 43 (0, 0)) Bgl.out)) : gl ≠ gw); have n0_ := Aside0.mk (blk_below (g := gl) (o := .cells #[.slice A0 l0.length c0] 43 (0, 0)) Bgl.out hb); clear Bgl; have Bgl := n0_; clear n0_; have n9_ := Aside0.mk (below_step HB.out hb); clear HB; have HB := n9_; clear n9_; have Bgw := Aside0.mk hbox; clear hb hbox hg; have hcglw40 := C1z Bgl; have hfglw40 := blk_frozen Bgl.out 0; have hcgww40 := C1z Bgw; have hfgww40 := blk_frozen Bgw.out 0) | ((with_reducible refine gate_dst (N := 6) rfl ?_); (try (refine gate_guard (by rfl) ?_; dsimp only)); refine box_event ?hg (N := 6) ?hd (cs := #[.slice A2_0 l2_0.length c2_0, .slice A2_1 l2_1.length c2_1]) (t := 51) ?hr ?_; (case hd => rfl); (case hg => rfl); (case hr => first | (go_simp; done) | (go_simp; rfl)); intro ge hg w5 hbox hb; have Gge := Aside0.mk ((by rw [hg]; exact (below_size HB.out)) : w.heap.size ≤ ge); have Ngl_ge := Aside0.mk ((by rw [hg]; exact Nat.ne_of_lt (blk_lt (g := gl) (o := .cells #[.slice A0 l0.length c0] 43 (0, 0)) Bgl.out)) : gl ≠ ge); have n0_ := Aside0.mk (blk_below (g := gl) (o := .cells #[.slice A0 l0.length c0] 43 (0, 0)) Bgl.out hb); clear Bgl; have Bgl := n0_; clear n0_; have Ngw_ge := Aside0.mk ((by rw [hg]; exact Nat.ne_of_lt (blk_lt (g := gw) (o := .cells #[.string a1] 9 (0, 0)) Bgw.out)) : gw ≠ ge); have n1_ := Aside0.mk (blk_below (g := gw) (o := .cells #[.string a1] 9 (0, 0)) Bgw.out hb); clear Bgw; have Bgw := n1_; clear n1_; have n9_ := Aside0.mk (below_step HB.out hb); clear HB; have HB := n9_; clear n9_; have Bge := Aside0.mk hbox; clear hb hbox hg; have hcglw50 := C1z Bgl; have hfglw50 := blk_frozen Bgl.out 0; have hcgww50 := C1z Bgw; have hfgww50 := blk_frozen Bgw.out 0; have hcgew50 := C1z Bge; have hfgew50 := blk_frozen Bge.out 0; have hcgew51 := C2z Bge; have hfgew51 := blk_frozen Bge.out 1) | (go_at_call 69; (with_reducible refine (Gw.calls _ _ l3 true _ ?s0 HC3.out A0_.out).mono ?_); (case s0 => exact KCz (Kd.C_below HR3.out HB.out)); rintro e w9 ⟨rfl, ⟨nd, rfl⟩⟩; have n0_ := Aside0.mk (blk_drewN Bgl.out nd); clear Bgl; have Bgl := n0_; clear n0_; have n1_ := Aside0.mk (blk_drewN Bgw.out nd); clear Bgw; have Bgw := n1_; clear n1_; have n2_ := Aside0.mk (blk_drewN Bge.out nd); clear Bge; have Bge := n2_; clear n2_; have n9_ := Aside0.mk (pw_below_drewN HB.out nd); clear HB; have HB := n9_; clear n9_; have hcglw90 := C1z Bgl; have hfglw90 := blk_frozen Bgl.out 0; have hcgww90 := C1z Bgw; have hfgww90 := blk_frozen Bgw.out 0; have hcgew90 := C1z Bge; have hfgew90 := blk_frozen Bge.out 0; have hcgew91 := C2z Bge; have hfgew91 := blk_frozen Bge.out 1))
  go_ret
  exact ⟨by first | rfl | (simp; done) | (simp [*]; done), HBa⟩
 | false =>
  rw [if_neg (by simp)] at h
  obtain ⟨t1, A1_0, h⟩ := Option.bind_eq_some_iff.1 h
  have A1_ := Aside0.mk A1_0
  clear A1_0
  cases t1 with
  | false =>
   rw [if_neg (by simp)] at h
   obtain rfl := Option.some.inj h
   clear h
   go_enter Tryz.func32, Tryz.ntmps32
   go_wp2_with (first | ((with_reducible refine gate_dst (N := 4) rfl ?_); (try (refine gate_guard (by rfl) ?_; dsimp only)); refine box_event ?hg (N := 4) ?hd (cs := #[.slice A0 l0.length c0]) (t := 43) ?hr ?_; (case hd => rfl); (case hg => rfl); (case hr => first | (go_simp; done) | (go_simp; rfl)); intro gl hg w3 hbox hb; have Ggl := Aside0.mk ((by rw [hg]; exact (below_size HB.out)) : w.heap.size ≤ gl); have n9_ := Aside0.mk (below_step HB.out hb); clear HB; have HB := n9_; clear n9_; have Bgl := Aside0.mk hbox; clear hb hbox hg; have hcglw30 := C1z Bgl; have hfglw30 := blk_frozen Bgl.out 0) | ((with_reducible refine gate_dst (N := 5) rfl ?_); (try (refine gate_guard (by rfl) ?_; dsimp only)); refine box_event ?hg (N := 5) ?hd (cs := #[.string a1]) (t := 9) ?hr ?_; (case hd => rfl); (case hg => rfl); (case hr => first | (go_simp; done) | (go_simp; rfl)); intro gw hg w4 hbox hb; have Ggw := Aside0.mk ((by rw [hg]; exact (below_size HB.out)) : w.heap.size ≤ gw); have Ngl_gw := Aside0.mk ((by rw [hg]; exact Nat.ne_of_lt (blk_lt (g := gl) (o := .cells #[.slice A0 l0.length c0] 43 (0, 0)) Bgl.out)) : gl ≠ gw); have n0_ := Aside0.mk (blk_below (g := gl) (o := .cells #[.slice A0 l0.length c0] 43 (0, 0)) Bgl.out hb); clear Bgl; have Bgl := n0_; clear n0_; have n9_ := Aside0.mk (below_step HB.out hb); clear HB; have HB := n9_; clear n9_; have Bgw := Aside0.mk hbox; clear hb hbox hg; have hcglw40 := C1z Bgl; have hfglw40 := blk_frozen Bgl.out 0; have hcgww40 := C1z Bgw; have hfgww40 := blk_frozen Bgw.out 0) | ((with_reducible refine gate_dst (N := 6) rfl ?_); (try (refine gate_guard (by rfl) ?_; dsimp only)); refine box_event ?hg (N := 6) ?hd (cs := #[.slice A2_0 l2_0.length c2_0, .slice A2_1 l2_1.length c2_1]) (t := 51) ?hr ?_; (case hd => rfl); (case hg => rfl); (case hr => first | (go_simp; done) | (go_simp; rfl)); intro ge hg w5 hbox hb; have Gge := Aside0.mk ((by rw [hg]; exact (below_size HB.out)) : w.heap.size ≤ ge); have Ngl_ge := Aside0.mk ((by rw [hg]; exact Nat.ne_of_lt (blk_lt (g := gl) (o := .cells #[.slice A0 l0.length c0] 43 (0, 0)) Bgl.out)) : gl ≠ ge); have n0_ := Aside0.mk (blk_below (g := gl) (o := .cells #[.slice A0 l0.length c0] 43 (0, 0)) Bgl.out hb); clear Bgl; have Bgl := n0_; clear n0_; have Ngw_ge := Aside0.mk ((by rw [hg]; exact Nat.ne_of_lt (blk_lt (g := gw) (o := .cells #[.string a1] 9 (0, 0)) Bgw.out)) : gw ≠ ge); have n1_ := Aside0.mk (blk_below (g := gw) (o := .cells #[.string a1] 9 (0, 0)) Bgw.out hb); clear Bgw; have Bgw := n1_; clear n1_; have n9_ := Aside0.mk (below_step HB.out hb); clear HB; have HB := n9_; clear n9_; have Bge := Aside0.mk hbox; clear hb hbox hg; have hcglw50 := C1z Bgl; have hfglw50 := blk_frozen Bgl.out 0; have hcgww50 := C1z Bgw; have hfgww50 := blk_frozen Bgw.out 0; have hcgew50 := C1z Bge; have hfgew50 := blk_frozen Bge.out 0; have hcgew51 := C2z Bge; have hfgew51 := blk_frozen Bge.out 1) | (go_at_call 69; (with_reducible refine (Gw.calls _ _ l3 false _ ?s0 HC3.out A0_.out).mono ?_); (case s0 => exact KCz (Kd.C_below HR3.out HB.out)); rintro e w9 ⟨rfl, ⟨nd, rfl⟩⟩; have n0_ := Aside0.mk (blk_drewN Bgl.out nd); clear Bgl; have Bgl := n0_; clear n0_; have n1_ := Aside0.mk (blk_drewN Bgw.out nd); clear Bgw; have Bgw := n1_; clear n1_; have n2_ := Aside0.mk (blk_drewN Bge.out nd); clear Bge; have Bge := n2_; clear n2_; have n9_ := Aside0.mk (pw_below_drewN HB.out nd); clear HB; have HB := n9_; clear n9_; have hcglw90 := C1z Bgl; have hfglw90 := blk_frozen Bgl.out 0; have hcgww90 := C1z Bgw; have hfgww90 := blk_frozen Bgw.out 0; have hcgew90 := C1z Bge; have hfgew90 := blk_frozen Bge.out 0; have hcgew91 := C2z Bge; have hfgew91 := blk_frozen Bge.out 1) | (go_at_call 29; (with_reducible refine (Ga.calls k _ _ l0 false _ ?s0 HC0.out A1_.out).mono ?_); (case s0 => exact KCz (Kd.C_below HR0.out HB.out)); rintro e w10 ⟨rfl, hb⟩; have n0_ := Aside0.mk (blk_below (g := gl) (o := .cells #[.slice A0 l0.length c0] 43 (0, 0)) Bgl.out hb); clear Bgl; have Bgl := n0_; clear n0_; have n1_ := Aside0.mk (blk_below (g := gw) (o := .cells #[.string a1] 9 (0, 0)) Bgw.out hb); clear Bgw; have Bgw := n1_; clear n1_; have n2_ := Aside0.mk (blk_below (g := ge) (o := .cells #[.slice A2_0 l2_0.length c2_0, .slice A2_1 l2_1.length c2_1] 51 (0, 0)) Bge.out hb); clear Bge; have Bge := n2_; clear n2_; have n9_ := Aside0.mk (below_step HB.out hb); clear HB; have HB := n9_; clear n9_; clear hb; have hcglw100 := C1z Bgl; have hfglw100 := blk_frozen Bgl.out 0; have hcgww100 := C1z Bgw; have hfgww100 := blk_frozen Bgw.out 0; have hcgew100 := C1z Bge; have hfgew100 := blk_frozen Bge.out 0; have hcgew101 := C2z Bge; have hfgew101 := blk_frozen Bge.out 1))
   go_ret
   exact ⟨by first | rfl | (simp; done) | (simp [*]; done), HBa⟩
  | true =>
   rw [if_pos rfl] at h
   obtain ⟨t2, A2_0, h⟩ := Option.bind_eq_some_iff.1 h
   have A2_ := Aside0.mk A2_0
   clear A2_0
   cases t2 with
   | false =>
    rw [if_neg (by simp)] at h
    obtain rfl := Option.some.inj h
    clear h
    go_enter Tryz.func32, Tryz.ntmps32
    go_wp2_with (first | ((with_reducible refine gate_dst (N := 4) rfl ?_); (try (refine gate_guard (by rfl) ?_; dsimp only)); refine box_event ?hg (N := 4) ?hd (cs := #[.slice A0 l0.length c0]) (t := 43) ?hr ?_; (case hd => rfl); (case hg => rfl); (case hr => first | (go_simp; done) | (go_simp; rfl)); intro gl hg w3 hbox hb; have Ggl := Aside0.mk ((by rw [hg]; exact (below_size HB.out)) : w.heap.size ≤ gl); have n9_ := Aside0.mk (below_step HB.out hb); clear HB; have HB := n9_; clear n9_; have Bgl := Aside0.mk hbox; clear hb hbox hg; have hcglw30 := C1z Bgl; have hfglw30 := blk_frozen Bgl.out 0) | ((with_reducible refine gate_dst (N := 5) rfl ?_); (try (refine gate_guard (by rfl) ?_; dsimp only)); refine box_event ?hg (N := 5) ?hd (cs := #[.string a1]) (t := 9) ?hr ?_; (case hd => rfl); (case hg => rfl); (case hr => first | (go_simp; done) | (go_simp; rfl)); intro gw hg w4 hbox hb; have Ggw := Aside0.mk ((by rw [hg]; exact (below_size HB.out)) : w.heap.size ≤ gw); have Ngl_gw := Aside0.mk ((by rw [hg]; exact Nat.ne_of_lt (blk_lt (g := gl) (o := .cells #[.slice A0 l0.length c0] 43 (0, 0)) Bgl.out)) : gl ≠ gw); have n0_ := Aside0.mk (blk_below (g := gl) (o := .cells #[.slice A0 l0.length c0] 43 (0, 0)) Bgl.out hb); clear Bgl; have Bgl := n0_; clear n0_; have n9_ := Aside0.mk (below_step HB.out hb); clear HB; have HB := n9_; clear n9_; have Bgw := Aside0.mk hbox; clear hb hbox hg; have hcglw40 := C1z Bgl; have hfglw40 := blk_frozen Bgl.out 0; have hcgww40 := C1z Bgw; have hfgww40 := blk_frozen Bgw.out 0) | ((with_reducible refine gate_dst (N := 6) rfl ?_); (try (refine gate_guard (by rfl) ?_; dsimp only)); refine box_event ?hg (N := 6) ?hd (cs := #[.slice A2_0 l2_0.length c2_0, .slice A2_1 l2_1.length c2_1]) (t := 51) ?hr ?_; (case hd => rfl); (case hg => rfl); (case hr => first | (go_simp; done) | (go_simp; rfl)); intro ge hg w5 hbox hb; have Gge := Aside0.mk ((by rw [hg]; exact (below_size HB.out)) : w.heap.size ≤ ge); have Ngl_ge := Aside0.mk ((by rw [hg]; exact Nat.ne_of_lt (blk_lt (g := gl) (o := .cells #[.slice A0 l0.length c0] 43 (0, 0)) Bgl.out)) : gl ≠ ge); have n0_ := Aside0.mk (blk_below (g := gl) (o := .cells #[.slice A0 l0.length c0] 43 (0, 0)) Bgl.out hb); clear Bgl; have Bgl := n0_; clear n0_; have Ngw_ge := Aside0.mk ((by rw [hg]; exact Nat.ne_of_lt (blk_lt (g := gw) (o := .cells #[.string a1] 9 (0, 0)) Bgw.out)) : gw ≠ ge); have n1_ := Aside0.mk (blk_below (g := gw) (o := .cells #[.string a1] 9 (0, 0)) Bgw.out hb); clear Bgw; have Bgw := n1_; clear n1_; have n9_ := Aside0.mk (below_step HB.out hb); clear HB; have HB := n9_; clear n9_; have Bge := Aside0.mk hbox; clear hb hbox hg; have hcglw50 := C1z Bgl; have hfglw50 := blk_frozen Bgl.out 0; have hcgww50 := C1z Bgw; have hfgww50 := blk_frozen Bgw.out 0; have hcgew50 := C1z Bge; have hfgew50 := blk_frozen Bge.out 0; have hcgew51 := C2z Bge; have hfgew51 := blk_frozen Bge.out 1) | (go_at_call 69; (with_reducible refine (Gw.calls _ _ l3 false _ ?s0 HC3.out A0_.out).mono ?_); (case s0 => exact KCz (Kd.C_below HR3.out HB.out)); rintro e w9 ⟨rfl, ⟨nd, rfl⟩⟩; have n0_ := Aside0.mk (blk_drewN Bgl.out nd); clear Bgl; have Bgl := n0_; clear n0_; have n1_ := Aside0.mk (blk_drewN Bgw.out nd); clear Bgw; have Bgw := n1_; clear n1_; have n2_ := Aside0.mk (blk_drewN Bge.out nd); clear Bge; have Bge := n2_; clear n2_; have n9_ := Aside0.mk (pw_below_drewN HB.out nd); clear HB; have HB := n9_; clear n9_; have hcglw90 := C1z Bgl; have hfglw90 := blk_frozen Bgl.out 0; have hcgww90 := C1z Bgw; have hfgww90 := blk_frozen Bgw.out 0; have hcgew90 := C1z Bge; have hfgew90 := blk_frozen Bge.out 0; have hcgew91 := C2z Bge; have hfgew91 := blk_frozen Bge.out 1) | (go_at_call 29; (with_reducible refine (Ga.calls k _ _ l0 true _ ?s0 HC0.out A1_.out).mono ?_); (case s0 => exact KCz (Kd.C_below HR0.out HB.out)); rintro e w10 ⟨rfl, hb⟩; have n0_ := Aside0.mk (blk_below (g := gl) (o := .cells #[.slice A0 l0.length c0] 43 (0, 0)) Bgl.out hb); clear Bgl; have Bgl := n0_; clear n0_; have n1_ := Aside0.mk (blk_below (g := gw) (o := .cells #[.string a1] 9 (0, 0)) Bgw.out hb); clear Bgw; have Bgw := n1_; clear n1_; have n2_ := Aside0.mk (blk_below (g := ge) (o := .cells #[.slice A2_0 l2_0.length c2_0, .slice A2_1 l2_1.length c2_1] 51 (0, 0)) Bge.out hb); clear Bge; have Bge := n2_; clear n2_; have n9_ := Aside0.mk (below_step HB.out hb); clear HB; have HB := n9_; clear n9_; clear hb; have hcglw100 := C1z Bgl; have hfglw100 := blk_frozen Bgl.out 0; have hcgww100 := C1z Bgw; have hfgww100 := blk_frozen Bgw.out 0; have hcgew100 := C1z Bge; have hfgew100 := blk_frozen Bge.out 0; have hcgew101 := C2z Bge; have hfgew101 := blk_frozen Bge.out 1) | (go_at_call 70; (with_reducible refine (Gf.calls k _ _ l2_0 _ _ l2_1 false _ ?s0 HC20.out ?s1 HC21.out A2_.out).mono ?_); (case s0 => exact KCz (Kd.C_below HR20.out HB.out)); (case s1 => exact KCz (Kd.C_below HR21.out HB.out)); rintro e w11 ⟨rfl, hb⟩; have n0_ := Aside0.mk (blk_below (g := gl) (o := .cells #[.slice A0 l0.length c0] 43 (0, 0)) Bgl.out hb); clear Bgl; have Bgl := n0_; clear n0_; have n1_ := Aside0.mk (blk_below (g := gw) (o := .cells #[.string a1] 9 (0, 0)) Bgw.out hb); clear Bgw; have Bgw := n1_; clear n1_; have n2_ := Aside0.mk (blk_below (g := ge) (o := .cells #[.slice A2_0 l2_0.length c2_0, .slice A2_1 l2_1.length c2_1] 51 (0, 0)) Bge.out hb); clear Bge; have Bge := n2_; clear n2_; have n9_ := Aside0.mk (below_step HB.out hb); clear HB; have HB := n9_; clear n9_; clear hb; have hcglw110 := C1z Bgl; have hfglw110 := blk_frozen Bgl.out 0; have hcgww110 := C1z Bgw; have hfgww110 := blk_frozen Bgw.out 0; have hcgew110 := C1z Bge; have hfgew110 := blk_frozen Bge.out 0; have hcgew111 := C2z Bge; have hfgew111 := blk_frozen Bge.out 1))
    go_ret
    exact ⟨by first | rfl | (simp; done) | (simp [*]; done), HBa⟩
   | true =>
    rw [if_pos rfl] at h
    obtain ⟨t3, A3_0, h⟩ := Option.bind_eq_some_iff.1 h
    have A3_ := Aside0.mk A3_0
    clear A3_0
    cases t3 with
    | false =>
     rw [if_neg (by simp)] at h
     obtain rfl := Option.some.inj h
     clear h
     go_enter Tryz.func32, Tryz.ntmps32
     go_wp2_with (first | ((with_reducible refine gate_dst (N := 4) rfl ?_); (try (refine gate_guard (by rfl) ?_; dsimp only)); refine box_event ?hg (N := 4) ?hd (cs := #[.slice A0 l0.length c0]) (t := 43) ?hr ?_; (case hd => rfl); (case hg => rfl); (case hr => first | (go_simp; done) | (go_simp; rfl)); intro gl hg w3 hbox hb; have Ggl := Aside0.mk ((by rw [hg]; exact (below_size HB.out)) : w.heap.size ≤ gl); have n9_ := Aside0.mk (below_step HB.out hb); clear HB; have HB := n9_; clear n9_; have Bgl := Aside0.mk hbox; clear hb hbox hg; have hcglw30 := C1z Bgl; have hfglw30 := blk_frozen Bgl.out 0) | ((with_reducible refine gate_dst (N := 5) rfl ?_); (try (refine gate_guard (by rfl) ?_; dsimp only)); refine box_event ?hg (N := 5) ?hd (cs := #[.string a1]) (t := 9) ?hr ?_; (case hd => rfl); (case hg => rfl); (case hr => first | (go_simp; done) | (go_simp; rfl)); intro gw hg w4 hbox hb; have Ggw := Aside0.mk ((by rw [hg]; exact (below_size HB.out)) : w.heap.size ≤ gw); have Ngl_gw := Aside0.mk ((by rw [hg]; exact Nat.ne_of_lt (blk_lt (g := gl) (o := .cells #[.slice A0 l0.length c0] 43 (0, 0)) Bgl.out)) : gl ≠ gw); have n0_ := Aside0.mk (blk_below (g := gl) (o := .cells #[.slice A0 l0.length c0] 43 (0, 0)) Bgl.out hb); clear Bgl; have Bgl := n0_; clear n0_; have n9_ := Aside0.mk (below_step HB.out hb); clear HB; have HB := n9_; clear n9_; have Bgw := Aside0.mk hbox; clear hb hbox hg; have hcglw40 := C1z Bgl; have hfglw40 := blk_frozen Bgl.out 0; have hcgww40 := C1z Bgw; have hfgww40 := blk_frozen Bgw.out 0) | ((with_reducible refine gate_dst (N := 6) rfl ?_); (try (refine gate_guard (by rfl) ?_; dsimp only)); refine box_event ?hg (N := 6) ?hd (cs := #[.slice A2_0 l2_0.length c2_0, .slice A2_1 l2_1.length c2_1]) (t := 51) ?hr ?_; (case hd => rfl); (case hg => rfl); (case hr => first | (go_simp; done) | (go_simp; rfl)); intro ge hg w5 hbox hb; have Gge := Aside0.mk ((by rw [hg]; exact (below_size HB.out)) : w.heap.size ≤ ge); have Ngl_ge := Aside0.mk ((by rw [hg]; exact Nat.ne_of_lt (blk_lt (g := gl) (o := .cells #[.slice A0 l0.length c0] 43 (0, 0)) Bgl.out)) : gl ≠ ge); have n0_ := Aside0.mk (blk_below (g := gl) (o := .cells #[.slice A0 l0.length c0] 43 (0, 0)) Bgl.out hb); clear Bgl; have Bgl := n0_; clear n0_; have Ngw_ge := Aside0.mk ((by rw [hg]; exact Nat.ne_of_lt (blk_lt (g := gw) (o := .cells #[.string a1] 9 (0, 0)) Bgw.out)) : gw ≠ ge); have n1_ := Aside0.mk (blk_below (g := gw) (o := .cells #[.string a1] 9 (0, 0)) Bgw.out hb); clear Bgw; have Bgw := n1_; clear n1_; have n9_ := Aside0.mk (below_step HB.out hb); clear HB; have HB := n9_; clear n9_; have Bge := Aside0.mk hbox; clear hb hbox hg; have hcglw50 := C1z Bgl; have hfglw50 := blk_frozen Bgl.out 0; have hcgww50 := C1z Bgw; have hfgww50 := blk_frozen Bgw.out 0; have hcgew50 := C1z Bge; have hfgew50 := blk_frozen Bge.out 0; have hcgew51 := C2z Bge; have hfgew51 := blk_frozen Bge.out 1) | (go_at_call 69; (with_reducible refine (Gw.calls _ _ l3 false _ ?s0 HC3.out A0_.out).mono ?_); (case s0 => exact KCz (Kd.C_below HR3.out HB.out)); rintro e w9 ⟨rfl, ⟨nd, rfl⟩⟩; have n0_ := Aside0.mk (blk_drewN Bgl.out nd); clear Bgl; have Bgl := n0_; clear n0_; have n1_ := Aside0.mk (blk_drewN Bgw.out nd); clear Bgw; have Bgw := n1_; clear n1_; have n2_ := Aside0.mk (blk_drewN Bge.out nd); clear Bge; have Bge := n2_; clear n2_; have n9_ := Aside0.mk (pw_below_drewN HB.out nd); clear HB; have HB := n9_; clear n9_; have hcglw90 := C1z Bgl; have hfglw90 := blk_frozen Bgl.out 0; have hcgww90 := C1z Bgw; have hfgww90 := blk_frozen Bgw.out 0; have hcgew90 := C1z Bge; have hfgew90 := blk_frozen Bge.out 0; have hcgew91 := C2z Bge; have hfgew91 := blk_frozen Bge.out 1) | (go_at_call 29; (with_reducible refine (Ga.calls k _ _ l0 true _ ?s0 HC0.out A1_.out).mono ?_); (case s0 => exact KCz (Kd.C_below HR0.out HB.out)); rintro e w10 ⟨rfl, hb⟩; have n0_ := Aside0.mk (blk_below (g := gl) (o := .cells #[.slice A0 l0.length c0] 43 (0, 0)) Bgl.out hb); clear Bgl; have Bgl := n0_; clear n0_; have n1_ := Aside0.mk (blk_below (g := gw) (o := .cells #[.string a1] 9 (0, 0)) Bgw.out hb); clear Bgw; have Bgw := n1_; clear n1_; have n2_ := Aside0.mk (blk_below (g := ge) (o := .cells #[.slice A2_0 l2_0.length c2_0, .slice A2_1 l2_1.length c2_1] 51 (0, 0)) Bge.out hb); clear Bge; have Bge := n2_; clear n2_; have n9_ := Aside0.mk (below_step HB.out hb); clear HB; have HB := n9_; clear n9_; clear hb; have hcglw100 := C1z Bgl; have hfglw100 := blk_frozen Bgl.out 0; have hcgww100 := C1z Bgw; have hfgww100 := blk_frozen Bgw.out 0; have hcgew100 := C1z Bge; have hfgew100 := blk_frozen Bge.out 0; have hcgew101 := C2z Bge; have hfgew101 := blk_frozen Bge.out 1) | (go_at_call 70; (with_reducible refine (Gf.calls k _ _ l2_0 _ _ l2_1 true _ ?s0 HC20.out ?s1 HC21.out A2_.out).mono ?_); (case s0 => exact KCz (Kd.C_below HR20.out HB.out)); (case s1 => exact KCz (Kd.C_below HR21.out HB.out)); rintro e w11 ⟨rfl, hb⟩; have n0_ := Aside0.mk (blk_below (g := gl) (o := .cells #[.slice A0 l0.length c0] 43 (0, 0)) Bgl.out hb); clear Bgl; have Bgl := n0_; clear n0_; have n1_ := Aside0.mk (blk_below (g := gw) (o := .cells #[.string a1] 9 (0, 0)) Bgw.out hb); clear Bgw; have Bgw := n1_; clear n1_; have n2_ := Aside0.mk (blk_below (g := ge) (o := .cells #[.slice A2_0 l2_0.length c2_0, .slice A2_1 l2_1.length c2_1] 51 (0, 0)) Bge.out hb); clear Bge; have Bge := n2_; clear n2_; have n9_ := Aside0.mk (below_step HB.out hb); clear HB; have HB := n9_; clear n9_; clear hb; have hcglw110 := C1z Bgl; have hfglw110 := blk_frozen Bgl.out 0; have hcgww110 := C1z Bgw; have hfgww110 := blk_frozen Bgw.out 0; have hcgew110 := C1z Bge; have hfgew110 := blk_frozen Bge.out 0; have hcgew111 := C2z Bge; have hfgew111 := blk_frozen Bge.out 1) | (go_at_call 59; (with_reducible refine (Gj.calls a1 false _ A3_.out).mono ?_); rintro e w12 ⟨rfl, hb⟩; have n0_ := Aside0.mk (blk_below (g := gl) (o := .cells #[.slice A0 l0.length c0] 43 (0, 0)) Bgl.out hb); clear Bgl; have Bgl := n0_; clear n0_; have n1_ := Aside0.mk (blk_below (g := gw) (o := .cells #[.string a1] 9 (0, 0)) Bgw.out hb); clear Bgw; have Bgw := n1_; clear n1_; have n2_ := Aside0.mk (blk_below (g := ge) (o := .cells #[.slice A2_0 l2_0.length c2_0, .slice A2_1 l2_1.length c2_1] 51 (0, 0)) Bge.out hb); clear Bge; have Bge := n2_; clear n2_; have n9_ := Aside0.mk (below_step HB.out hb); clear HB; have HB := n9_; clear n9_; clear hb; have hcglw120 := C1z Bgl; have hfglw120 := blk_frozen Bgl.out 0; have hcgww120 := C1z Bgw; have hfgww120 := blk_frozen Bgw.out 0; have hcgew120 := C1z Bge; have hfgew120 := blk_frozen Bge.out 0; have hcgew121 := C2z Bge; have hfgew121 := blk_frozen Bge.out 1))
     go_ret
     exact ⟨by first | rfl | (simp; done) | (simp [*]; done), HBa⟩
    | true =>
     rw [if_pos rfl] at h
     obtain ⟨t4, A4_0, h⟩ := Option.bind_eq_some_iff.1 h
     have A4_ := Aside0.mk A4_0
     clear A4_0
     by_cases d4 : 0 ≤ t4
     ·rw [if_pos d4] at h
      have d4b : decide (0 ≤ t4) = true := decide_eq_true d4
      obtain rfl := Option.some.inj h
      clear h
      clear d4
      go_enter Tryz.func32, Tryz.ntmps32
      go_wp2_with (first | ((with_reducible refine gate_dst (N := 4) rfl ?_); (try (refine gate_guard (by rfl) ?_; dsimp only)); refine box_event ?hg (N := 4) ?hd (cs := #[.slice A0 l0.length c0]) (t := 43) ?hr ?_; (case hd => rfl); (case hg => rfl); (case hr => first | (go_simp; done) | (go_simp; rfl)); intro gl hg w3 hbox hb; have Ggl := Aside0.mk ((by rw [hg]; exact (below_size HB.out)) : w.heap.size ≤ gl); have n9_ := Aside0.mk (below_step HB.out hb); clear HB; have HB := n9_; clear n9_; have Bgl := Aside0.mk hbox; clear hb hbox hg; have hcglw30 := C1z Bgl; have hfglw30 := blk_frozen Bgl.out 0) | ((with_reducible refine gate_dst (N := 5) rfl ?_); (try (refine gate_guard (by rfl) ?_; dsimp only)); refine box_event ?hg (N := 5) ?hd (cs := #[.string a1]) (t := 9) ?hr ?_; (case hd => rfl); (case hg => rfl); (case hr => first | (go_simp; done) | (go_simp; rfl)); intro gw hg w4 hbox hb; have Ggw := Aside0.mk ((by rw [hg]; exact (below_size HB.out)) : w.heap.size ≤ gw); have Ngl_gw := Aside0.mk ((by rw [hg]; exact Nat.ne_of_lt (blk_lt (g := gl) (o := .cells #[.slice A0 l0.length c0] 43 (0, 0)) Bgl.out)) : gl ≠ gw); have n0_ := Aside0.mk (blk_below (g := gl) (o := .cells #[.slice A0 l0.length c0] 43 (0, 0)) Bgl.out hb); clear Bgl; have Bgl := n0_; clear n0_; have n9_ := Aside0.mk (below_step HB.out hb); clear HB; have HB := n9_; clear n9_; have Bgw := Aside0.mk hbox; clear hb hbox hg; have hcglw40 := C1z Bgl; have hfglw40 := blk_frozen Bgl.out 0; have hcgww40 := C1z Bgw; have hfgww40 := blk_frozen Bgw.out 0) | ((with_reducible refine gate_dst (N := 6) rfl ?_); (try (refine gate_guard (by rfl) ?_; dsimp only)); refine box_event ?hg (N := 6) ?hd (cs := #[.slice A2_0 l2_0.length c2_0, .slice A2_1 l2_1.length c2_1]) (t := 51) ?hr ?_; (case hd => rfl); (case hg => rfl); (case hr => first | (go_simp; done) | (go_simp; rfl)); intro ge hg w5 hbox hb; have Gge := Aside0.mk ((by rw [hg]; exact (below_size HB.out)) : w.heap.size ≤ ge); have Ngl_ge := Aside0.mk ((by rw [hg]; exact Nat.ne_of_lt (blk_lt (g := gl) (o := .cells #[.slice A0 l0.length c0] 43 (0, 0)) Bgl.out)) : gl ≠ ge); have n0_ := Aside0.mk (blk_below (g := gl) (o := .cells #[.slice A0 l0.length c0] 43 (0, 0)) Bgl.out hb); clear Bgl; have Bgl := n0_; clear n0_; have Ngw_ge := Aside0.mk ((by rw [hg]; exact Nat.ne_of_lt (blk_lt (g := gw) (o := .cells #[.string a1] 9 (0, 0)) Bgw.out)) : gw ≠ ge); have n1_ := Aside0.mk (blk_below (g := gw) (o := .cells #[.string a1] 9 (0, 0)) Bgw.out hb); clear Bgw; have Bgw := n1_; clear n1_; have n9_ := Aside0.mk (below_step HB.out hb); clear HB; have HB := n9_; clear n9_; have Bge := Aside0.mk hbox; clear hb hbox hg; have hcglw50 := C1z Bgl; have hfglw50 := blk_frozen Bgl.out 0; have hcgww50 := C1z Bgw; have hfgww50 := blk_frozen Bgw.out 0; have hcgew50 := C1z Bge; have hfgew50 := blk_frozen Bge.out 0; have hcgew51 := C2z Bge; have hfgew51 := blk_frozen Bge.out 1) | (go_at_call 69; (with_reducible refine (Gw.calls _ _ l3 false _ ?s0 HC3.out A0_.out).mono ?_); (case s0 => exact KCz (Kd.C_below HR3.out HB.out)); rintro e w9 ⟨rfl, ⟨nd, rfl⟩⟩; have n0_ := Aside0.mk (blk_drewN Bgl.out nd); clear Bgl; have Bgl := n0_; clear n0_; have n1_ := Aside0.mk (blk_drewN Bgw.out nd); clear Bgw; have Bgw := n1_; clear n1_; have n2_ := Aside0.mk (blk_drewN Bge.out nd); clear Bge; have Bge := n2_; clear n2_; have n9_ := Aside0.mk (pw_below_drewN HB.out nd); clear HB; have HB := n9_; clear n9_; have hcglw90 := C1z Bgl; have hfglw90 := blk_frozen Bgl.out 0; have hcgww90 := C1z Bgw; have hfgww90 := blk_frozen Bgw.out 0; have hcgew90 := C1z Bge; have hfgew90 := blk_frozen Bge.out 0; have hcgew91 := C2z Bge; have hfgew91 := blk_frozen Bge.out 1) | (go_at_call 29; (with_reducible refine (Ga.calls k _ _ l0 true _ ?s0 HC0.out A1_.out).mono ?_); (case s0 => exact KCz (Kd.C_below HR0.out HB.out)); rintro e w10 ⟨rfl, hb⟩; have n0_ := Aside0.mk (blk_below (g := gl) (o := .cells #[.slice A0 l0.length c0] 43 (0, 0)) Bgl.out hb); clear Bgl; have Bgl := n0_; clear n0_; have n1_ := Aside0.mk (blk_below (g := gw) (o := .cells #[.string a1] 9 (0, 0)) Bgw.out hb); clear Bgw; have Bgw := n1_; clear n1_; have n2_ := Aside0.mk (blk_below (g := ge) (o := .cells #[.slice A2_0 l2_0.length c2_0, .slice A2_1 l2_1.length c2_1] 51 (0, 0)) Bge.out hb); clear Bge; have Bge := n2_; clear n2_; have n9_ := Aside0.mk (below_step HB.out hb); clear HB; have HB := n9_; clear n9_; clear hb; have hcglw100 := C1z Bgl; have hfglw100 := blk_frozen Bgl.out 0; have hcgww100 := C1z Bgw; have hfgww100 := blk_frozen Bgw.out 0; have hcgew100 := C1z Bge; have hfgew100 := blk_frozen Bge.out 0; have hcgew101 := C2z Bge; have hfgew101 := blk_frozen Bge.out 1) | (go_at_call 70; (with_reducible refine (Gf.calls k _ _ l2_0 _ _ l2_1 true _ ?s0 HC20.out ?s1 HC21.out A2_.out).mono ?_); (case s0 => exact KCz (Kd.C_below HR20.out HB.out)); (case s1 => exact KCz (Kd.C_below HR21.out HB.out)); rintro e w11 ⟨rfl, hb⟩; have n0_ := Aside0.mk (blk_below (g := gl) (o := .cells #[.slice A0 l0.length c0] 43 (0, 0)) Bgl.out hb); clear Bgl; have Bgl := n0_; clear n0_; have n1_ := Aside0.mk (blk_below (g := gw) (o := .cells #[.string a1] 9 (0, 0)) Bgw.out hb); clear Bgw; have Bgw := n1_; clear n1_; have n2_ := Aside0.mk (blk_below (g := ge) (o := .cells #[.slice A2_0 l2_0.length c2_0, .slice A2_1 l2_1.length c2_1] 51 (0, 0)) Bge.out hb); clear Bge; have Bge := n2_; clear n2_; have n9_ := Aside0.mk (below_step HB.out hb); clear HB; have HB := n9_; clear n9_; clear hb; have hcglw110 := C1z Bgl; have hfglw110 := blk_frozen Bgl.out 0; have hcgww110 := C1z Bgw; have hfgww110 := blk_frozen Bgw.out 0; have hcgew110 := C1z Bge; have hfgew110 := blk_frozen Bge.out 0; have hcgew111 := C2z Bge; have hfgew111 := blk_frozen Bge.out 1) | (go_at_call 59; (with_reducible refine (Gj.calls a1 true _ A3_.out).mono ?_); rintro e w12 ⟨rfl, hb⟩; have n0_ := Aside0.mk (blk_below (g := gl) (o := .cells #[.slice A0 l0.length c0] 43 (0, 0)) Bgl.out hb); clear Bgl; have Bgl := n0_; clear n0_; have n1_ := Aside0.mk (blk_below (g := gw) (o := .cells #[.string a1] 9 (0, 0)) Bgw.out hb); clear Bgw; have Bgw := n1_; clear n1_; have n2_ := Aside0.mk (blk_below (g := ge) (o := .cells #[.slice A2_0 l2_0.length c2_0, .slice A2_1 l2_1.length c2_1] 51 (0, 0)) Bge.out hb); clear Bge; have Bge := n2_; clear n2_; have n9_ := Aside0.mk (below_step HB.out hb); clear HB; have HB := n9_; clear n9_; clear hb; have hcglw120 := C1z Bgl; have hfglw120 := blk_frozen Bgl.out 0; have hcgww120 := C1z Bgw; have hfgww120 := blk_frozen Bgw.out 0; have hcgew120 := C1z Bge; have hfgew120 := blk_frozen Bge.out 0; have hcgew121 := C2z Bge; have hfgew121 := blk_frozen Bge.out 1) | (go_at_call 71; (with_reducible refine (Gg.index1c k _ _ l3 t4 _ ?s0 A4_.out).mono ?_); (case s0 => exact KCz (Kd.C_below HR3.out HB.out)); rintro e w13 ⟨rfl, hb⟩; have n0_ := Aside0.mk (blk_below (g := gl) (o := .cells #[.slice A0 l0.length c0] 43 (0, 0)) Bgl.out hb); clear Bgl; have Bgl := n0_; clear n0_; have n1_ := Aside0.mk (blk_below (g := gw) (o := .cells #[.string a1] 9 (0, 0)) Bgw.out hb); clear Bgw; have Bgw := n1_; clear n1_; have n2_ := Aside0.mk (blk_below (g := ge) (o := .cells #[.slice A2_0 l2_0.length c2_0, .slice A2_1 l2_1.length c2_1] 51 (0, 0)) Bge.out hb); clear Bge; have Bge := n2_; clear n2_; have n9_ := Aside0.mk (below_step HB.out hb); clear HB; have HB := n9_; clear n9_; clear hb; have hcglw130 := C1z Bgl; have hfglw130 := blk_frozen Bgl.out 0; have hcgww130 := C1z Bgw; have hfgww130 := blk_frozen Bgw.out 0; have hcgew130 := C1z Bge; have hfgew130 := blk_frozen Bge.out 0; have hcgew131 := C2z Bge; have hfgew131 := blk_frozen Bge.out 1))
      go_ret
      exact ⟨by first | rfl | (simp; done) | (simp [*]; done), HBa⟩
     rw [if_neg d4] at h
     have d4b : decide (0 ≤ t4) = false := decide_eq_false d4
     clear d4
     obtain ⟨t5, A5_0, h⟩ := Option.bind_eq_some_iff.1 h
     have A5_ := Aside0.mk A5_0
     clear A5_0
     obtain rfl := Option.some.inj h
     clear h
     go_enter Tryz.func32, Tryz.ntmps32
     go_wp2_with (first | ((with_reducible refine gate_dst (N := 4) rfl ?_); (try (refine gate_guard (by rfl) ?_; dsimp only)); refine box_event ?hg (N := 4) ?hd (cs := #[.slice A0 l0.length c0]) (t := 43) ?hr ?_; (case hd => rfl); (case hg => rfl); (case hr => first | (go_simp; done) | (go_simp; rfl)); intro gl hg w3 hbox hb; have Ggl := Aside0.mk ((by rw [hg]; exact (below_size HB.out)) : w.heap.size ≤ gl); have n9_ := Aside0.mk (below_step HB.out hb); clear HB; have HB := n9_; clear n9_; have Bgl := Aside0.mk hbox; clear hb hbox hg; have hcglw30 := C1z Bgl; have hfglw30 := blk_frozen Bgl.out 0) | ((with_reducible refine gate_dst (N := 5) rfl ?_); (try (refine gate_guard (by rfl) ?_; dsimp only)); refine box_event ?hg (N := 5) ?hd (cs := #[.string a1]) (t := 9) ?hr ?_; (case hd => rfl); (case hg => rfl); (case hr => first | (go_simp; done) | (go_simp; rfl)); intro gw hg w4 hbox hb; have Ggw := Aside0.mk ((by rw [hg]; exact (below_size HB.out)) : w.heap.size ≤ gw); have Ngl_gw := Aside0.mk ((by rw [hg]; exact Nat.ne_of_lt (blk_lt (g := gl) (o := .cells #[.slice A0 l0.length c0] 43 (0, 0)) Bgl.out)) : gl ≠ gw); have n0_ := Aside0.mk (blk_below (g := gl) (o := .cells #[.slice A0 l0.length c0] 43 (0, 0)) Bgl.out hb); clear Bgl; have Bgl := n0_; clear n0_; have n9_ := Aside0.mk (below_step HB.out hb); clear HB; have HB := n9_; clear n9_; have Bgw := Aside0.mk hbox; clear hb hbox hg; have hcglw40 := C1z Bgl; have hfglw40 := blk_frozen Bgl.out 0; have hcgww40 := C1z Bgw; have hfgww40 := blk_frozen Bgw.out 0) | ((with_reducible refine gate_dst (N := 6) rfl ?_); (try (refine gate_guard (by rfl) ?_; dsimp only)); refine box_event ?hg (N := 6) ?hd (cs := #[.slice A2_0 l2_0.length c2_0, .slice A2_1 l2_1.length c2_1]) (t := 51) ?hr ?_; (case hd => rfl); (case hg => rfl); (case hr => first | (go_simp; done) | (go_simp; rfl)); intro ge hg w5 hbox hb; have Gge := Aside0.mk ((by rw [hg]; exact (below_size HB.out)) : w.heap.size ≤ ge); have Ngl_ge := Aside0.mk ((by rw [hg]; exact Nat.ne_of_lt (blk_lt (g := gl) (o := .cells #[.slice A0 l0.length c0] 43 (0, 0)) Bgl.out)) : gl ≠ ge); have n0_ := Aside0.mk (blk_below (g := gl) (o := .cells #[.slice A0 l0.length c0] 43 (0, 0)) Bgl.out hb); clear Bgl; have Bgl := n0_; clear n0_; have Ngw_ge := Aside0.mk ((by rw [hg]; exact Nat.ne_of_lt (blk_lt (g := gw) (o := .cells #[.string a1] 9 (0, 0)) Bgw.out)) : gw ≠ ge); have n1_ := Aside0.mk (blk_below (g := gw) (o := .cells #[.string a1] 9 (0, 0)) Bgw.out hb); clear Bgw; have Bgw := n1_; clear n1_; have n9_ := Aside0.mk (below_step HB.out hb); clear HB; have HB := n9_; clear n9_; have Bge := Aside0.mk hbox; clear hb hbox hg; have hcglw50 := C1z Bgl; have hfglw50 := blk_frozen Bgl.out 0; have hcgww50 := C1z Bgw; have hfgww50 := blk_frozen Bgw.out 0; have hcgew50 := C1z Bge; have hfgew50 := blk_frozen Bge.out 0; have hcgew51 := C2z Bge; have hfgew51 := blk_frozen Bge.out 1) | (go_at_call 69; (with_reducible refine (Gw.calls _ _ l3 false _ ?s0 HC3.out A0_.out).mono ?_); (case s0 => exact KCz (Kd.C_below HR3.out HB.out)); rintro e w9 ⟨rfl, ⟨nd, rfl⟩⟩; have n0_ := Aside0.mk (blk_drewN Bgl.out nd); clear Bgl; have Bgl := n0_; clear n0_; have n1_ := Aside0.mk (blk_drewN Bgw.out nd); clear Bgw; have Bgw := n1_; clear n1_; have n2_ := Aside0.mk (blk_drewN Bge.out nd); clear Bge; have Bge := n2_; clear n2_; have n9_ := Aside0.mk (pw_below_drewN HB.out nd); clear HB; have HB := n9_; clear n9_; have hcglw90 := C1z Bgl; have hfglw90 := blk_frozen Bgl.out 0; have hcgww90 := C1z Bgw; have hfgww90 := blk_frozen Bgw.out 0; have hcgew90 := C1z Bge; have hfgew90 := blk_frozen Bge.out 0; have hcgew91 := C2z Bge; have hfgew91 := blk_frozen Bge.out 1) | (go_at_call 29; (with_reducible refine (Ga.calls k _ _ l0 true _ ?s0 HC0.out A1_.out).mono ?_); (case s0 => exact KCz (Kd.C_below HR0.out HB.out)); rintro e w10 ⟨rfl, hb⟩; have n0_ := Aside0.mk (blk_below (g := gl) (o := .cells #[.slice A0 l0.length c0] 43 (0, 0)) Bgl.out hb); clear Bgl; have Bgl := n0_; clear n0_; have n1_ := Aside0.mk (blk_below (g := gw) (o := .cells #[.string a1] 9 (0, 0)) Bgw.out hb); clear Bgw; have Bgw := n1_; clear n1_; have n2_ := Aside0.mk (blk_below (g := ge) (o := .cells #[.slice A2_0 l2_0.length c2_0, .slice A2_1 l2_1.length c2_1] 51 (0, 0)) Bge.out hb); clear Bge; have Bge := n2_; clear n2_; have n9_ := Aside0.mk (below_step HB.out hb); clear HB; have HB := n9_; clear n9_; clear hb; have hcglw100 := C1z Bgl; have hfglw100 := blk_frozen Bgl.out 0; have hcgww100 := C1z Bgw; have hfgww100 := blk_frozen Bgw.out 0; have hcgew100 := C1z Bge; have hfgew100 := blk_frozen Bge.out 0; have hcgew101 := C2z Bge; have hfgew101 := blk_frozen Bge.out 1) | (go_at_call 70; (with_reducible refine (Gf.calls k _ _ l2_0 _ _ l2_1 true _ ?s0 HC20.out ?s1 HC21.out A2_.out).mono ?_); (case s0 => exact KCz (Kd.C_below HR20.out HB.out)); (case s1 => exact KCz (Kd.C_below HR21.out HB.out)); rintro e w11 ⟨rfl, hb⟩; have n0_ := Aside0.mk (blk_below (g := gl) (o := .cells #[.slice A0 l0.length c0] 43 (0, 0)) Bgl.out hb); clear Bgl; have Bgl := n0_; clear n0_; have n1_ := Aside0.mk (blk_below (g := gw) (o := .cells #[.string a1] 9 (0, 0)) Bgw.out hb); clear Bgw; have Bgw := n1_; clear n1_; have n2_ := Aside0.mk (blk_below (g := ge) (o := .cells #[.slice A2_0 l2_0.length c2_0, .slice A2_1 l2_1.length c2_1] 51 (0, 0)) Bge.out hb); clear Bge; have Bge := n2_; clear n2_; have n9_ := Aside0.mk (below_step HB.out hb); clear HB; have HB := n9_; clear n9_; clear hb; have hcglw110 := C1z Bgl; have hfglw110 := blk_frozen Bgl.out 0; have hcgww110 := C1z Bgw; have hfgww110 := blk_frozen Bgw.out 0; have hcgew110 := C1z Bge; have hfgew110 := blk_frozen Bge.out 0; have hcgew111 := C2z Bge; have hfgew111 := blk_frozen Bge.out 1) | (go_at_call 59; (with_reducible refine (Gj.calls a1 true _ A3_.out).mono ?_); rintro e w12 ⟨rfl, hb⟩; have n0_ := Aside0.mk (blk_below (g := gl) (o := .cells #[.slice A0 l0.length c0] 43 (0, 0)) Bgl.out hb); clear Bgl; have Bgl := n0_; clear n0_; have n1_ := Aside0.mk (blk_below (g := gw) (o := .cells #[.string a1] 9 (0, 0)) Bgw.out hb); clear Bgw; have Bgw := n1_; clear n1_; have n2_ := Aside0.mk (blk_below (g := ge) (o := .cells #[.slice A2_0 l2_0.length c2_0, .slice A2_1 l2_1.length c2_1] 51 (0, 0)) Bge.out hb); clear Bge; have Bge := n2_; clear n2_; have n9_ := Aside0.mk (below_step HB.out hb); clear HB; have HB := n9_; clear n9_; clear hb; have hcglw120 := C1z Bgl; have hfglw120 := blk_frozen Bgl.out 0; have hcgww120 := C1z Bgw; have hfgww120 := blk_frozen Bgw.out 0; have hcgew120 := C1z Bge; have hfgew120 := blk_frozen Bge.out 0; have hcgew121 := C2z Bge; have hfgew121 := blk_frozen Bge.out 1) | (go_at_call 71; (with_reducible refine (Gg.index1c k _ _ l3 t4 _ ?s0 A4_.out).mono ?_); (case s0 => exact KCz (Kd.C_below HR3.out HB.out)); rintro e w13 ⟨rfl, hb⟩; have n0_ := Aside0.mk (blk_below (g := gl) (o := .cells #[.slice A0 l0.length c0] 43 (0, 0)) Bgl.out hb); clear Bgl; have Bgl := n0_; clear n0_; have n1_ := Aside0.mk (blk_below (g := gw) (o := .cells #[.string a1] 9 (0, 0)) Bgw.out hb); clear Bgw; have Bgw := n1_; clear n1_; have n2_ := Aside0.mk (blk_below (g := ge) (o := .cells #[.slice A2_0 l2_0.length c2_0, .slice A2_1 l2_1.length c2_1] 51 (0, 0)) Bge.out hb); clear Bge; have Bge := n2_; clear n2_; have n9_ := Aside0.mk (below_step HB.out hb); clear HB; have HB := n9_; clear n9_; clear hb; have hcglw130 := C1z Bgl; have hfglw130 := blk_frozen Bgl.out 0; have hcgww130 := C1z Bgw; have hfgww130 := blk_frozen Bgw.out 0; have hcgew130 := C1z Bge; have hfgew130 := blk_frozen Bge.out 0; have hcgew131 := C2z Bge; have hfgew131 := blk_frozen Bge.out 1) | (go_at_call 71; (with_reducible refine (Gg.index2c k gl gw ge A0 c0 l0 a1 A2_0 c2_0 l2_0 _ _ l3 t5 _ ?sl ?sw ?sd ?s0 HC0.out ?s1 HC20.out ?s2 A5_.out).mono ?_); (case sl => exact (blk_cell Bgl.out 0).trans rfl); (case sw => exact (blk_cell Bgw.out 0).trans rfl); (case sd => exact (blk_cell Bge.out 0).trans rfl); (case s0 => exact KCz (Kd.C_below HR0.out HB.out)); (case s1 => exact KCz (Kd.C_below HR20.out HB.out)); (case s2 => exact KCz (Kd.C_below HR3.out HB.out)); rintro e w14 ⟨rfl, hb⟩; have n0_ := Aside0.mk (blk_below (g := gl) (o := .cells #[.slice A0 l0.length c0] 43 (0, 0)) Bgl.out hb); clear Bgl; have Bgl := n0_; clear n0_; have n1_ := Aside0.mk (blk_below (g := gw) (o := .cells #[.string a1] 9 (0, 0)) Bgw.out hb); clear Bgw; have Bgw := n1_; clear n1_; have n2_ := Aside0.mk (blk_below (g := ge) (o := .cells #[.slice A2_0 l2_0.length c2_0, .slice A2_1 l2_1.length c2_1] 51 (0, 0)) Bge.out hb); clear Bge; have Bge := n2_; clear n2_; have n9_ := Aside0.mk (below_step HB.out hb); clear HB; have HB := n9_; clear n9_; clear hb; have hcglw140 := C1z Bgl; have hfglw140 := blk_frozen Bgl.out 0; have hcgww140 := C1z Bgw; have hfgww140 := blk_frozen Bgw.out 0; have hcgew140 := C1z Bge; have hfgew140 := blk_frozen Bge.out 0; have hcgew141 := C2z Bge; have hfgew141 := blk_frozen Bge.out 1))
     go_ret
     exact ⟨by first | rfl | (simp; done) | (simp [*]; done), HBa⟩
mutual
def Qp.j0 : Nat → List (S57) → ByteArray → List ByteArray → Bool → List (S96) → List (S117) → Option (Bool)
 | 0, _, _, _, _, _, _ => none
 | k + 1, x0, x1, x3, x38, x311000, x311001 => if x38 = true then (some false) else (Qp.l0 k x0 x1 x3 true 0 x311000 x311001)
def Qp.l0 : Nat → List (S57) → ByteArray → List ByteArray → Bool → Int → List (S96) → List (S117) → Option (Bool)
 | 0, _, _, _, _, _, _, _ => none
 | k + 1, x0, x1, x3, x9, x10, x311000, x311001 => if x10 < (x3.length : Int) then (if 0 ≤ x10 then ((Qq.f k (rdOf ByteArray.empty x3 x10)).bind fun t315 => (if t315 = true then (if x9 = true then ((Vm.f k x0 x1 x311000 (rdOf ByteArray.empty x3 x10) 2).bind fun t317 => (Qp.l0 k x0 x1 x3 t317 (wrap64 (x10 + 1)) x311000 x311001)) else (Qp.l0 k x0 x1 x3 false (wrap64 (x10 + 1)) x311000 x311001)) else (some false))) else (none)) else (some x9)
end
def Qp.f (k : Nat) (l0 : List (S57)) (a1 : ByteArray) (l2_0 : List (S96)) (l2_1 : List (S117)) (l3 : List ByteArray) : Option (Bool) := if (l0.length : Int) > 400 then (Qp.j0 k l0 a1 l3 true l2_0 l2_1) else (if (a1.size : Int) > 8000 then (Qp.j0 k l0 a1 l3 true l2_0 l2_1) else (if (l3.length : Int) > 400 then (Qp.j0 k l0 a1 l3 true l2_0 l2_1) else ((Qh.f k l0).bind fun t311 => (if t311 = true then ((Qq.f k a1).bind fun t312 => (if t312 = true then ((Qn.f k l2_0 l2_1).bind fun t313 => (Qp.j0 k l0 a1 l3 (!t313) l2_0 l2_1)) else (Qp.j0 k l0 a1 l3 true l2_0 l2_1))) else (Qp.j0 k l0 a1 l3 true l2_0 l2_1)))))
theorem Qp.mono_l : ∀ k, (∀ y0 y1 y2 y3 y4 y5, LeO (Qp.j0 k y0 y1 y2 y3 y4 y5) (Qp.j0 (k + 1) y0 y1 y2 y3 y4 y5)) ∧ (∀ y0 y1 y2 y3 y4 y5 y6, LeO (Qp.l0 k y0 y1 y2 y3 y4 y5 y6) (Qp.l0 (k + 1) y0 y1 y2 y3 y4 y5 y6))
 | 0 => ⟨fun _ _ _ _ _ _ r h => by simp [Qp.j0] at h, fun _ _ _ _ _ _ _ r h => by simp [Qp.l0] at h⟩
 | k + 1 => by
  obtain ⟨ih0, ih1⟩ := Qp.mono_l k
  refine ⟨?_, ?_⟩
  ·intro y0 y1 y2 y3 y4 y5
   unfold Qp.j0
   with_reducible repeat' first | exact ih0 _ _ _ _ _ _ | exact ih1 _ _ _ _ _ _ _ | exact Qh.mono _ _ | exact Qn.mono _ _ _ | exact Qq.mono _ _ | exact Vm.mono _ _ _ _ _ _ | exact LeO.refl _ | exact LeO.none _ | refine LeO.ite ?_ ?_ | refine LeO.bind ?_ (fun _ => ?_)
  ·intro y0 y1 y2 y3 y4 y5 y6
   unfold Qp.l0
   with_reducible repeat' first | exact ih0 _ _ _ _ _ _ | exact ih1 _ _ _ _ _ _ _ | exact Qh.mono _ _ | exact Qn.mono _ _ _ | exact Qq.mono _ _ | exact Vm.mono _ _ _ _ _ _ | exact LeO.refl _ | exact LeO.none _ | refine LeO.ite ?_ ?_ | refine LeO.bind ?_ (fun _ => ?_)
theorem Qp.mono : ∀ a0 a1 a2 a3 a4 k, LeO (Qp.f k a0 a1 a2 a3 a4) (Qp.f (k + 1) a0 a1 a2 a3 a4) := by
 intro a0 a1 a2 a3 a4 k
 obtain ⟨ih0, ih1⟩ := Qp.mono_l k
 unfold Qp.f
 with_reducible repeat' first | exact ih0 _ _ _ _ _ _ | exact ih1 _ _ _ _ _ _ _ | exact Qh.mono _ _ | exact Qn.mono _ _ _ | exact Qq.mono _ _ | exact Vm.mono _ _ _ _ _ _ | exact LeO.refl _ | exact LeO.none _ | refine LeO.ite ?_ ?_ | refine LeO.bind ?_ (fun _ => ?_)
def Qp.T9 : Bool × List (List Nat × List Nat) := (true, [([], []), ([0], [0]), ([1], [1]), ([1], [1]), ([1], [1]), ([4, 1], [1, 4]), ([1], [1]), ([1], [1]), ([6, 7, 1], [1, 6, 7]), ([8, 1], [1, 8]), ([2, 3, 5, 9, 1, 1], [1, 2, 3, 5, 9]), ([1, 10], [1, 10]), ([11, 10, 0, 1, 2, 3, 4, 5, 6, 7, 8, 9, 10, 11], [0, 11])])
def Qp.B9 : List Nat := [0, 1, 3, 3, 3, 19, 3, 3, 195, 451, 1023, 2047, 4095]
theorem Qp.tab9 : rtab .any (opsOf Tryz.f33 9) = Qp.T9 := by kernel_rfl
theorem Qp.bits9 : waitsOk Qp.T9.2 Qp.B9 = true := by kernel_rfl
theorem Qp.calls (k : Nat) (A0 : Option Addr) (c0 : Nat) (l0 : List (S57)) (a1 : ByteArray) (A2_0 : Option Addr) (c2_0 : Nat) (l2_0 : List (S96)) (A2_1 : Option Addr) (c2_1 : Nat) (l2_1 : List (S117)) (A3 : Option Addr) (c3 : Nat) (l3 : List ByteArray) (r : Bool) (w : World) (hr0 : Kd.C k57 w A0 l0.length l0) (hc0 : l0.length ≤ c0) (hr2_0 : Kd.C k96 w A2_0 l2_0.length l2_0) (hc2_0 : l2_0.length ≤ c2_0) (hr2_1 : Kd.C k117 w A2_1 l2_1.length l2_1) (hc2_1 : l2_1.length ≤ c2_1) (hr3 : Kd.C Kd.string w A3 l3.length l3) (hc3 : l3.length ≤ c3) (h : Qp.f k l0 a1 l2_0 l2_1 l3 = some r) :
  Calls Tryz.prog 33 #[.slice A0 l0.length c0, .string a1, .agg #[.slice A2_0 l2_0.length c2_0, .slice A2_1 l2_1.length c2_1], .slice A3 l3.length c3] w fun e w' => e = .returned (.bool r) ∧ Below w.heap.size w w' := by
 have hu51 := Tryz.underlying51
 have HR0 := Aside0.mk hr0
 have HC0 := Aside0.mk hc0
 clear hr0 hc0
 have HR2_0 := Aside0.mk hr2_0
 have HC2_0 := Aside0.mk hc2_0
 clear hr2_0 hc2_0
 have HR2_1 := Aside0.mk hr2_1
 have HC2_1 := Aside0.mk hc2_1
 clear hr2_1 hc2_1
 have HR3 := Aside0.mk hr3
 have HC3 := Aside0.mk hc3
 clear hr3 hc3
 have HB := Aside0.mk (Below.refl w.heap.size w)
 have H : (if (l0.length : Int) > 400 then (Qp.j0 k l0 a1 l3 true l2_0 l2_1) else (if (a1.size : Int) > 8000 then (Qp.j0 k l0 a1 l3 true l2_0 l2_1) else (if (l3.length : Int) > 400 then (Qp.j0 k l0 a1 l3 true l2_0 l2_1) else ((Qh.f k l0).bind fun t311 => (if t311 = true then ((Qq.f k a1).bind fun t312 => (if t312 = true then ((Qn.f k l2_0 l2_1).bind fun t313 => (Qp.j0 k l0 a1 l3 (!t313) l2_0 l2_1)) else (Qp.j0 k l0 a1 l3 true l2_0 l2_1))) else (Qp.j0 k l0 a1 l3 true l2_0 l2_1)))))) = some r := h
 clear h
 have HC5 := Aside0.mk H
 clear H
 go_enter Tryz.func33, Tryz.ntmps33
 go_upto_region 1 with (first | ((with_reducible refine gate_dst (N := 6) rfl ?_); (try (refine gate_guard (by rfl) ?_; dsimp only)); refine box_event ?hg (N := 6) ?hd (cs := #[.slice A2_0 l2_0.length c2_0, .slice A2_1 l2_1.length c2_1]) (t := 51) ?hr ?_; (case hd => rfl); (case hg => rfl); (case hr => first | (go_simp; done) | (go_simp; rfl)); intro gb310 hg w6 hbox hb; have n0_ := Aside0.mk (below_step HBa hb); have n1_ := Aside0.mk (hbox); have n2_ := BSz w hg HBa; have n3_ := BSz w hg HBa; clear HB; have HB := n0_; have BK310 := n1_; have GW310 := n2_; have GE310 := n3_; clear n0_ n1_ n2_ n3_; clear hb hbox hg))
 (try simp only [Act.put, List.setIfInBounds_toArray, List.set_cons_zero, List.set_cons_succ])
 go_cut [38] (fun v38 wc => ∃ (kq : Nat) (x38_4 : Bool), v38 = .bool x38_4 ∧ Aside0 (Qp.j0 kq l0 a1 l3 x38_4 l2_0 l2_1 = some r) ∧ Aside0 (kq ≤ k) ∧ Aside0 (wc.heap[gb310]? = some (.cells #[(.slice A2_0 l2_0.length c2_0), (.slice A2_1 l2_1.length c2_1)] 51 (0, 0))) ∧ Aside0 (Below w.heap.size w wc))
 case first =>
  have H := HC5.out
  clear HC5
  by_cases c7 : (l0.length : Int) > 400
  ·rw [if_pos c7] at H
   have c7b0 : decide (400 < (l0.length : Int)) = true := decide_eq_true c7
   have c7b1 : decide (400 < l0.length) = true := decide_eq_true (by omega)
   clear c7
   (first | rw [c7b0] | rw [c7v0] | (simp only [i64_w, i32_w]; rw [c7b0]) | (simp only [i64_w, i32_w]; rw [c7v0]) | skip)
   have H' := Aside0.mk H
   clear H
   go_wp2
   go_meet
   case rel => exact ⟨_, (true), EZc, H', ⟨by first | omega | exact Nat.le_refl _⟩, ⟨by (with_reducible repeat first | apply blk_drewN | apply blk_drew | apply blk_alloc); exact BK310.out⟩, ⟨by repeat (first | (with_reducible first | exact HB.out | apply below_alloc | apply pw_below_drewN | apply below_drew1 | refine below_set ?_ GE310.out) | exact HB.out)⟩⟩
  rw [if_neg c7] at H
  have c7b0 : decide (400 < (l0.length : Int)) = false := decide_eq_false c7
  have c7b1 : decide (400 < l0.length) = false := decide_eq_false (by omega)
  clear c7
  (first | rw [c7b0] | rw [c7v0] | (simp only [i64_w, i32_w]; rw [c7b0]) | (simp only [i64_w, i32_w]; rw [c7v0]) | skip)
  by_cases c8 : (a1.size : Int) > 8000
  ·rw [if_pos c8] at H
   have c8b0 : decide (8000 < (a1.size : Int)) = true := decide_eq_true c8
   have c8b1 : decide (8000 < a1.size) = true := decide_eq_true (by omega)
   clear c8
   have H' := Aside0.mk H
   clear H
   go_wp2
   go_meet
   case rel => exact ⟨_, (true), EZc, H', ⟨by first | omega | exact Nat.le_refl _⟩, ⟨by (with_reducible repeat first | apply blk_drewN | apply blk_drew | apply blk_alloc); exact BK310.out⟩, ⟨by repeat (first | (with_reducible first | exact HB.out | apply below_alloc | apply pw_below_drewN | apply below_drew1 | refine below_set ?_ GE310.out) | exact HB.out)⟩⟩
  rw [if_neg c8] at H
  have c8b0 : decide (8000 < (a1.size : Int)) = false := decide_eq_false c8
  have c8b1 : decide (8000 < a1.size) = false := decide_eq_false (by omega)
  clear c8
  by_cases c9 : (l3.length : Int) > 400
  ·rw [if_pos c9] at H
   have c9b0 : decide (400 < (l3.length : Int)) = true := decide_eq_true c9
   have c9b1 : decide (400 < l3.length) = true := decide_eq_true (by omega)
   clear c9
   have H' := Aside0.mk H
   clear H
   go_wp2
   go_meet
   case rel => exact ⟨_, (true), EZc, H', ⟨by first | omega | exact Nat.le_refl _⟩, ⟨by (with_reducible repeat first | apply blk_drewN | apply blk_drew | apply blk_alloc); exact BK310.out⟩, ⟨by repeat (first | (with_reducible first | exact HB.out | apply below_alloc | apply pw_below_drewN | apply below_drew1 | refine below_set ?_ GE310.out) | exact HB.out)⟩⟩
  rw [if_neg c9] at H
  have c9b0 : decide (400 < (l3.length : Int)) = false := decide_eq_false c9
  have c9b1 : decide (400 < l3.length) = false := decide_eq_false (by omega)
  clear c9
  replace H := Option.bind_eq_some_iff.mp H
  obtain ⟨t311, A100, H⟩ := H
  replace H : (if t311 = true then ((Qq.f k a1).bind fun t312 => (if t312 = true then ((Qn.f k l2_0 l2_1).bind fun t313 => (Qp.j0 k l0 a1 l3 (!t313) l2_0 l2_1)) else (Qp.j0 k l0 a1 l3 true l2_0 l2_1))) else (Qp.j0 k l0 a1 l3 true l2_0 l2_1)) = some r := H
  have A10 := Aside0.mk A100
  clear A100
  by_cases c11 : t311 = true
  rotate_left
  ·replace c11 := Bool.eq_false_iff.mpr c11
   subst c11
   have H1 : (Qp.j0 k l0 a1 l3 true l2_0 l2_1) = some r := by rw [if_neg (show ¬ (false = true) by decide)] at H; exact H
   clear H
   have H := H1
   clear H1
   have H' := Aside0.mk H
   clear H
   go_wp2_with (first | (go_at_call 30; (with_reducible refine (Qh.calls k _ _ l0 false _ ?side1 ?side2 A10.out).mono ?_); (case side1 => exact KCz (Kd.C_below HR0.out HB.out)); (case side2 => exact HC0.out); rintro e w19 ⟨rfl, hb⟩; have n0_ := BBz BK310 hb; have n1_ := Aside0.mk (below_step (HBb GE310) hb); clear BK310; clear HB; have BK310 := n0_; have HB := n1_; clear n0_ n1_; (try clear hb); (try clear hb2); (try clear hk); (try clear hi)))
   go_meet
   case rel => exact ⟨_, (true), EZc, H', ⟨by first | omega | exact Nat.le_refl _⟩, ⟨by (with_reducible repeat first | apply blk_drewN | apply blk_drew | apply blk_alloc); exact BK310.out⟩, ⟨by repeat (first | (with_reducible first | exact HB.out | apply below_alloc | apply pw_below_drewN | apply below_drew1 | refine below_set ?_ GE310.out) | exact HB.out)⟩⟩
  subst c11
  have H1 : ((Qq.f k a1).bind fun t312 => (if t312 = true then ((Qn.f k l2_0 l2_1).bind fun t313 => (Qp.j0 k l0 a1 l3 (!t313) l2_0 l2_1)) else (Qp.j0 k l0 a1 l3 true l2_0 l2_1))) = some r := by rw [if_pos rfl] at H; exact H
  clear H
  have H := H1
  clear H1
  replace H := Option.bind_eq_some_iff.mp H
  obtain ⟨t312, A120, H⟩ := H
  replace H : (if t312 = true then ((Qn.f k l2_0 l2_1).bind fun t313 => (Qp.j0 k l0 a1 l3 (!t313) l2_0 l2_1)) else (Qp.j0 k l0 a1 l3 true l2_0 l2_1)) = some r := H
  have A12 := Aside0.mk A120
  clear A120
  by_cases c13 : t312 = true
  ·subst c13
   have H1 : ((Qn.f k l2_0 l2_1).bind fun t313 => (Qp.j0 k l0 a1 l3 (!t313) l2_0 l2_1)) = some r := by rw [if_pos rfl] at H; exact H
   clear H
   have H := H1
   clear H1
   replace H := Option.bind_eq_some_iff.mp H
   obtain ⟨t313, A140, H⟩ := H
   replace H : (Qp.j0 k l0 a1 l3 (!t313) l2_0 l2_1) = some r := H
   have A14 := Aside0.mk A140
   clear A140
   have H' := Aside0.mk H
   clear H
   go_wp2_with (first | (go_at_call 30; (with_reducible refine (Qh.calls k _ _ l0 true _ ?side1 ?side2 A10.out).mono ?_); (case side1 => exact KCz (Kd.C_below HR0.out HB.out)); (case side2 => exact HC0.out); rintro e w15 ⟨rfl, hb⟩; have n0_ := BBz BK310 hb; have n1_ := Aside0.mk (below_step (HBb GE310) hb); clear BK310; clear HB; have BK310 := n0_; have HB := n1_; clear n0_ n1_; (try clear hb); (try clear hb2); (try clear hk); (try clear hi)) | (go_at_call 36; (with_reducible refine (Qq.calls k a1 true _ A12.out).mono ?_); rintro e w' ⟨rfl, ⟨nd, rfl⟩⟩; have hcz16_0 := C1z BK310; have hcz16_1 := C2z BK310; have hfz16_0 := blk_frozen BK310.out 0; have hfz16_1 := blk_frozen BK310.out 1) | (go_at_call 74; (with_reducible refine (Qn.calls k _ _ l2_0 _ _ l2_1 t313 _ ?side1 ?side2 ?side3 ?side4 A14.out).mono ?_); (case side1 => repeat (first | exact (Kd.C_below HR2_0.out (HBb GE310)) | (with_reducible refine Kd.C_alloc ?_ _) | (with_reducible refine Kd.C_drewN ?_ _) | (with_reducible refine Kd.C_drew ?_))); (case side2 => exact HC2_0.out); (case side3 => repeat (first | exact (Kd.C_below HR2_1.out (HBb GE310)) | (with_reducible refine Kd.C_alloc ?_ _) | (with_reducible refine Kd.C_drewN ?_ _) | (with_reducible refine Kd.C_drew ?_))); (case side4 => exact HC2_1.out); rintro e w17 ⟨rfl, hb⟩; have n0_ := BBz BK310 hb; have n1_ := Aside0.mk (below_step (HBb GE310) hb); clear BK310; clear HB; have BK310 := n0_; have HB := n1_; clear n0_ n1_; (try clear hb); (try clear hb2); (try clear hk); (try clear hi)))
   go_meet
   case rel => exact ⟨_, (!t313), EZc, H', ⟨by first | omega | exact Nat.le_refl _⟩, ⟨by (with_reducible repeat first | apply blk_drewN | apply blk_drew | apply blk_alloc); exact BK310.out⟩, ⟨by repeat (first | (with_reducible first | exact HB.out | apply below_alloc | apply pw_below_drewN | apply below_drew1 | refine below_set ?_ GE310.out) | exact HB.out)⟩⟩
  replace c13 := Bool.eq_false_iff.mpr c13
  subst c13
  have H1 : (Qp.j0 k l0 a1 l3 true l2_0 l2_1) = some r := by rw [if_neg (show ¬ (false = true) by decide)] at H; exact H
  clear H
  have H := H1
  clear H1
  have H' := Aside0.mk H
  clear H
  go_wp2_with (first | (go_at_call 30; (with_reducible refine (Qh.calls k _ _ l0 true _ ?side1 ?side2 A10.out).mono ?_); (case side1 => exact KCz (Kd.C_below HR0.out HB.out)); (case side2 => exact HC0.out); rintro e w18 ⟨rfl, hb⟩; have n0_ := BBz BK310 hb; have n1_ := Aside0.mk (below_step (HBb GE310) hb); clear BK310; clear HB; have BK310 := n0_; have HB := n1_; clear n0_ n1_; (try clear hb); (try clear hb2); (try clear hk); (try clear hi)) | (go_at_call 36; (with_reducible refine (Qq.calls k a1 false _ A12.out).mono ?_); rintro e w' ⟨rfl, ⟨nd, rfl⟩⟩))
  go_meet
  case rel => exact ⟨_, (true), EZc, H', ⟨by first | omega | exact Nat.le_refl _⟩, ⟨by (with_reducible repeat first | apply blk_drewN | apply blk_drew | apply blk_alloc); exact BK310.out⟩, ⟨by repeat (first | (with_reducible first | exact HB.out | apply below_alloc | apply pw_below_drewN | apply below_drew1 | refine below_set ?_ GE310.out) | exact HB.out)⟩⟩
 case rest =>
  clear HC5
  try clear c3
  obtain ⟨kq, x38_4, rfl, HA, HJ4, BK310, HB⟩ := hcut
  cases kq with
  | zero => exact absurd HA.out (by simp [Qp.j0])
  | succ kj4 =>
   have H := HA.out
   clear HA
   simp only [Qp.j0] at H
   by_cases c20 : x38_4 = true
   ·subst c20
    have H1 : (some false) = some r := by rw [if_pos rfl] at H; exact H
    clear H
    have H := H1
    clear H1
    obtain rfl := Option.some.inj H
    clear H
    go_wp2
    go_ret
    exact ⟨EZa, HBb GE310⟩
   replace c20 := Bool.eq_false_iff.mpr c20
   subst c20
   have H1 : (Qp.l0 kj4 l0 a1 l3 true 0 l2_0 l2_1) = some r := by rw [if_neg (show ¬ (false = true) by decide)] at H; exact H
   clear H
   have H := H1
   clear H1
   have H' := Aside0.mk H
   clear H
   go_wp2
   go_loopg [9, 10] kj4 (fun kq v9 v10 w' => ∃ (x9_2 : Bool) (x10_2 : Int), v9 = .bool x9_2 ∧ v10 = .int .i64 x10_2 ∧ Aside0 (Qp.l0 kq l0 a1 l3 x9_2 x10_2 l2_0 l2_1 = some r) ∧ Aside0 (kq ≤ kj4) ∧ Aside0 (w'.heap[gb310]? = some (.cells #[(.slice A2_0 l2_0.length c2_0), (.slice A2_1 l2_1.length c2_1)] 51 (0, 0))) ∧ Aside0 (Below w.heap.size w w'))
   case atStart => exact ⟨(true), (0), EZc, EZc, H', ⟨Nat.le_refl _⟩, ⟨by (with_reducible repeat first | apply blk_drewN | apply blk_drew | apply blk_alloc); exact BK310.out⟩, ⟨by repeat (first | (with_reducible first | exact HB.out | apply below_alloc | apply pw_below_drewN | apply below_drew1 | refine below_set ?_ GE310.out) | exact HB.out)⟩⟩
   case round =>
    clear H'
    try clear c3
    try clear c20
    obtain ⟨x9_2, x10_2, rfl, rfl, HA, HK2, BK310, HB⟩ := hrel
    cases gk with
    | zero => exact absurd HA.out (by simp [Qp.l0])
    | succ k2 =>
     have H := HA.out
     clear HA
     simp only [Qp.l0] at H
     by_cases c21 : x10_2 < (l3.length : Int)
     rotate_left
     ·rw [if_neg c21] at H
      have c21b0 := decide_eq_false c21
      clear c21
      obtain rfl := Option.some.inj H
      clear H
      go_wp2
      go_ret
      exact ⟨EZa, HBb GE310⟩
     rw [if_pos c21] at H
     have c21b0 := decide_eq_true c21
     clear c21
     by_cases c22 : 0 ≤ x10_2
     rotate_left
     ·rw [if_neg c22] at H
      exact absurd H (by simp)
     rw [if_pos c22] at H
     have c22b0 := decide_eq_true c22
     clear c22
     replace H := Option.bind_eq_some_iff.mp H
     obtain ⟨t315, A230, H⟩ := H
     replace H : (if t315 = true then (if x9_2 = true then ((Vm.f k2 l0 a1 l2_0 (rdOf ByteArray.empty l3 x10_2) 2).bind fun t317 => (Qp.l0 k2 l0 a1 l3 t317 (wrap64 (x10_2 + 1)) l2_0 l2_1)) else (Qp.l0 k2 l0 a1 l3 false (wrap64 (x10_2 + 1)) l2_0 l2_1)) else (some false)) = some r := H
     have A23 := Aside0.mk A230
     clear A230
     by_cases c24 : t315 = true
     rotate_left
     ·replace c24 := Bool.eq_false_iff.mpr c24
      subst c24
      have H1 : (some false) = some r := by rw [if_neg (show ¬ (false = true) by decide)] at H; exact H
      clear H
      have H := H1
      clear H1
      obtain rfl := Option.some.inj H
      clear H
      have p314 : 0 ≤ (x10_2 : Int) := ODz
      have q314 : x10_2 < (l3.length : Int) := ODz
      obtain ⟨ad314, e314, hx314_0⟩ := Kd.at_string HR3.out x10_2 p314 q314
      cases e314
      replace hx314_0 := HXz HB hx314_0
      replace p314 := eq_true p314
      replace q314 := eq_true q314
      go_wp2_with (first | ((with_reducible refine gate_callee (f := 36) rfl ?_); refine goesL_ (some 49) rfl rfl Tryz.func36 (by kernel_rfl) rfl #[.string (rdOf ByteArray.empty l3 x10_2)] rfl MPz ?_; (with_reducible refine (Qq.calls k2 (rdOf ByteArray.empty l3 x10_2) false _ A23.out).mono ?_); rintro e w' ⟨rfl, ⟨nd, rfl⟩⟩; refine ⟨_, rfl, ?_⟩))
      go_ret
      exact ⟨EZa, HBb GE310⟩
     subst c24
     have H1 : (if x9_2 = true then ((Vm.f k2 l0 a1 l2_0 (rdOf ByteArray.empty l3 x10_2) 2).bind fun t317 => (Qp.l0 k2 l0 a1 l3 t317 (wrap64 (x10_2 + 1)) l2_0 l2_1)) else (Qp.l0 k2 l0 a1 l3 false (wrap64 (x10_2 + 1)) l2_0 l2_1)) = some r := by rw [if_pos rfl] at H; exact H
     clear H
     have H := H1
     clear H1
     by_cases c25 : x9_2 = true
     rotate_left
     ·replace c25 := Bool.eq_false_iff.mpr c25
      subst c25
      have H1 : (Qp.l0 k2 l0 a1 l3 false (wrap64 (x10_2 + 1)) l2_0 l2_1) = some r := by rw [if_neg (show ¬ (false = true) by decide)] at H; exact H
      clear H
      have H := H1
      clear H1
      have H' := Aside0.mk H
      clear H
      have p314 : 0 ≤ (x10_2 : Int) := ODz
      have q314 : x10_2 < (l3.length : Int) := ODz
      obtain ⟨ad314, e314, hx314_0⟩ := Kd.at_string HR3.out x10_2 p314 q314
      cases e314
      replace hx314_0 := HXz HB hx314_0
      replace p314 := eq_true p314
      replace q314 := eq_true q314
      try go_wp2_with (first | ((with_reducible refine gate_callee (f := 36) rfl ?_); refine goesL_ (some 49) rfl rfl Tryz.func36 (by kernel_rfl) rfl #[.string (rdOf ByteArray.empty l3 x10_2)] rfl MPz ?_; (with_reducible refine (Qq.calls k2 (rdOf ByteArray.empty l3 x10_2) true _ A23.out).mono ?_); rintro e w' ⟨rfl, ⟨nd, rfl⟩⟩; refine ⟨_, rfl, ?_⟩))
      (try (rw [drewN_self wr]; generalize hq_ : World.drewN wr _ = wr; have n0_ : Aside0 (wr.heap[gb310]? = some (.cells #[.slice A2_0 l2_0.length c2_0, .slice A2_1 l2_1.length c2_1] 51 (0, 0))) := ⟨by rw [← hq_]; exact (BKz BK310)⟩; have n1_ : Aside0 (Below w.heap.size w wr) := ⟨by rw [← hq_]; exact (HBb GE310)⟩; clear BK310 HB hq_; have BK310 := n0_; have HB := n1_; clear n0_ n1_))
      have n0_ := Aside0.mk (blk_drew BK310.out)
      have n1_ := Aside0.mk (below_drew1 HB.out)
      clear BK310
      clear HB
      have BK310 := n0_
      have HB := n1_
      clear n0_ n1_
      refine start_ (n := 13) (S := fun w' => True) (ds := []) (bz 13 0) (by kernel_rfl) rfl (by kernel_rfl) trivial (fun hHeld => ?_); refine with_tabW Qp.tab9 Qp.bits9 (fun HT_ HW_ => ?_)
      generalize wr.drew = w29 at BK310 HB hHeld ⊢
      refine PYz 0 51 (bz 13 1) rfl rfl (any_of HT_.out (by kernel_rfl)) ?_
      refine PYz 1 52 (bz 13 3) rfl rfl (any_of HT_.out (by kernel_rfl)) ?_
      refine PXz 2 53 (bz 13 7) rfl rfl (any_of HT_.out (by kernel_rfl)) ?_
      refine PXz 3 54 (bz 13 15) rfl rfl (any_of HT_.out (by kernel_rfl)) ?_
      refine PXz 4 55 (bz 13 31) rfl rfl (any_of HT_.out (by kernel_rfl)) ?_
      refine PXz 5 56 (bz 13 63) rfl rfl (any_of HT_.out (by kernel_rfl)) ?_
      refine PXz 6 57 (bz 13 127) rfl rfl (any_of HT_.out (by kernel_rfl)) ?_
      refine PXz 7 58 (bz 13 255) rfl rfl (any_of HT_.out (by kernel_rfl)) ?_
      refine PXz 8 59 (bz 13 511) rfl rfl (any_of HT_.out (by kernel_rfl)) ?_
      refine PXz 9 60 (bz 13 1023) rfl rfl (any_of HT_.out (by kernel_rfl)) ?_
      refine PXz 10 61 (bz 13 2047) rfl rfl (any_of HT_.out (by kernel_rfl)) ?_
      refine PYz 11 62 (bz 13 4095) rfl rfl (any_of HT_.out (by kernel_rfl)) ?_
      refine PYz 12 9 (bz 13 8191) rfl rfl (any_of HT_.out (by kernel_rfl)) ?_
      refine done_ (done_of HT_.out (by kernel_rfl)) ?_
      try go_wp2
      go_roundg k2
      case measure => have := HJ4.out; have := HK2.out; omega
      case rel => exact ⟨(false), (wrap64 (x10_2 + 1)), EZc, EZc, H', ⟨by have := HJ4.out; have := HK2.out; omega⟩, ⟨by (with_reducible repeat first | apply blk_drewN | apply blk_drew | apply blk_alloc); exact BK310.out⟩, ⟨by repeat (first | (with_reducible first | exact HB.out | apply below_alloc | apply pw_below_drewN | apply below_drew1 | refine below_set ?_ GE310.out) | exact HB.out)⟩⟩
     subst c25
     have H1 : ((Vm.f k2 l0 a1 l2_0 (rdOf ByteArray.empty l3 x10_2) 2).bind fun t317 => (Qp.l0 k2 l0 a1 l3 t317 (wrap64 (x10_2 + 1)) l2_0 l2_1)) = some r := by rw [if_pos rfl] at H; exact H
     clear H
     have H := H1
     clear H1
     replace H := Option.bind_eq_some_iff.mp H
     obtain ⟨t317, A260, H⟩ := H
     replace H : (Qp.l0 k2 l0 a1 l3 t317 (wrap64 (x10_2 + 1)) l2_0 l2_1) = some r := H
     have A26 := Aside0.mk A260
     clear A260
     have H' := Aside0.mk H
     clear H
     have p314 : 0 ≤ (x10_2 : Int) := ODz
     have q314 : x10_2 < (l3.length : Int) := ODz
     obtain ⟨ad314, e314, hx314_0⟩ := Kd.at_string HR3.out x10_2 p314 q314
     cases e314
     replace hx314_0 := HXz HB hx314_0
     replace p314 := eq_true p314
     replace q314 := eq_true q314
     try go_wp2_with (first | ((with_reducible refine gate_callee (f := 36) rfl ?_); refine goesL_ (some 49) rfl rfl Tryz.func36 (by kernel_rfl) rfl #[.string (rdOf ByteArray.empty l3 x10_2)] rfl MPz ?_; (with_reducible refine (Qq.calls k2 (rdOf ByteArray.empty l3 x10_2) true _ A23.out).mono ?_); rintro e w' ⟨rfl, ⟨nd, rfl⟩⟩; refine ⟨_, rfl, ?_⟩))
     (try (rw [drewN_self wr]; generalize hq_ : World.drewN wr _ = wr; have n0_ : Aside0 (wr.heap[gb310]? = some (.cells #[.slice A2_0 l2_0.length c2_0, .slice A2_1 l2_1.length c2_1] 51 (0, 0))) := ⟨by rw [← hq_]; exact (BKz BK310)⟩; have n1_ : Aside0 (Below w.heap.size w wr) := ⟨by rw [← hq_]; exact (HBb GE310)⟩; clear BK310 HB hq_; have BK310 := n0_; have HB := n1_; clear n0_ n1_))
     have n0_ := Aside0.mk (blk_drew BK310.out)
     have n1_ := Aside0.mk (below_drew1 HB.out)
     clear BK310
     clear HB
     have BK310 := n0_
     have HB := n1_
     clear n0_ n1_
     have p316 : 0 ≤ (x10_2 : Int) := ODz
     have q316 : x10_2 < (l3.length : Int) := ODz
     obtain ⟨ad316, e316, hx316_0⟩ := Kd.at_string HR3.out x10_2 p316 q316
     have hw316_0 := hx316_0
     obtain rfl : ad314 = ad316 := (by injection e316)
     replace hx316_0 := HXz HB hx316_0
     replace p316 := eq_true p316
     replace q316 := eq_true q316
     refine start_ (n := 13) (S := fun w' => w'.cell? ⟨gb310, 0, none⟩ = some (.slice A2_0 l2_0.length c2_0) ∧ w'.cell? ⟨gb310, 1, none⟩ = some (.slice A2_1 l2_1.length c2_1) ∧ w'.cell? (ad314.add (x10_2).toNat) = some (.string (rdOf ByteArray.empty l3 x10_2))) (ds := []) (bz 13 0) (by kernel_rfl) rfl (by kernel_rfl) ⟨(blk_cell BK310.out 0).trans rfl, (blk_cell BK310.out 1).trans rfl, (HXz HB hw316_0 :)⟩ (fun hHeld => ?_); refine with_tabW Qp.tab9 Qp.bits9 (fun HT_ HW_ => ?_)
     generalize wr.drew = w27 at BK310 HB hx316_0 hHeld ⊢
     refine PYz 0 51 (bz 13 1) rfl rfl (any_of HT_.out (by kernel_rfl)) ?_
     refine PYz 1 52 (bz 13 3) rfl rfl (any_of HT_.out (by kernel_rfl)) ?_
     refine PYz 2 53 (bz 13 7) rfl rfl (any_of HT_.out (by kernel_rfl)) ?_
     refine PYz 3 54 (bz 13 15) rfl rfl (any_of HT_.out (by kernel_rfl)) ?_
     refine PYz 4 55 (bz 13 31) rfl rfl (any_of HT_.out (by kernel_rfl)) ?_
     refine PYz 6 57 (bz 13 95) rfl rfl (any_of HT_.out (by kernel_rfl)) ?_
     refine PYz 7 58 (bz 13 223) rfl rfl (any_of HT_.out (by kernel_rfl)) ?_
     refine PYz 8 59 (bz 13 479) rfl rfl (any_of HT_.out (by kernel_rfl)) ?_
     refine PTz 5 56 (bz 13 511) rfl rfl (take_ofW HT_.out HW_.out (by kernel_rfl)) hHeld ?_
     refine PTz 9 60 (bz 13 1023) rfl rfl (take_ofW HT_.out HW_.out (by kernel_rfl)) hHeld ?_
     refine one_ (i := 10) (N := some 61) (bz 13 2047) rfl rfl (one_of HT_.out (by kernel_rfl)) (by decide) (fun K hK => ?_)
     refine goes_ Tryz.func64 (by kernel_rfl) rfl #[.slice A0 l0.length c0, .string a1, .slice A2_0 l2_0.length c2_0, .string (rdOf ByteArray.empty l3 x10_2), .int .i64 2] (by rfl) rfl rfl MPz ?_
     with_reducible refine (Vm.calls k2 _ _ l0 a1 _ _ l2_0 (rdOf ByteArray.empty l3 x10_2) 2 t317 _ ?side1 ?side2 ?side3 ?side4 A26.out).mono ?_
     (case side1 => exact KCz (Kd.C_below HR0.out HB.out))
     (case side2 => exact HC0.out)
     (case side3 => exact KCz (Kd.C_below HR2_0.out HB.out))
     (case side4 => exact HC2_0.out)
     rintro e w28 ⟨rfl, hb⟩
     refine ⟨_, rfl, ?_⟩
     have n0_ := BBz BK310 hb
     have n1_ := Aside0.mk (below_step (HBb GE310) hb)
     clear BK310
     clear HB
     have BK310 := n0_
     have HB := n1_
     clear n0_ n1_
     (try clear hb)
     (try clear hb2)
     (try clear hk)
     (try clear hi)
     refine hK.out _ _ ⟨(blk_cell BK310.out 0).trans rfl, (blk_cell BK310.out 1).trans rfl, (HXz HB hw316_0 :)⟩ (fun hHeld => ?_)
     clear hK K
     refine norm_ (a' := ?_) ?_ ?_
     rotate_left
     ·show Act.put _ (some 61) _ = _
      simp only [PUz]
      rfl
     refine PYz 11 62 (bz 13 4095) rfl rfl (any_of HT_.out (by kernel_rfl)) ?_
     refine PYz 12 9 (bz 13 8191) rfl rfl (any_of HT_.out (by kernel_rfl)) ?_
     refine done_ (done_of HT_.out (by kernel_rfl)) ?_
     try go_wp2
     go_roundg k2
     case measure => have := HJ4.out; have := HK2.out; omega
     case rel => exact ⟨(t317), (wrap64 (x10_2 + 1)), EZc, EZc, H', ⟨by have := HJ4.out; have := HK2.out; omega⟩, ⟨by (with_reducible repeat first | apply blk_drewN | apply blk_drew | apply blk_alloc); exact BK310.out⟩, ⟨by repeat (first | (with_reducible first | exact HB.out | apply below_alloc | apply pw_below_drewN | apply below_drew1 | refine below_set ?_ GE310.out) | exact HB.out)⟩⟩
def Qe.f (l0 : List Int) (a1 : Int) (a2 : Int) : Option (Int) := if a2 ≤ 1 then (some 0) else (if (l0.length : Int) = 0 then (some 0) else (if 0 ≤ (Int.tmod a1 (l0.length : Int)) then (if (Int.tmod a1 (l0.length : Int)) < (l0.length : Int) then (if a2 = 0 then (none) else (some (Int.tmod (wrap64 (rd l0 (Int.tmod a1 (l0.length : Int)))) a2))) else (none)) else (none)))
theorem Qe.calls (A0 : Option Addr) (c0 : Nat) (l0 : List Int) (a1 : Int) (a2 : Int) (r : Int) (w : World) (hr0 : Kd.C (Kd.int .u8) w A0 l0.length l0) (hc0 : l0.length ≤ c0) (h : Qe.f l0 a1 a2 = some r) :
  Calls Tryz.prog 34 #[.slice A0 l0.length c0, .int .i64 a1, .int .i64 a2] w fun e w' => e = .returned (.int .i64 r) ∧ Drawn0 w w' := by
 have HR0 := Aside0.mk hr0
 have HC0 := Aside0.mk hc0
 clear hr0 hc0
 have H : (if a2 ≤ 1 then (some 0) else (if (l0.length : Int) = 0 then (some 0) else (if 0 ≤ (Int.tmod a1 (l0.length : Int)) then (if (Int.tmod a1 (l0.length : Int)) < (l0.length : Int) then (if a2 = 0 then (none) else (some (Int.tmod (wrap64 (rd l0 (Int.tmod a1 (l0.length : Int)))) a2))) else (none)) else (none)))) = some r := h
 clear h
 by_cases c4 : a2 ≤ 1
 ·rw [if_pos c4] at H
  have c4b0 := decide_eq_true c4
  clear c4
  obtain rfl := Option.some.inj H
  clear H
  go_enter Tryz.func34, Tryz.ntmps34
  go_wp2
  go_ret
  exact ⟨EZb, DRz⟩
 rw [if_neg c4] at H
 have c4b0 := decide_eq_false c4
 clear c4
 by_cases c5 : (l0.length : Int) = 0
 ·rw [if_pos c5] at H
  obtain ⟨c5b0, c5b1⟩ := QTz c5
  clear c5
  obtain rfl := Option.some.inj H
  clear H
  go_enter Tryz.func34, Tryz.ntmps34
  go_wp2
  go_ret
  exact ⟨EZb, DRz⟩
 rw [if_neg c5] at H
 obtain ⟨c5b0, c5b1⟩ := QFz c5
 have c5b2 : ¬ (l0 = []) := fun h_ => c5 (by rw [h_]; rfl)
 obtain ⟨ji6, hji6⟩ : ∃ j_ : Int, (Int.tmod a1 (l0.length : Int)) = j_ := ⟨_, rfl⟩
 replace H : (if 0 ≤ (ji6) then (if (ji6) < (l0.length : Int) then (if a2 = 0 then (none) else (some (Int.tmod (wrap64 (rd l0 (ji6))) a2))) else (none)) else (none)) = some r := by first | (rw [hji6] at H; exact H) | (simp only [hji6] at H ⊢; exact H)
 by_cases c7 : 0 ≤ (ji6)
 rotate_left
 ·rw [if_neg c7] at H
  exact absurd H (by simp)
 rw [if_pos c7] at H
 have c7b0 := decide_eq_true c7
 clear c7
 by_cases c8 : (ji6) < (l0.length : Int)
 rotate_left
 ·rw [if_neg c8] at H
  exact absurd H (by simp)
 rw [if_pos c8] at H
 have c8b0 := decide_eq_true c8
 clear c8
 by_cases c9 : a2 = 0
 ·rw [if_pos c9] at H
  exact absurd H (by simp)
 rw [if_neg c9] at H
 obtain ⟨c9b0, c9b1⟩ := QFz c9
 obtain rfl := Option.some.inj H
 clear H
 have p318 : 0 ≤ ((ji6) : Int) := ODz
 have q318 : (ji6) < (l0.length : Int) := ODz
 obtain ⟨ad318, e318, hx318_0⟩ := Kd.at_int HR0.out (ji6) p318 q318
 cases e318
 replace p318 := eq_true p318
 replace q318 := eq_true q318
 go_enter Tryz.func34, Tryz.ntmps34
 go_wp2
 go_ret
 exact ⟨by first | rfl | (simp only [bne_nil_, beq_nil_]; rfl) | (simp; done) | (simp only [← hji6] <;> (first | rfl | simp)) | (simp [*]; done), DRz⟩
end Go.Proofs.YtmkeigielncpjaaGreatDoor.PFnAcl
