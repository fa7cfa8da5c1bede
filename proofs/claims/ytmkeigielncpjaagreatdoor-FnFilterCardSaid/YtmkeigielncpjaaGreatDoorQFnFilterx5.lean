-- Laid by this session's own program out of the translation; Lean checks it.
import Derived.Test.YtmkeigielncpjaaGreatDoorQFnFilterx0
import Derived.Test.YtmkeigielncpjaaGreatDoorQFnFilterx3
import Derived.Test.YtmkeigielncpjaaGreatDoorQFnFilterx4
namespace Go.Proofs.YtmkeigielncpjaaGreatDoor.PFnFilter
open Go.RowKit Go.Proofs.YtmkeigielncpjaaGreatDoorW.PrintWords Go.Proofs.YtmkeigielncpjaaGreatDoorW.PrintLast Go.Proofs.YtmkeigielncpjaaGreatDoorW.PrintMore
attribute [local go_sem] max2_int min2_int max_two min_two max_three min_three max_four min_four   -- for this text's walks alone
set_option linter.unusedVariables false
set_option linter.unusedSimpArgs false
mutual
def Qp.j0 : Nat → Int → Bool → Int → ByteArray → ByteArray → Int → Option (Bool)
 | 0, _, _, _, _, _, _ => none
 | k + 1, x4, x5, x137000, x137001, x137002, x137003 => if x5 = true then (if x137001.toList = ([] : List UInt8) then (if x137002.toList = ([] : List UInt8) then ((Qg.f x137003 1 20).bind fun t137 => (some t137)) else (some false)) else (some false)) else (if x4 = 3 then (if x137001.toList = ([] : List UInt8) then (if x137002.toList = ([] : List UInt8) then (some (x137003 == 1)) else (some false)) else (some false)) else (if x4 = 5 then ((Qa.f k x137001).bind fun t138 => (if t138 = true then (if x137002.toList = ([] : List UInt8) then (some (x137003 == 0)) else (some false)) else (some false))) else (if x4 = 4 then (Qp.j1 k (x4 == 4) x137000 x137001 x137002 x137003) else (if x4 = 6 then (Qp.j1 k (x4 == 6) x137000 x137001 x137002 x137003) else (if x4 = 7 then (Qp.j1 k (x4 == 7) x137000 x137001 x137002 x137003) else (Qp.j1 k (x4 == 8) x137000 x137001 x137002 x137003))))))
def Qp.j1 : Nat → Bool → Int → ByteArray → ByteArray → Int → Option (Bool)
 | 0, _, _, _, _, _ => none
 | k + 1, x51, x137000, x137001, x137002, x137003 => if x51 = true then ((Qa.f k x137001).bind fun t139 => (if t139 = true then ((Qj.f k x137002).bind fun t140 => (if t140 = true then (some (x137003 == 0)) else (some false))) else (some false))) else (some false)
end
def Qp.f (k : Nat) (a0_0 : Int) (a0_1 : ByteArray) (a0_2 : ByteArray) (a0_3 : Int) : Option (Bool) := if a0_0 = 1 then (Qp.j0 k a0_0 (a0_0 == 1) a0_0 a0_1 a0_2 a0_3) else (Qp.j0 k a0_0 (a0_0 == 2) a0_0 a0_1 a0_2 a0_3)
theorem Qp.mono_l : ∀ k, (∀ y0 y1 y2 y3 y4 y5, LeO (Qp.j0 k y0 y1 y2 y3 y4 y5) (Qp.j0 (k + 1) y0 y1 y2 y3 y4 y5)) ∧ (∀ y0 y1 y2 y3 y4, LeO (Qp.j1 k y0 y1 y2 y3 y4) (Qp.j1 (k + 1) y0 y1 y2 y3 y4))
 | 0 => ⟨fun _ _ _ _ _ _ r h => by simp [Qp.j0] at h, fun _ _ _ _ _ r h => by simp [Qp.j1] at h⟩
 | k + 1 => by
  obtain ⟨ih0, ih1⟩ := Qp.mono_l k
  refine ⟨?_, ?_⟩
  ·intro y0 y1 y2 y3 y4 y5
   unfold Qp.j0
   with_reducible repeat' first | exact ih0 _ _ _ _ _ _ | exact ih1 _ _ _ _ _ | exact Qa.mono _ _ | exact Qj.mono _ _ | exact LeO.refl _ | exact LeO.none _ | refine LeO.ite ?_ ?_ | refine LeO.bind ?_ (fun _ => ?_)
  ·intro y0 y1 y2 y3 y4
   unfold Qp.j1
   with_reducible repeat' first | exact ih0 _ _ _ _ _ _ | exact ih1 _ _ _ _ _ | exact Qa.mono _ _ | exact Qj.mono _ _ | exact LeO.refl _ | exact LeO.none _ | refine LeO.ite ?_ ?_ | refine LeO.bind ?_ (fun _ => ?_)
theorem Qp.mono : ∀ a0 a1 a2 a3 k, LeO (Qp.f k a0 a1 a2 a3) (Qp.f (k + 1) a0 a1 a2 a3) := by
 intro a0 a1 a2 a3 k
 obtain ⟨ih0, ih1⟩ := Qp.mono_l k
 unfold Qp.f
 with_reducible repeat' first | exact ih0 _ _ _ _ _ _ | exact ih1 _ _ _ _ _ | exact Qa.mono _ _ | exact Qj.mono _ _ | exact LeO.refl _ | exact LeO.none _ | refine LeO.ite ?_ ?_ | refine LeO.bind ?_ (fun _ => ?_)
set_option maxHeartbeats 8000000 in
set_option maxRecDepth 100000 in
theorem Qp.calls (k : Nat) (a0_0 : Int) (a0_1 : ByteArray) (a0_2 : ByteArray) (a0_3 : Int) (r : Bool) (w : World) (h : Qp.f k a0_0 a0_1 a0_2 a0_3 = some r) :
  Calls Tryz.prog 89 #[.agg #[.int .i64 a0_0, .string a0_1, .string a0_2, .int .i64 a0_3]] w fun e w' => e = .returned (.bool r) ∧ Below w.heap.size w w' := by
 have hu64 := Tryz.underlying64
 have HB := Aside0.mk (Below.refl w.heap.size w)
 have H : (if a0_0 = 1 then (Qp.j0 k a0_0 (a0_0 == 1) a0_0 a0_1 a0_2 a0_3) else (Qp.j0 k a0_0 (a0_0 == 2) a0_0 a0_1 a0_2 a0_3)) = some r := h
 clear h
 have HC2 := Aside0.mk H
 clear H
 go_enter Tryz.func89, Tryz.ntmps89
 go_upto_if 5 with (first | ((with_reducible refine gate_dst (N := 1) rfl ?_); refine box_event ?hg (N := 1) ?hd (cs := #[.int .i64 a0_0, .string a0_1, .string a0_2, .int .i64 a0_3]) (t := 64) ?hr ?_; (case hd => rfl); (case hg => rfl); (case hr => first | (go_simp; done) | (go_simp; rfl)); intro gb136 hg w3 hbox hb; have n0_ := Aside0.mk (below_step HBa hb); have n1_ := Aside0.mk (hbox); have n2_ := BSz w hg HBa; have n3_ := BSz w hg HBa; clear HB; have HB := n0_; have BK136 := n1_; have GW136 := n2_; have GE136 := n3_; clear n0_ n1_ n2_ n3_; clear hb hbox hg; have hcz4_0 := C1z BK136; have hcz4_1 := C2z BK136; have hcz4_2 := C3z BK136; have hcz4_3 := C4z BK136; have hfz4_0 := blk_frozen BK136.out 0; have hfz4_1 := blk_frozen BK136.out 1; have hfz4_2 := blk_frozen BK136.out 2; have hfz4_3 := blk_frozen BK136.out 3))
 (try simp only [Act.put, List.setIfInBounds_toArray, List.set_cons_zero, List.set_cons_succ])
 go_cut [5] (fun v5 wc => ∃ (kq : Nat) (x5_1 : Bool), v5 = .bool x5_1 ∧ Aside0 (Qp.j0 kq a0_0 x5_1 a0_0 a0_1 a0_2 a0_3 = some r) ∧ Aside0 (kq ≤ k) ∧ Aside0 (wc.heap[gb136]? = some (.cells #[.int .i64 a0_0, .string a0_1, .string a0_2, .int .i64 a0_3] 64 (0, 0))) ∧ Aside0 (Below w.heap.size w wc))
 case first =>
  have H := HC2.out
  clear HC2
  by_cases c5 : a0_0 = 1
  ·rw [if_pos c5] at H
   obtain ⟨c5b0, c5b1⟩ := QTz c5
   clear c5
   (first | rw [c5b0] | rw [c5v0] | (simp only [i64_w, i32_w]; rw [c5b0]) | (simp only [i64_w, i32_w]; rw [c5v0]) | skip)
   have H' := Aside0.mk H
   clear H
   go_wp2
   go_meet
   case rel => exact ⟨_, ((a0_0 == 1)), EZc, H', ⟨by first | omega | exact Nat.le_refl _⟩, ⟨by (with_reducible repeat first | apply blk_drewN | apply blk_drew | apply blk_alloc); exact BK136.out⟩, ⟨by repeat (first | (with_reducible first | exact HB.out | apply below_alloc | apply pw_below_drewN | apply below_drew1 | refine below_set ?_ GE136.out) | exact HB.out)⟩⟩
  rw [if_neg c5] at H
  obtain ⟨c5b0, c5b1⟩ := QFz c5
  (first | rw [c5b0] | rw [c5v0] | (simp only [i64_w, i32_w]; rw [c5b0]) | (simp only [i64_w, i32_w]; rw [c5v0]) | skip)
  have H' := Aside0.mk H
  clear H
  go_wp2
  go_meet
  case rel => exact ⟨_, ((a0_0 == 2)), EZc, H', ⟨by first | omega | exact Nat.le_refl _⟩, ⟨by (with_reducible repeat first | apply blk_drewN | apply blk_drew | apply blk_alloc); exact BK136.out⟩, ⟨by repeat (first | (with_reducible first | exact HB.out | apply below_alloc | apply pw_below_drewN | apply below_drew1 | refine below_set ?_ GE136.out) | exact HB.out)⟩⟩
 case rest =>
  clear HC2
  try clear hcz4_0
  try clear hcz4_1
  try clear hcz4_2
  try clear hcz4_3
  try clear hfz4_0
  try clear hfz4_1
  try clear hfz4_2
  try clear hfz4_3
  obtain ⟨kq, x5_1, rfl, HA, HJ1, BK136, HB⟩ := hcut
  cases kq with
  | zero => exact absurd HA.out (by simp [Qp.j0])
  | succ kj1 =>
   have H := HA.out
   clear HA
   simp only [Qp.j0] at H
   by_cases c6 : x5_1 = true
   ·subst c6
    have H1 : (if a0_1.toList = ([] : List UInt8) then (if a0_2.toList = ([] : List UInt8) then ((Qg.f a0_3 1 20).bind fun t137 => (some t137)) else (some false)) else (some false)) = some r := by rw [if_pos rfl] at H; exact H
    clear H
    have H := H1
    clear H1
    by_cases c7 : a0_1.toList = ([] : List UInt8)
    rotate_left
    ·rw [if_neg c7] at H
     obtain ⟨c7b0, c7b1⟩ := QFz c7
     obtain rfl := Option.some.inj H
     clear H
     have hcz12_0 := C1z BK136
     have hcz12_1 := C2z BK136
     have hcz12_2 := C3z BK136
     have hcz12_3 := C4z BK136
     have hfz12_0 := blk_frozen BK136.out 0
     have hfz12_1 := blk_frozen BK136.out 1
     have hfz12_2 := blk_frozen BK136.out 2
     have hfz12_3 := blk_frozen BK136.out 3
     go_wp2
     go_ret
     exact ⟨EZa, HBb GE136⟩
    rw [if_pos c7] at H
    obtain ⟨c7b0, c7b1⟩ := QTz c7
    clear c7
    by_cases c8 : a0_2.toList = ([] : List UInt8)
    rotate_left
    ·rw [if_neg c8] at H
     obtain ⟨c8b0, c8b1⟩ := QFz c8
     obtain rfl := Option.some.inj H
     clear H
     have hcz11_0 := C1z BK136
     have hcz11_1 := C2z BK136
     have hcz11_2 := C3z BK136
     have hcz11_3 := C4z BK136
     have hfz11_0 := blk_frozen BK136.out 0
     have hfz11_1 := blk_frozen BK136.out 1
     have hfz11_2 := blk_frozen BK136.out 2
     have hfz11_3 := blk_frozen BK136.out 3
     go_wp2
     go_ret
     exact ⟨EZa, HBb GE136⟩
    rw [if_pos c8] at H
    obtain ⟨c8b0, c8b1⟩ := QTz c8
    clear c8
    replace H := Option.bind_eq_some_iff.mp H
    obtain ⟨t137, A90, H⟩ := H
    replace H : (some t137) = some r := H
    have A9 := Aside0.mk A90
    clear A90
    obtain rfl := Option.some.inj H
    clear H
    have hcz10_0 := C1z BK136
    have hcz10_1 := C2z BK136
    have hcz10_2 := C3z BK136
    have hcz10_3 := C4z BK136
    have hfz10_0 := blk_frozen BK136.out 0
    have hfz10_1 := blk_frozen BK136.out 1
    have hfz10_2 := blk_frozen BK136.out 2
    have hfz10_3 := blk_frozen BK136.out 3
    go_wp2_with (first | (go_at_call 63; (with_reducible refine (Qg.calls a0_3 1 20 t137 _ A9.out).mono ?_); rintro e w' ⟨rfl, ⟨nd, rfl⟩⟩))
    go_ret
    exact ⟨EZa, HBb GE136⟩
   replace c6 := Bool.eq_false_iff.mpr c6
   subst c6
   have H1 : (if a0_0 = 3 then (if a0_1.toList = ([] : List UInt8) then (if a0_2.toList = ([] : List UInt8) then (some (a0_3 == 1)) else (some false)) else (some false)) else (if a0_0 = 5 then ((Qa.f kj1 a0_1).bind fun t138 => (if t138 = true then (if a0_2.toList = ([] : List UInt8) then (some (a0_3 == 0)) else (some false)) else (some false))) else (if a0_0 = 4 then (Qp.j1 kj1 (a0_0 == 4) a0_0 a0_1 a0_2 a0_3) else (if a0_0 = 6 then (Qp.j1 kj1 (a0_0 == 6) a0_0 a0_1 a0_2 a0_3) else (if a0_0 = 7 then (Qp.j1 kj1 (a0_0 == 7) a0_0 a0_1 a0_2 a0_3) else (Qp.j1 kj1 (a0_0 == 8) a0_0 a0_1 a0_2 a0_3)))))) = some r := by rw [if_neg (show ¬ (false = true) by decide)] at H; exact H
   clear H
   have H := H1
   clear H1
   by_cases c13 : a0_0 = 3
   ·rw [if_pos c13] at H
    obtain ⟨c13b0, c13b1⟩ := QTz c13
    clear c13
    by_cases c14 : a0_1.toList = ([] : List UInt8)
    rotate_left
    ·rw [if_neg c14] at H
     obtain ⟨c14b0, c14b1⟩ := QFz c14
     obtain rfl := Option.some.inj H
     clear H
     have hcz18_0 := C1z BK136
     have hcz18_1 := C2z BK136
     have hcz18_2 := C3z BK136
     have hcz18_3 := C4z BK136
     have hfz18_0 := blk_frozen BK136.out 0
     have hfz18_1 := blk_frozen BK136.out 1
     have hfz18_2 := blk_frozen BK136.out 2
     have hfz18_3 := blk_frozen BK136.out 3
     go_wp2
     go_ret
     exact ⟨EZa, HBb GE136⟩
    rw [if_pos c14] at H
    obtain ⟨c14b0, c14b1⟩ := QTz c14
    clear c14
    by_cases c15 : a0_2.toList = ([] : List UInt8)
    ·rw [if_pos c15] at H
     obtain ⟨c15b0, c15b1⟩ := QTz c15
     clear c15
     obtain rfl := Option.some.inj H
     clear H
     have hcz16_0 := C1z BK136
     have hcz16_1 := C2z BK136
     have hcz16_2 := C3z BK136
     have hcz16_3 := C4z BK136
     have hfz16_0 := blk_frozen BK136.out 0
     have hfz16_1 := blk_frozen BK136.out 1
     have hfz16_2 := blk_frozen BK136.out 2
     have hfz16_3 := blk_frozen BK136.out 3
     go_wp2
     go_ret
     exact ⟨EZa, HBb GE136⟩
    rw [if_neg c15] at H
    obtain ⟨c15b0, c15b1⟩ := QFz c15
    obtain rfl := Option.some.inj H
    clear H
    have hcz17_0 := C1z BK136
    have hcz17_1 := C2z BK136
    have hcz17_2 := C3z BK136
    have hcz17_3 := C4z BK136
    have hfz17_0 := blk_frozen BK136.out 0
    have hfz17_1 := blk_frozen BK136.out 1
    have hfz17_2 := blk_frozen BK136.out 2
    have hfz17_3 := blk_frozen BK136.out 3
    go_wp2
    go_ret
    exact ⟨EZa, HBb GE136⟩
   rw [if_neg c13] at H
   obtain ⟨c13b0, c13b1⟩ := QFz c13
   by_cases c19 : a0_0 = 5
   ·rw [if_pos c19] at H
    obtain ⟨c19b0, c19b1⟩ := QTz c19
    clear c19
    replace H := Option.bind_eq_some_iff.mp H
    obtain ⟨t138, A200, H⟩ := H
    replace H : (if t138 = true then (if a0_2.toList = ([] : List UInt8) then (some (a0_3 == 0)) else (some false)) else (some false)) = some r := H
    have A20 := Aside0.mk A200
    clear A200
    by_cases c21 : t138 = true
    rotate_left
    ·replace c21 := Bool.eq_false_iff.mpr c21
     subst c21
     have H1 : (some false) = some r := by rw [if_neg (show ¬ (false = true) by decide)] at H; exact H
     clear H
     have H := H1
     clear H1
     obtain rfl := Option.some.inj H
     clear H
     have hcz25_0 := C1z BK136
     have hcz25_1 := C2z BK136
     have hcz25_2 := C3z BK136
     have hcz25_3 := C4z BK136
     have hfz25_0 := blk_frozen BK136.out 0
     have hfz25_1 := blk_frozen BK136.out 1
     have hfz25_2 := blk_frozen BK136.out 2
     have hfz25_3 := blk_frozen BK136.out 3
     go_wp2_with (first | ((with_reducible refine gate_callee (f := 36) rfl ?_); refine goesL_ (some 40) rfl rfl Tryz.func36 (by kernel_rfl) rfl #[.string a0_1] rfl MPz ?_; (with_reducible refine (Qa.calls kj1 a0_1 false _ A20.out).mono ?_); rintro e w' ⟨rfl, ⟨nd, rfl⟩⟩; refine ⟨_, rfl, ?_⟩))
     go_ret
     exact ⟨EZa, HBb GE136⟩
    subst c21
    have H1 : (if a0_2.toList = ([] : List UInt8) then (some (a0_3 == 0)) else (some false)) = some r := by rw [if_pos rfl] at H; exact H
    clear H
    have H := H1
    clear H1
    by_cases c22 : a0_2.toList = ([] : List UInt8)
    ·rw [if_pos c22] at H
     obtain ⟨c22b0, c22b1⟩ := QTz c22
     clear c22
     obtain rfl := Option.some.inj H
     clear H
     have hcz23_0 := C1z BK136
     have hcz23_1 := C2z BK136
     have hcz23_2 := C3z BK136
     have hcz23_3 := C4z BK136
     have hfz23_0 := blk_frozen BK136.out 0
     have hfz23_1 := blk_frozen BK136.out 1
     have hfz23_2 := blk_frozen BK136.out 2
     have hfz23_3 := blk_frozen BK136.out 3
     go_wp2_with (first | ((with_reducible refine gate_callee (f := 36) rfl ?_); refine goesL_ (some 40) rfl rfl Tryz.func36 (by kernel_rfl) rfl #[.string a0_1] rfl MPz ?_; (with_reducible refine (Qa.calls kj1 a0_1 true _ A20.out).mono ?_); rintro e w' ⟨rfl, ⟨nd, rfl⟩⟩; refine ⟨_, rfl, ?_⟩))
     go_ret
     exact ⟨EZa, HBb GE136⟩
    rw [if_neg c22] at H
    obtain ⟨c22b0, c22b1⟩ := QFz c22
    obtain rfl := Option.some.inj H
    clear H
    have hcz24_0 := C1z BK136
    have hcz24_1 := C2z BK136
    have hcz24_2 := C3z BK136
    have hcz24_3 := C4z BK136
    have hfz24_0 := blk_frozen BK136.out 0
    have hfz24_1 := blk_frozen BK136.out 1
    have hfz24_2 := blk_frozen BK136.out 2
    have hfz24_3 := blk_frozen BK136.out 3
    go_wp2_with (first | ((with_reducible refine gate_callee (f := 36) rfl ?_); refine goesL_ (some 40) rfl rfl Tryz.func36 (by kernel_rfl) rfl #[.string a0_1] rfl MPz ?_; (with_reducible refine (Qa.calls kj1 a0_1 true _ A20.out).mono ?_); rintro e w' ⟨rfl, ⟨nd, rfl⟩⟩; refine ⟨_, rfl, ?_⟩))
    go_ret
    exact ⟨EZa, HBb GE136⟩
   rw [if_neg c19] at H
   obtain ⟨c19b0, c19b1⟩ := QFz c19
   have HC26 := Aside0.mk H
   clear H
   go_upto_if 51 with (fail)
   go_cut [51] (fun v51 wc => ∃ (kq : Nat) (x51_25 : Bool), v51 = .bool x51_25 ∧ Aside0 (Qp.j1 kq x51_25 a0_0 a0_1 a0_2 a0_3 = some r) ∧ Aside0 (kq ≤ kj1) ∧ Aside0 (wc.heap[gb136]? = some (.cells #[.int .i64 a0_0, .string a0_1, .string a0_2, .int .i64 a0_3] 64 (0, 0))) ∧ Aside0 (Below w.heap.size w wc))
   case first =>
    have H := HC26.out
    clear HC26
    by_cases c27 : a0_0 = 4
    ·rw [if_pos c27] at H
     obtain ⟨c27b0, c27b1⟩ := QTz c27
     clear c27
     (first | rw [c27b0] | rw [c27v0] | (simp only [i64_w, i32_w]; rw [c27b0]) | (simp only [i64_w, i32_w]; rw [c27v0]) | skip)
     have H' := Aside0.mk H
     clear H
     go_wp2
     go_meet
     case rel => exact ⟨_, ((a0_0 == 4)), EZc, H', ⟨by have := HJ1.out; first | omega | exact Nat.le_refl _⟩, ⟨by (with_reducible repeat first | apply blk_drewN | apply blk_drew | apply blk_alloc); exact BK136.out⟩, ⟨by repeat (first | (with_reducible first | exact HB.out | apply below_alloc | apply pw_below_drewN | apply below_drew1 | refine below_set ?_ GE136.out) | exact HB.out)⟩⟩
    rw [if_neg c27] at H
    obtain ⟨c27b0, c27b1⟩ := QFz c27
    (first | rw [c27b0] | rw [c27v0] | (simp only [i64_w, i32_w]; rw [c27b0]) | (simp only [i64_w, i32_w]; rw [c27v0]) | skip)
    by_cases c28 : a0_0 = 6
    ·rw [if_pos c28] at H
     obtain ⟨c28b0, c28b1⟩ := QTz c28
     clear c28
     have H' := Aside0.mk H
     clear H
     go_wp2
     go_meet
     case rel => exact ⟨_, ((a0_0 == 6)), EZc, H', ⟨by have := HJ1.out; first | omega | exact Nat.le_refl _⟩, ⟨by (with_reducible repeat first | apply blk_drewN | apply blk_drew | apply blk_alloc); exact BK136.out⟩, ⟨by repeat (first | (with_reducible first | exact HB.out | apply below_alloc | apply pw_below_drewN | apply below_drew1 | refine below_set ?_ GE136.out) | exact HB.out)⟩⟩
    rw [if_neg c28] at H
    obtain ⟨c28b0, c28b1⟩ := QFz c28
    by_cases c29 : a0_0 = 7
    ·rw [if_pos c29] at H
     obtain ⟨c29b0, c29b1⟩ := QTz c29
     clear c29
     have H' := Aside0.mk H
     clear H
     go_wp2
     go_meet
     case rel => exact ⟨_, ((a0_0 == 7)), EZc, H', ⟨by have := HJ1.out; first | omega | exact Nat.le_refl _⟩, ⟨by (with_reducible repeat first | apply blk_drewN | apply blk_drew | apply blk_alloc); exact BK136.out⟩, ⟨by repeat (first | (with_reducible first | exact HB.out | apply below_alloc | apply pw_below_drewN | apply below_drew1 | refine below_set ?_ GE136.out) | exact HB.out)⟩⟩
    rw [if_neg c29] at H
    obtain ⟨c29b0, c29b1⟩ := QFz c29
    have H' := Aside0.mk H
    clear H
    go_wp2
    go_meet
    case rel => exact ⟨_, ((a0_0 == 8)), EZc, H', ⟨by have := HJ1.out; first | omega | exact Nat.le_refl _⟩, ⟨by (with_reducible repeat first | apply blk_drewN | apply blk_drew | apply blk_alloc); exact BK136.out⟩, ⟨by repeat (first | (with_reducible first | exact HB.out | apply below_alloc | apply pw_below_drewN | apply below_drew1 | refine below_set ?_ GE136.out) | exact HB.out)⟩⟩
   case rest =>
    clear HC26
    try clear c6
    try clear c13
    try clear c13b0
    try clear c13b1
    try clear c19
    try clear c19b0
    try clear c19b1
    try clear hcz4_0
    try clear hcz4_1
    try clear hcz4_2
    try clear hcz4_3
    try clear hfz4_0
    try clear hfz4_1
    try clear hfz4_2
    try clear hfz4_3
    obtain ⟨kq, x51_25, rfl, HA, HJ25, BK136, HB⟩ := hcut
    cases kq with
    | zero => exact absurd HA.out (by simp [Qp.j1])
    | succ kj25 =>
     have H := HA.out
     clear HA
     simp only [Qp.j1] at H
     by_cases c30 : x51_25 = true
     rotate_left
     ·replace c30 := Bool.eq_false_iff.mpr c30
      subst c30
      have H1 : (some false) = some r := by rw [if_neg (show ¬ (false = true) by decide)] at H; exact H
      clear H
      have H := H1
      clear H1
      obtain rfl := Option.some.inj H
      clear H
      go_wp2
      go_ret
      exact ⟨EZa, HBb GE136⟩
     subst c30
     have H1 : ((Qa.f kj25 a0_1).bind fun t139 => (if t139 = true then ((Qj.f kj25 a0_2).bind fun t140 => (if t140 = true then (some (a0_3 == 0)) else (some false))) else (some false))) = some r := by rw [if_pos rfl] at H; exact H
     clear H
     have H := H1
     clear H1
     replace H := Option.bind_eq_some_iff.mp H
     obtain ⟨t139, A310, H⟩ := H
     replace H : (if t139 = true then ((Qj.f kj25 a0_2).bind fun t140 => (if t140 = true then (some (a0_3 == 0)) else (some false))) else (some false)) = some r := H
     have A31 := Aside0.mk A310
     clear A310
     by_cases c32 : t139 = true
     rotate_left
     ·replace c32 := Bool.eq_false_iff.mpr c32
      subst c32
      have H1 : (some false) = some r := by rw [if_neg (show ¬ (false = true) by decide)] at H; exact H
      clear H
      have H := H1
      clear H1
      obtain rfl := Option.some.inj H
      clear H
      have hcz40_0 := C1z BK136
      have hcz40_1 := C2z BK136
      have hcz40_2 := C3z BK136
      have hcz40_3 := C4z BK136
      have hfz40_0 := blk_frozen BK136.out 0
      have hfz40_1 := blk_frozen BK136.out 1
      have hfz40_2 := blk_frozen BK136.out 2
      have hfz40_3 := blk_frozen BK136.out 3
      go_wp2_with (first | ((with_reducible refine gate_callee (f := 36) rfl ?_); refine goesL_ (some 58) rfl rfl Tryz.func36 (by kernel_rfl) rfl #[.string a0_1] rfl MPz ?_; (with_reducible refine (Qa.calls kj25 a0_1 false _ A31.out).mono ?_); rintro e w' ⟨rfl, ⟨nd, rfl⟩⟩; refine ⟨_, rfl, ?_⟩))
      go_ret
      exact ⟨EZa, HBb GE136⟩
     subst c32
     have H1 : ((Qj.f kj25 a0_2).bind fun t140 => (if t140 = true then (some (a0_3 == 0)) else (some false))) = some r := by rw [if_pos rfl] at H; exact H
     clear H
     have H := H1
     clear H1
     replace H := Option.bind_eq_some_iff.mp H
     obtain ⟨t140, A330, H⟩ := H
     replace H : (if t140 = true then (some (a0_3 == 0)) else (some false)) = some r := H
     have A33 := Aside0.mk A330
     clear A330
     by_cases c34 : t140 = true
     ·subst c34
      have H1 : (some (a0_3 == 0)) = some r := by rw [if_pos rfl] at H; exact H
      clear H
      have H := H1
      clear H1
      obtain rfl := Option.some.inj H
      clear H
      have hcz35_0 := C1z BK136
      have hcz35_1 := C2z BK136
      have hcz35_2 := C3z BK136
      have hcz35_3 := C4z BK136
      have hfz35_0 := blk_frozen BK136.out 0
      have hfz35_1 := blk_frozen BK136.out 1
      have hfz35_2 := blk_frozen BK136.out 2
      have hfz35_3 := blk_frozen BK136.out 3
      go_wp2_with (first | ((with_reducible refine gate_callee (f := 36) rfl ?_); refine goesL_ (some 58) rfl rfl Tryz.func36 (by kernel_rfl) rfl #[.string a0_1] rfl MPz ?_; (with_reducible refine (Qa.calls kj25 a0_1 true _ A31.out).mono ?_); rintro e w' ⟨rfl, ⟨nd, rfl⟩⟩; refine ⟨_, rfl, ?_⟩) | (go_at_call 75; (with_reducible refine (Qj.calls kj25 a0_2 true _ A33.out).mono ?_); rintro e w36 ⟨rfl, hb⟩; have n0_ := BBz BK136 hb; have n1_ := Aside0.mk (below_step (HBb GE136) hb); clear BK136; clear HB; have BK136 := n0_; have HB := n1_; clear n0_ n1_; (try clear hb); (try clear hb2); (try clear hk); (try clear hi); have hcz37_0 := C1z BK136; have hcz37_1 := C2z BK136; have hcz37_2 := C3z BK136; have hcz37_3 := C4z BK136; have hfz37_0 := blk_frozen BK136.out 0; have hfz37_1 := blk_frozen BK136.out 1; have hfz37_2 := blk_frozen BK136.out 2; have hfz37_3 := blk_frozen BK136.out 3))
      go_ret
      exact ⟨EZa, HBb GE136⟩
     replace c34 := Bool.eq_false_iff.mpr c34
     subst c34
     have H1 : (some false) = some r := by rw [if_neg (show ¬ (false = true) by decide)] at H; exact H
     clear H
     have H := H1
     clear H1
     obtain rfl := Option.some.inj H
     clear H
     have hcz38_0 := C1z BK136
     have hcz38_1 := C2z BK136
     have hcz38_2 := C3z BK136
     have hcz38_3 := C4z BK136
     have hfz38_0 := blk_frozen BK136.out 0
     have hfz38_1 := blk_frozen BK136.out 1
     have hfz38_2 := blk_frozen BK136.out 2
     have hfz38_3 := blk_frozen BK136.out 3
     go_wp2_with (first | ((with_reducible refine gate_callee (f := 36) rfl ?_); refine goesL_ (some 58) rfl rfl Tryz.func36 (by kernel_rfl) rfl #[.string a0_1] rfl MPz ?_; (with_reducible refine (Qa.calls kj25 a0_1 true _ A31.out).mono ?_); rintro e w' ⟨rfl, ⟨nd, rfl⟩⟩; refine ⟨_, rfl, ?_⟩) | (go_at_call 75; (with_reducible refine (Qj.calls kj25 a0_2 false _ A33.out).mono ?_); rintro e w39 ⟨rfl, hb⟩; have n0_ := BBz BK136 hb; have n1_ := Aside0.mk (below_step (HBb GE136) hb); clear BK136; clear HB; have BK136 := n0_; have HB := n1_; clear n0_ n1_; (try clear hb); (try clear hb2); (try clear hk); (try clear hi)))
     go_ret
     exact ⟨EZa, HBb GE136⟩
end Go.Proofs.YtmkeigielncpjaaGreatDoor.PFnFilter
