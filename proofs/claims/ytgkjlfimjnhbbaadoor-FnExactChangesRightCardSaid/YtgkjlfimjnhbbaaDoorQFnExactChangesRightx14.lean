-- Laid by this session's own program out of the translation; Lean checks it.
import Derived.Test.YtgkjlfimjnhbbaaDoorQFnExactChangesRightx0
import Derived.Test.YtgkjlfimjnhbbaaDoorQFnExactChangesRightx10
import Derived.Test.YtgkjlfimjnhbbaaDoorQFnExactChangesRightx11
import Derived.Test.YtgkjlfimjnhbbaaDoorQFnExactChangesRightx13
namespace Go.Proofs.YtgkjlfimjnhbbaaDoor.PFnExactChangesRight
open Go.RowKit Go.Proofs.YtgkjlfimjnhbbaaDoorW.PrintWords Go.Proofs.YtgkjlfimjnhbbaaDoorW.PrintLast Go.Proofs.YtgkjlfimjnhbbaaDoorW.PrintMore
attribute [local go_sem] max2_int min2_int max_two min_two max_three min_three max_four min_four   -- for this text's walks alone
set_option linter.unusedVariables false
set_option linter.unusedSimpArgs false
def impl_byNorm.f (k : Nat) (a0 : ByteArray) (a1 : ByteArray) : Option (Int) := (impl_Norm.f k a0).bind fun t389 => ((impl_Norm.f k a1).bind fun t390 => ((strings_Compare.f t389 t390).bind fun t391 => (some t391)))
theorem impl_byNorm.mono : ∀ a0 a1 k, LeO (impl_byNorm.f k a0 a1) (impl_byNorm.f (k + 1) a0 a1) := by
 intro a0 a1 k
 unfold impl_byNorm.f
 repeat' first
   | (with_reducible exact impl_Norm.mono _ _)
   | (with_reducible exact LeO.refl _)
   | (with_reducible exact LeO.none _)
   | (with_reducible refine LeO.ite ?_ ?_)
   | (with_reducible refine LeO.bind ?_ (fun _ => ?_))
   | exact impl_Norm.mono _ _
   | exact LeO.none _
   | refine LeO.ite ?_ ?_
   | refine LeO.bind ?_ (fun _ => ?_)
set_option maxHeartbeats 8000000 in
set_option maxRecDepth 100000 in
theorem impl_byNorm.calls (k : Nat) (a0 : ByteArray) (a1 : ByteArray) (r : Int) (w : World) (h : impl_byNorm.f k a0 a1 = some r) :
  Calls Tryd.prog 79 #[.string a0, .string a1] w fun e w' => e = .returned (.int .i64 r) ∧ Below w.heap.size w w' := by
 have HB := Aside0.mk (Below.refl w.heap.size w)
 have H : ((impl_Norm.f k a0).bind fun t389 => ((impl_Norm.f k a1).bind fun t390 => ((strings_Compare.f t389 t390).bind fun t391 => (some t391)))) = some r := h
 clear h
 replace H := Option.bind_eq_some_iff.mp H
 obtain ⟨t389, A30, H⟩ := H
 replace H : ((impl_Norm.f k a1).bind fun t390 => ((strings_Compare.f t389 t390).bind fun t391 => (some t391))) = some r := H
 have A3 := Aside0.mk A30
 clear A30
 replace H := Option.bind_eq_some_iff.mp H
 obtain ⟨t390, A40, H⟩ := H
 replace H : ((strings_Compare.f t389 t390).bind fun t391 => (some t391)) = some r := H
 have A4 := Aside0.mk A40
 clear A40
 replace H := Option.bind_eq_some_iff.mp H
 obtain ⟨t391, A50, H⟩ := H
 replace H : (some t391) = some r := H
 have A5 := Aside0.mk A50
 clear A50
 obtain rfl := Option.some.inj H
 go_enter Tryd.func79, Tryd.ntmps79
 go_wp2_with (first | ((with_reducible refine gate_callee (f := 110) rfl ?_); refine goesL_ (some 6) rfl rfl Tryd.func110 (by kernel_rfl) rfl #[.string a0] rfl MPz ?_; (with_reducible refine (impl_Norm.calls k a0 t389 _ A3.out).mono ?_); rintro e w6 ⟨rfl, hb⟩; refine ⟨_, rfl, ?_⟩; have n0_ := Aside0.mk (below_step HBa hb); clear HB; have HB := n0_; clear n0_; (try clear hb); (try clear hb2); (try clear hk); (try clear hi)) | ((with_reducible refine gate_callee (f := 110) rfl ?_); refine goesL_ (some 8) rfl rfl Tryd.func110 (by kernel_rfl) rfl #[.string a1] rfl MPz ?_; (with_reducible refine (impl_Norm.calls k a1 t390 _ A4.out).mono ?_); rintro e w7 ⟨rfl, hb⟩; refine ⟨_, rfl, ?_⟩; have n0_ := Aside0.mk (below_step HBa hb); clear HB; have HB := n0_; clear n0_; (try clear hb); (try clear hb2); (try clear hk); (try clear hi)) | ((with_reducible refine gate_callee (f := 109) rfl ?_); refine goesL_ (some 9) rfl rfl Tryd.func109 (by kernel_rfl) rfl #[.string t389, .string t390] rfl MPz ?_; (with_reducible refine (strings_Compare.calls t389 t390 t391 _ A5.out).mono ?_); rintro e w' ⟨rfl, ⟨nd, rfl⟩⟩; refine ⟨_, rfl, ?_⟩))
 go_ret
 exact ⟨EZa, HBa⟩
def impl_size_string.f (l0 : List ByteArray) : Option (Int) := some (l0.length : Int)
set_option maxHeartbeats 8000000 in
set_option maxRecDepth 100000 in
theorem impl_size_string.calls (A0 : Option Addr) (c0 : Nat) (l0 : List ByteArray) (r : Int) (w : World) (hr0 : Kd.C Kd.string w A0 l0.length l0) (hc0 : l0.length ≤ c0) (h : impl_size_string.f l0 = some r) :
  Calls Tryd.prog 111 #[.slice A0 l0.length c0] w fun e w' => e = .returned (.int .i64 r) ∧ Drawn0 w w' := by
 have HR0 := Aside0.mk hr0
 have HC0 := Aside0.mk hc0
 clear hr0 hc0
 have H : (some (l0.length : Int)) = some r := h
 clear h
 obtain rfl := Option.some.inj H
 go_enter Tryd.func111, Tryd.ntmps111
 go_wp2
 go_ret
 exact ⟨EZb, DRz⟩
mutual
def impl_isAttr.j0 : Nat → Bool → ByteArray → List ByteArray → Option (Bool)
 | 0, _, _, _ => none
 | k + 1, x15, x393000, x393001 => if x15 = true then (some false) else (impl_isAttr.l0 k x393001 (x393001.length : Int) 0 x393000 x393001)
def impl_isAttr.l0 : Nat → List ByteArray → Int → Int → ByteArray → List ByteArray → Option (Bool)
 | 0, _, _, _, _, _ => none
 | k + 1, x17, x18, x19, x393000, x393001 => if x19 < x18 then (if 0 ≤ x19 then (if x19 < (x17.length : Int) then ((impl_isProper.f k (rdOf ByteArray.empty x17 x19)).bind fun t397 => (if t397 = true then (if x19 > 0 then (if 0 ≤ (wrap64 (x19 - 1)) then (if (wrap64 (x19 - 1)) < (x393001.length : Int) then ((impl_byNorm.f k (rdOf ByteArray.empty x393001 (wrap64 (x19 - 1))) (rdOf ByteArray.empty x17 x19)).bind fun t399 => (if t399 ≥ 0 then (some false) else (impl_isAttr.l0 k x17 x18 (wrap64 (x19 + 1)) x393000 x393001))) else (none)) else (none)) else (impl_isAttr.l0 k x17 x18 (wrap64 (x19 + 1)) x393000 x393001)) else (some false))) else (none)) else (none)) else (some true)
end
def impl_isAttr.f (k : Nat) (a0_0 : ByteArray) (l0_1 : List ByteArray) : Option (Bool) := (impl_NameRight.f a0_0).bind fun t393 => (if t393 = true then ((impl_size_string.f l0_1).bind fun t394 => ((impl_between.f t394 1 4).bind fun t395 => (impl_isAttr.j0 k (!t395) a0_0 l0_1))) else (impl_isAttr.j0 k true a0_0 l0_1))
theorem impl_isAttr.mono_l : ∀ k, (∀ y0 y1 y2, LeO (impl_isAttr.j0 k y0 y1 y2) (impl_isAttr.j0 (k + 1) y0 y1 y2)) ∧ (∀ y0 y1 y2 y3 y4, LeO (impl_isAttr.l0 k y0 y1 y2 y3 y4) (impl_isAttr.l0 (k + 1) y0 y1 y2 y3 y4))
 | 0 => ⟨fun _ _ _ r h => by simp [impl_isAttr.j0] at h, fun _ _ _ _ _ r h => by simp [impl_isAttr.l0] at h⟩
 | k + 1 => by
  obtain ⟨ih0, ih1⟩ := impl_isAttr.mono_l k
  refine ⟨?_, ?_⟩
  ·intro y0 y1 y2
   unfold impl_isAttr.j0
   repeat' first
   | (with_reducible exact ih0 _ _ _)
   | (with_reducible exact ih1 _ _ _ _ _)
   | (with_reducible exact impl_byNorm.mono _ _ _)
   | (with_reducible exact impl_isProper.mono _ _)
   | (with_reducible exact LeO.refl _)
   | (with_reducible exact LeO.none _)
   | (with_reducible refine LeO.ite ?_ ?_)
   | (with_reducible refine LeO.bind ?_ (fun _ => ?_))
   | exact ih0 _ _ _
   | exact ih1 _ _ _ _ _
   | exact impl_byNorm.mono _ _ _
   | exact impl_isProper.mono _ _
   | exact LeO.none _
   | refine LeO.ite ?_ ?_
   | refine LeO.bind ?_ (fun _ => ?_)
  ·intro y0 y1 y2 y3 y4
   unfold impl_isAttr.l0
   repeat' first
   | (with_reducible exact ih0 _ _ _)
   | (with_reducible exact ih1 _ _ _ _ _)
   | (with_reducible exact impl_byNorm.mono _ _ _)
   | (with_reducible exact impl_isProper.mono _ _)
   | (with_reducible exact LeO.refl _)
   | (with_reducible exact LeO.none _)
   | (with_reducible refine LeO.ite ?_ ?_)
   | (with_reducible refine LeO.bind ?_ (fun _ => ?_))
   | exact ih0 _ _ _
   | exact ih1 _ _ _ _ _
   | exact impl_byNorm.mono _ _ _
   | exact impl_isProper.mono _ _
   | exact LeO.none _
   | refine LeO.ite ?_ ?_
   | refine LeO.bind ?_ (fun _ => ?_)
theorem impl_isAttr.mono : ∀ a0 a1 k, LeO (impl_isAttr.f k a0 a1) (impl_isAttr.f (k + 1) a0 a1) := by
 intro a0 a1 k
 obtain ⟨ih0, ih1⟩ := impl_isAttr.mono_l k
 unfold impl_isAttr.f
 repeat' first
   | (with_reducible exact ih0 _ _ _)
   | (with_reducible exact ih1 _ _ _ _ _)
   | (with_reducible exact impl_byNorm.mono _ _ _)
   | (with_reducible exact impl_isProper.mono _ _)
   | (with_reducible exact LeO.refl _)
   | (with_reducible exact LeO.none _)
   | (with_reducible refine LeO.ite ?_ ?_)
   | (with_reducible refine LeO.bind ?_ (fun _ => ?_))
   | exact ih0 _ _ _
   | exact ih1 _ _ _ _ _
   | exact impl_byNorm.mono _ _ _
   | exact impl_isProper.mono _ _
   | exact LeO.none _
   | refine LeO.ite ?_ ?_
   | refine LeO.bind ?_ (fun _ => ?_)
set_option maxHeartbeats 8000000 in
set_option maxRecDepth 100000 in
theorem impl_isAttr.calls (k : Nat) (a0_0 : ByteArray) (A0_1 : Option Addr) (c0_1 : Nat) (l0_1 : List ByteArray) (r : Bool) (w : World) (hr0_1 : Kd.C Kd.string w A0_1 l0_1.length l0_1) (hc0_1 : l0_1.length ≤ c0_1) (h : impl_isAttr.f k a0_0 l0_1 = some r) :
  Calls Tryd.prog 80 #[.agg #[.string a0_0, .slice A0_1 l0_1.length c0_1]] w fun e w' => e = .returned (.bool r) ∧ Below w.heap.size w w' := by
 have hu111 := Tryd.underlying111
 have HR0_1 := Aside0.mk hr0_1
 have HC0_1 := Aside0.mk hc0_1
 clear hr0_1 hc0_1
 have HB := Aside0.mk (Below.refl w.heap.size w)
 have H : ((impl_NameRight.f a0_0).bind fun t393 => (if t393 = true then ((impl_size_string.f l0_1).bind fun t394 => ((impl_between.f t394 1 4).bind fun t395 => (impl_isAttr.j0 k (!t395) a0_0 l0_1))) else (impl_isAttr.j0 k true a0_0 l0_1))) = some r := h
 clear h
 have HC2 := Aside0.mk H
 clear H
 go_enter Tryd.func80, Tryd.ntmps80
 go_upto_region 1 with (first | ((with_reducible refine gate_dst (N := 1) rfl ?_); refine box_event ?hg (N := 1) ?hd (cs := #[.string a0_0, .slice A0_1 l0_1.length c0_1]) (t := 111) ?hr ?_; (case hd => rfl); (case hg => rfl); (case hr => first | (go_simp; done) | (go_simp; rfl)); intro gb392 hg w3 hbox hb; have n0_ := Aside0.mk (below_step HBa hb); have n1_ := Aside0.mk (hbox); have n2_ := BSz w hg HBa; have n3_ := BSz w hg HBa; clear HB; have HB := n0_; have BK392 := n1_; have GW392 := n2_; have GE392 := n3_; clear n0_ n1_ n2_ n3_; clear hb hbox hg))
 (try simp only [Act.put, List.setIfInBounds_toArray, List.set_cons_zero, List.set_cons_succ])
 go_cut [15] (fun v15 wc => ∃ (kq : Nat) (x15_1 : Bool), v15 = .bool x15_1 ∧ Aside0 (impl_isAttr.j0 kq x15_1 a0_0 l0_1 = some r) ∧ Aside0 (kq ≤ k) ∧ Aside0 (wc.heap[gb392]? = some (.cells #[.string a0_0, (.slice A0_1 l0_1.length c0_1)] 111 (0, 0))) ∧ Aside0 (Below w.heap.size w wc))
 case first =>
  have H := HC2.out
  clear HC2
  replace H := Option.bind_eq_some_iff.mp H
  obtain ⟨t393, A40, H⟩ := H
  replace H : (if t393 = true then ((impl_size_string.f l0_1).bind fun t394 => ((impl_between.f t394 1 4).bind fun t395 => (impl_isAttr.j0 k (!t395) a0_0 l0_1))) else (impl_isAttr.j0 k true a0_0 l0_1)) = some r := H
  have A4 := Aside0.mk A40
  clear A40
  by_cases c5 : t393 = true
  rotate_left
  ·replace c5 := Bool.eq_false_iff.mpr c5
   subst c5
   have H1 : (impl_isAttr.j0 k true a0_0 l0_1) = some r := by rw [if_neg (show ¬ (false = true) by decide)] at H; exact H
   clear H
   have H := H1
   clear H1
   have H' := Aside0.mk H
   clear H
   have hcz11_0 := C1z BK392
   have hcz11_1 := C2z BK392
   have hfz11_0 := blk_frozen BK392.out 0
   have hfz11_1 := blk_frozen BK392.out 1
   go_wp2_with (first | ((with_reducible refine gate_callee (f := 48) rfl ?_); refine goesL_ (some 7) rfl rfl Tryd.func48 (by kernel_rfl) rfl #[.string a0_0] rfl MPz ?_; (with_reducible refine (impl_NameRight.calls a0_0 false _ A4.out).mono ?_); rintro e w12 ⟨rfl, hb⟩; refine ⟨_, rfl, ?_⟩; have n0_ := BBz BK392 hb; have n1_ := Aside0.mk (below_step (HBb GE392) hb); clear BK392; clear HB; have BK392 := n0_; have HB := n1_; clear n0_ n1_; (try clear hb); (try clear hb2); (try clear hk); (try clear hi)))
   go_meet
   case rel => exact ⟨_, (true), EZc, H', ⟨by first | omega | exact Nat.le_refl _⟩, ⟨by (with_reducible repeat (first | refine blk_drewN ?_ _ | refine blk_drew ?_ | refine blk_alloc ?_ _)); exact BK392.out⟩, ⟨by repeat (first | (with_reducible first | exact HB.out | apply below_alloc | apply pw_below_drewN | apply below_drew1 | refine below_set ?_ GE392.out) | exact HB.out)⟩⟩
  subst c5
  have H1 : ((impl_size_string.f l0_1).bind fun t394 => ((impl_between.f t394 1 4).bind fun t395 => (impl_isAttr.j0 k (!t395) a0_0 l0_1))) = some r := by rw [if_pos rfl] at H; exact H
  clear H
  have H := H1
  clear H1
  replace H := Option.bind_eq_some_iff.mp H
  obtain ⟨t394, A60, H⟩ := H
  replace H : ((impl_between.f t394 1 4).bind fun t395 => (impl_isAttr.j0 k (!t395) a0_0 l0_1)) = some r := H
  have A6 := Aside0.mk A60
  clear A60
  replace H := Option.bind_eq_some_iff.mp H
  obtain ⟨t395, A70, H⟩ := H
  replace H : (impl_isAttr.j0 k (!t395) a0_0 l0_1) = some r := H
  have A7 := Aside0.mk A70
  clear A70
  have H' := Aside0.mk H
  clear H
  have hcz8_0 := C1z BK392
  have hcz8_1 := C2z BK392
  have hfz8_0 := blk_frozen BK392.out 0
  have hfz8_1 := blk_frozen BK392.out 1
  go_wp2_with (first | ((with_reducible refine gate_callee (f := 48) rfl ?_); refine goesL_ (some 7) rfl rfl Tryd.func48 (by kernel_rfl) rfl #[.string a0_0] rfl MPz ?_; (with_reducible refine (impl_NameRight.calls a0_0 true _ A4.out).mono ?_); rintro e w9 ⟨rfl, hb⟩; refine ⟨_, rfl, ?_⟩; have n0_ := BBz BK392 hb; have n1_ := Aside0.mk (below_step (HBb GE392) hb); clear BK392; clear HB; have BK392 := n0_; have HB := n1_; clear n0_ n1_; (try clear hb); (try clear hb2); (try clear hk); (try clear hi); have hcz10_0 := C1z BK392; have hcz10_1 := C2z BK392; have hfz10_0 := blk_frozen BK392.out 0; have hfz10_1 := blk_frozen BK392.out 1) | (go_at_call 111; (with_reducible refine (impl_size_string.calls _ _ l0_1 t394 _ ?side1 ?side2 A6.out).mono ?_); (case side1 => exact KCz (Kd.C_below HR0_1.out HB.out)); (case side2 => exact HC0_1.out); rintro e w' ⟨rfl, ⟨nd, rfl⟩⟩) | (go_at_call 47; (with_reducible refine (impl_between.calls t394 1 4 t395 _ A7.out).mono ?_); rintro e w' ⟨rfl, ⟨nd, rfl⟩⟩))
  go_meet
  case rel => exact ⟨_, (!t395), EZc, H', ⟨by first | omega | exact Nat.le_refl _⟩, ⟨by (with_reducible repeat (first | refine blk_drewN ?_ _ | refine blk_drew ?_ | refine blk_alloc ?_ _)); exact BK392.out⟩, ⟨by repeat (first | (with_reducible first | exact HB.out | apply below_alloc | apply pw_below_drewN | apply below_drew1 | refine below_set ?_ GE392.out) | exact HB.out)⟩⟩
 case rest =>
  clear HC2
  try clear p2
  try clear c4
  try clear c5
  try clear c8
  try clear hcz10_0
  try clear hcz10_1
  try clear hcz11_0
  try clear hcz11_1
  try clear hcz8_0
  try clear hcz8_1
  try clear hfz10_0
  try clear hfz10_1
  try clear hfz11_0
  try clear hfz11_1
  try clear hfz8_0
  try clear hfz8_1
  obtain ⟨kq, x15_1, rfl, HA, HJ1, BK392, HB⟩ := hcut
  cases kq with
  | zero => exact absurd HA.out (by simp [impl_isAttr.j0])
  | succ kj1 =>
   have H := HA.out
   clear HA
   simp only [impl_isAttr.j0] at H
   by_cases c13 : x15_1 = true
   ·subst c13
    have H1 : (some false) = some r := by rw [if_pos rfl] at H; exact H
    clear H
    have H := H1
    clear H1
    obtain rfl := Option.some.inj H
    go_wp2
    go_ret
    exact ⟨EZa, HBb GE392⟩
   replace c13 := Bool.eq_false_iff.mpr c13
   subst c13
   have H1 : (impl_isAttr.l0 kj1 l0_1 (l0_1.length : Int) 0 a0_0 l0_1) = some r := by rw [if_neg (show ¬ (false = true) by decide)] at H; exact H
   clear H
   have H := H1
   clear H1
   have H' := Aside0.mk H
   clear H
   have hcz14_0 := C1z BK392
   have hcz14_1 := C2z BK392
   have hfz14_0 := blk_frozen BK392.out 0
   have hfz14_1 := blk_frozen BK392.out 1
   go_wp2
   go_loopg [19] kj1 (fun kq v19 w' => ∃ (x19_2 : Int), v19 = .int .i64 x19_2 ∧ Aside0 (impl_isAttr.l0 kq l0_1 (l0_1.length : Int) x19_2 a0_0 l0_1 = some r) ∧ Aside0 (kq ≤ kj1) ∧ Aside0 (w'.heap[gb392]? = some (.cells #[.string a0_0, (.slice A0_1 l0_1.length c0_1)] 111 (0, 0))) ∧ Aside0 (Below w.heap.size w w'))
   case atStart => exact ⟨(0), EZc, H', ⟨Nat.le_refl _⟩, ⟨by (with_reducible repeat (first | refine blk_drewN ?_ _ | refine blk_drew ?_ | refine blk_alloc ?_ _)); exact BK392.out⟩, ⟨by repeat (first | (with_reducible first | exact HB.out | apply below_alloc | apply pw_below_drewN | apply below_drew1 | refine below_set ?_ GE392.out) | exact HB.out)⟩⟩
   case round =>
    clear H'
    try clear c1
    try clear p2
    try clear c4
    try clear c5
    try clear c8
    try clear c13
    try clear hcz10_0
    try clear hcz10_1
    try clear hcz11_0
    try clear hcz11_1
    try clear hcz14_0
    try clear hcz14_1
    try clear hcz8_0
    try clear hcz8_1
    try clear hfz10_0
    try clear hfz10_1
    try clear hfz11_0
    try clear hfz11_1
    try clear hfz14_0
    try clear hfz14_1
    try clear hfz8_0
    try clear hfz8_1
    try clear p2
    obtain ⟨x19_2, rfl, HA, HK2, BK392, HB⟩ := hrel
    cases gk with
    | zero => exact absurd HA.out (by simp [impl_isAttr.l0])
    | succ k2 =>
     have H := HA.out
     clear HA
     simp only [impl_isAttr.l0] at H
     by_cases c15 : x19_2 < (l0_1.length : Int)
     rotate_left
     ·rw [if_neg c15] at H
      have c15b0 : decide (x19_2 < (l0_1.length : Int)) = false := decide_eq_false c15
      clear c15
      obtain rfl := Option.some.inj H
      go_wp2
      go_ret
      exact ⟨EZa, HBb GE392⟩
     rw [if_pos c15] at H
     have c15b0 : decide (x19_2 < (l0_1.length : Int)) = true := decide_eq_true c15
     clear c15
     by_cases c16 : 0 ≤ x19_2
     rotate_left
     ·rw [if_neg c16] at H
      exact absurd H (by simp)
     rw [if_pos c16] at H
     have c16b0 : decide (0 ≤ x19_2) = true := decide_eq_true c16
     clear c16
     by_cases c17 : x19_2 < (l0_1.length : Int)
     rotate_left
     ·rw [if_neg c17] at H
      exact absurd H (by simp)
     rw [if_pos c17] at H
     have c17b0 : decide (x19_2 < (l0_1.length : Int)) = true := decide_eq_true c17
     clear c17
     replace H := Option.bind_eq_some_iff.mp H
     obtain ⟨t397, A180, H⟩ := H
     replace H : (if t397 = true then (if x19_2 > 0 then (if 0 ≤ (wrap64 (x19_2 - 1)) then (if (wrap64 (x19_2 - 1)) < (l0_1.length : Int) then ((impl_byNorm.f k2 (rdOf ByteArray.empty l0_1 (wrap64 (x19_2 - 1))) (rdOf ByteArray.empty l0_1 x19_2)).bind fun t399 => (if t399 ≥ 0 then (some false) else (impl_isAttr.l0 k2 l0_1 (l0_1.length : Int) (wrap64 (x19_2 + 1)) a0_0 l0_1))) else (none)) else (none)) else (impl_isAttr.l0 k2 l0_1 (l0_1.length : Int) (wrap64 (x19_2 + 1)) a0_0 l0_1)) else (some false)) = some r := H
     have A18 := Aside0.mk A180
     clear A180
     by_cases c19 : t397 = true
     rotate_left
     ·replace c19 := Bool.eq_false_iff.mpr c19
      subst c19
      have H1 : (some false) = some r := by rw [if_neg (show ¬ (false = true) by decide)] at H; exact H
      clear H
      have H := H1
      clear H1
      obtain rfl := Option.some.inj H
      have p396 : 0 ≤ (x19_2 : Int) := ODz
      have q396 : x19_2 < (l0_1.length : Int) := ODz
      obtain ⟨ad396, e396, hx396_0⟩ := Kd.at_string HR0_1.out x19_2 p396 q396
      cases e396
      replace hx396_0 := HXz HB hx396_0
      replace p396 := eq_true p396
      replace q396 := eq_true q396
      go_wp2_with (first | ((with_reducible refine gate_callee (f := 112) rfl ?_); refine goesL_ (some 25) rfl rfl Tryd.func112 (by kernel_rfl) rfl #[.string (rdOf ByteArray.empty l0_1 x19_2)] rfl MPz ?_; (with_reducible refine (impl_isProper.calls k2 (rdOf ByteArray.empty l0_1 x19_2) false _ A18.out).mono ?_); rintro e w33 ⟨rfl, hb⟩; refine ⟨_, rfl, ?_⟩; have n0_ := BBz BK392 hb; have n1_ := Aside0.mk (below_step (HBb GE392) hb); clear BK392; clear HB; have BK392 := n0_; have HB := n1_; clear n0_ n1_; (try clear hb); (try clear hb2); (try clear hk); (try clear hi)))
      go_ret
      exact ⟨EZa, HBb GE392⟩
     subst c19
     have H1 : (if x19_2 > 0 then (if 0 ≤ (wrap64 (x19_2 - 1)) then (if (wrap64 (x19_2 - 1)) < (l0_1.length : Int) then ((impl_byNorm.f k2 (rdOf ByteArray.empty l0_1 (wrap64 (x19_2 - 1))) (rdOf ByteArray.empty l0_1 x19_2)).bind fun t399 => (if t399 ≥ 0 then (some false) else (impl_isAttr.l0 k2 l0_1 (l0_1.length : Int) (wrap64 (x19_2 + 1)) a0_0 l0_1))) else (none)) else (none)) else (impl_isAttr.l0 k2 l0_1 (l0_1.length : Int) (wrap64 (x19_2 + 1)) a0_0 l0_1)) = some r := by rw [if_pos rfl] at H; exact H
     clear H
     have H := H1
     clear H1
     by_cases c20 : x19_2 > 0
     rotate_left
     ·rw [if_neg c20] at H
      have c20b0 : decide (0 < x19_2) = false := decide_eq_false c20
      clear c20
      have H' := Aside0.mk H
      clear H
      have p396 : 0 ≤ (x19_2 : Int) := ODz
      have q396 : x19_2 < (l0_1.length : Int) := ODz
      obtain ⟨ad396, e396, hx396_0⟩ := Kd.at_string HR0_1.out x19_2 p396 q396
      cases e396
      replace hx396_0 := HXz HB hx396_0
      replace p396 := eq_true p396
      replace q396 := eq_true q396
      go_wp2_with (first | ((with_reducible refine gate_callee (f := 112) rfl ?_); refine goesL_ (some 25) rfl rfl Tryd.func112 (by kernel_rfl) rfl #[.string (rdOf ByteArray.empty l0_1 x19_2)] rfl MPz ?_; (with_reducible refine (impl_isProper.calls k2 (rdOf ByteArray.empty l0_1 x19_2) true _ A18.out).mono ?_); rintro e w32 ⟨rfl, hb⟩; refine ⟨_, rfl, ?_⟩; have n0_ := BBz BK392 hb; have n1_ := Aside0.mk (below_step (HBb GE392) hb); clear BK392; clear HB; have BK392 := n0_; have HB := n1_; clear n0_ n1_; (try clear hb); (try clear hb2); (try clear hk); (try clear hi)))
      go_roundg k2
      case measure => have := HJ1.out; have := HK2.out; omega
      case rel => exact ⟨(wrap64 (x19_2 + 1)), EZc, H', ⟨by have := HJ1.out; have := HK2.out; omega⟩, ⟨by (with_reducible repeat (first | refine blk_drewN ?_ _ | refine blk_drew ?_ | refine blk_alloc ?_ _)); exact BK392.out⟩, ⟨by repeat (first | (with_reducible first | exact HB.out | apply below_alloc | apply pw_below_drewN | apply below_drew1 | refine below_set ?_ GE392.out) | exact HB.out)⟩⟩
     rw [if_pos c20] at H
     have c20b0 : decide (0 < x19_2) = true := decide_eq_true c20
     clear c20
     obtain ⟨ji21, hji21⟩ : ∃ j_ : Int, (wrap64 (x19_2 - 1)) = j_ := ⟨_, rfl⟩
     replace H : (if 0 ≤ (ji21) then (if (ji21) < (l0_1.length : Int) then ((impl_byNorm.f k2 (rdOf ByteArray.empty l0_1 (ji21)) (rdOf ByteArray.empty l0_1 x19_2)).bind fun t399 => (if t399 ≥ 0 then (some false) else (impl_isAttr.l0 k2 l0_1 (l0_1.length : Int) (wrap64 (x19_2 + 1)) a0_0 l0_1))) else (none)) else (none)) = some r := by first | (rw [hji21] at H; exact H) | (simp only [hji21] at H ⊢; exact H)
     (try rw [hji21] at A18)
     have hji21w : (IntKind.i64.wrap (x19_2 - 1)) = ji21 := (i64_w _).trans hji21
     by_cases c22 : 0 ≤ (ji21)
     rotate_left
     ·rw [if_neg c22] at H
      exact absurd H (by simp)
     rw [if_pos c22] at H
     have c22b0 : decide (0 ≤ (ji21)) = true := decide_eq_true c22
     clear c22
     by_cases c23 : (ji21) < (l0_1.length : Int)
     rotate_left
     ·rw [if_neg c23] at H
      exact absurd H (by simp)
     rw [if_pos c23] at H
     have c23b0 : decide ((ji21) < (l0_1.length : Int)) = true := decide_eq_true c23
     clear c23
     replace H := Option.bind_eq_some_iff.mp H
     obtain ⟨t399, A240, H⟩ := H
     replace H : (if t399 ≥ 0 then (some false) else (impl_isAttr.l0 k2 l0_1 (l0_1.length : Int) (wrap64 (x19_2 + 1)) a0_0 l0_1)) = some r := H
     have A24 := Aside0.mk A240
     clear A240
     by_cases c25 : t399 ≥ 0
     ·rw [if_pos c25] at H
      have c25b0 : decide (0 ≤ t399) = true := decide_eq_true c25
      clear c25
      obtain rfl := Option.some.inj H
      have p396 : 0 ≤ (x19_2 : Int) := ODz
      have q396 : x19_2 < (l0_1.length : Int) := ODz
      obtain ⟨ad396, e396, hx396_0⟩ := Kd.at_string HR0_1.out x19_2 p396 q396
      cases e396
      replace hx396_0 := HXz HB hx396_0
      replace p396 := eq_true p396
      replace q396 := eq_true q396
      go_wp2_with (first | ((with_reducible refine gate_callee (f := 112) rfl ?_); refine goesL_ (some 25) rfl rfl Tryd.func112 (by kernel_rfl) rfl #[.string (rdOf ByteArray.empty l0_1 x19_2)] rfl MPz ?_; (with_reducible refine (impl_isProper.calls k2 (rdOf ByteArray.empty l0_1 x19_2) true _ A18.out).mono ?_); rintro e w26 ⟨rfl, hb⟩; refine ⟨_, rfl, ?_⟩; have n0_ := BBz BK392 hb; have n1_ := Aside0.mk (below_step (HBb GE392) hb); clear BK392; clear HB; have BK392 := n0_; have HB := n1_; clear n0_ n1_; (try clear hb); (try clear hb2); (try clear hk); (try clear hi); have hcz27_0 := C1z BK392; have hcz27_1 := C2z BK392; have hfz27_0 := blk_frozen BK392.out 0; have hfz27_1 := blk_frozen BK392.out 1; have p398 : 0 ≤ ((ji21) : Int) := ODz; have q398 : (ji21) < (l0_1.length : Int) := ODz; obtain ⟨ad398, e398, hx398_0⟩ := Kd.at_string HR0_1.out (ji21) p398 q398; obtain rfl : ad396 = ad398 := (by injection e398); replace hx398_0 := HXz HB hx398_0; replace p398 := eq_true p398; replace q398 := eq_true q398) | (go_at_call 79; (with_reducible refine (impl_byNorm.calls k2 (rdOf ByteArray.empty l0_1 (ji21)) (rdOf ByteArray.empty l0_1 x19_2) t399 _ A24.out).mono ?_); rintro e w28 ⟨rfl, hb⟩; have n0_ := BBz BK392 hb; have n1_ := Aside0.mk (below_step (HBb GE392) hb); clear BK392; clear HB; have BK392 := n0_; have HB := n1_; clear n0_ n1_; (try clear hb); (try clear hb2); (try clear hk); (try clear hi)))
      go_ret
      exact ⟨by first | rfl | (simp only [bne_nil_, beq_nil_]; rfl) | (simp [errW_none, errW_some] <;> rfl) | (simp only [← hji21]; first | rfl | (simp [errW_none, errW_some] <;> rfl)) | (simp [*, errW_none, errW_some] <;> rfl), HBb GE392⟩
     rw [if_neg c25] at H
     have c25b0 : decide (0 ≤ t399) = false := decide_eq_false c25
     clear c25
     have H' := Aside0.mk H
     clear H
     have p396 : 0 ≤ (x19_2 : Int) := ODz
     have q396 : x19_2 < (l0_1.length : Int) := ODz
     obtain ⟨ad396, e396, hx396_0⟩ := Kd.at_string HR0_1.out x19_2 p396 q396
     cases e396
     replace hx396_0 := HXz HB hx396_0
     replace p396 := eq_true p396
     replace q396 := eq_true q396
     go_wp2_with (first | ((with_reducible refine gate_callee (f := 112) rfl ?_); refine goesL_ (some 25) rfl rfl Tryd.func112 (by kernel_rfl) rfl #[.string (rdOf ByteArray.empty l0_1 x19_2)] rfl MPz ?_; (with_reducible refine (impl_isProper.calls k2 (rdOf ByteArray.empty l0_1 x19_2) true _ A18.out).mono ?_); rintro e w29 ⟨rfl, hb⟩; refine ⟨_, rfl, ?_⟩; have n0_ := BBz BK392 hb; have n1_ := Aside0.mk (below_step (HBb GE392) hb); clear BK392; clear HB; have BK392 := n0_; have HB := n1_; clear n0_ n1_; (try clear hb); (try clear hb2); (try clear hk); (try clear hi); have hcz30_0 := C1z BK392; have hcz30_1 := C2z BK392; have hfz30_0 := blk_frozen BK392.out 0; have hfz30_1 := blk_frozen BK392.out 1; have p398 : 0 ≤ ((ji21) : Int) := ODz; have q398 : (ji21) < (l0_1.length : Int) := ODz; obtain ⟨ad398, e398, hx398_0⟩ := Kd.at_string HR0_1.out (ji21) p398 q398; obtain rfl : ad396 = ad398 := (by injection e398); replace hx398_0 := HXz HB hx398_0; replace p398 := eq_true p398; replace q398 := eq_true q398) | (go_at_call 79; (with_reducible refine (impl_byNorm.calls k2 (rdOf ByteArray.empty l0_1 (ji21)) (rdOf ByteArray.empty l0_1 x19_2) t399 _ A24.out).mono ?_); rintro e w31 ⟨rfl, hb⟩; have n0_ := BBz BK392 hb; have n1_ := Aside0.mk (below_step (HBb GE392) hb); clear BK392; clear HB; have BK392 := n0_; have HB := n1_; clear n0_ n1_; (try clear hb); (try clear hb2); (try clear hk); (try clear hi)))
     go_roundg k2
     case measure => have := HJ1.out; have := HK2.out; omega
     case rel => exact ⟨(wrap64 (x19_2 + 1)), EZc, H', ⟨by have := HJ1.out; have := HK2.out; omega⟩, ⟨by (with_reducible repeat (first | refine blk_drewN ?_ _ | refine blk_drew ?_ | refine blk_alloc ?_ _)); exact BK392.out⟩, ⟨by repeat (first | (with_reducible first | exact HB.out | apply below_alloc | apply pw_below_drewN | apply below_drew1 | refine below_set ?_ GE392.out) | exact HB.out)⟩⟩
end Go.Proofs.YtgkjlfimjnhbbaaDoor.PFnExactChangesRight
