-- Laid by this session's own program out of the translation; Lean checks it.
import Derived.Test.YtgkjlfimjnhbbaaDoorQFnExactChangesRightx0
import Derived.Test.YtgkjlfimjnhbbaaDoorQFnExactChangesRightx11
import Derived.Test.YtgkjlfimjnhbbaaDoorQFnExactChangesRightx14
namespace Go.Proofs.YtgkjlfimjnhbbaaDoor.PFnExactChangesRight
open Go.RowKit Go.Proofs.YtgkjlfimjnhbbaaDoorW.PrintWords Go.Proofs.YtgkjlfimjnhbbaaDoorW.PrintLast Go.Proofs.YtgkjlfimjnhbbaaDoorW.PrintMore
attribute [local go_sem] max2_int min2_int max_two min_two max_three min_three max_four min_four   -- for this text's walks alone
set_option linter.unusedVariables false
set_option linter.unusedSimpArgs false
mutual
def impl_EntryRight.j0 : Nat → Bool → List (S126) → List (S111) → Option (Bool)
 | 0, _, _, _ => none
 | k + 1, x20, x401000, x401001 => if x20 = true then (some false) else (impl_EntryRight.l0 k x401001 (x401001.length : Int) 0 x401000 x401001)
def impl_EntryRight.l0 : Nat → List (S111) → Int → Int → List (S126) → List (S111) → Option (Bool)
 | 0, _, _, _, _, _ => none
 | k + 1, x22, x23, x24, x401000, x401001 => if x24 < x23 then (if 0 ≤ x24 then (if x24 < (x22.length : Int) then ((impl_isAttr.f k ((rd_T111 x22 x24).f0) ((rd_T111 x22 x24).f1)).bind fun t404 => (if t404 = true then (if x24 > 0 then (if 0 ≤ (wrap64 (x24 - 1)) then (if (wrap64 (x24 - 1)) < (x401001.length : Int) then (if ((Op.bytesLess (((rd_T111 x401001 (wrap64 (x24 - 1))).f0).toList) (((rd_T111 x22 x24).f0).toList)) = true) then (impl_EntryRight.l0 k x22 x23 (wrap64 (x24 + 1)) x401000 x401001) else (some false)) else (none)) else (none)) else (impl_EntryRight.l0 k x22 x23 (wrap64 (x24 + 1)) x401000 x401001)) else (some false))) else (none)) else (none)) else (some true)
end
def impl_EntryRight.f (k : Nat) (l0_0 : List (S126)) (l0_1 : List (S111)) : Option (Bool) := if (l0_0.length : Int) = 0 then (impl_EntryRight.j0 k true l0_0 l0_1) else ((impl_DnRight.f k l0_0).bind fun t401 => (if t401 = true then (impl_EntryRight.j0 k (decide ((l0_1.length : Int) > 8)) l0_0 l0_1) else (impl_EntryRight.j0 k true l0_0 l0_1)))
theorem impl_EntryRight.mono_l : ∀ k, (∀ y0 y1 y2, LeO (impl_EntryRight.j0 k y0 y1 y2) (impl_EntryRight.j0 (k + 1) y0 y1 y2)) ∧ (∀ y0 y1 y2 y3 y4, LeO (impl_EntryRight.l0 k y0 y1 y2 y3 y4) (impl_EntryRight.l0 (k + 1) y0 y1 y2 y3 y4))
 | 0 => ⟨fun _ _ _ r h => by simp [impl_EntryRight.j0] at h, fun _ _ _ _ _ r h => by simp [impl_EntryRight.l0] at h⟩
 | k + 1 => by
  obtain ⟨ih0, ih1⟩ := impl_EntryRight.mono_l k
  refine ⟨?_, ?_⟩
  ·intro y0 y1 y2
   unfold impl_EntryRight.j0
   repeat' first
   | (with_reducible exact ih0 _ _ _)
   | (with_reducible exact ih1 _ _ _ _ _)
   | (with_reducible exact impl_DnRight.mono _ _)
   | (with_reducible exact impl_isAttr.mono _ _ _)
   | (with_reducible exact LeO.refl _)
   | (with_reducible exact LeO.none _)
   | (with_reducible refine LeO.ite ?_ ?_)
   | (with_reducible refine LeO.bind ?_ (fun _ => ?_))
   | exact ih0 _ _ _
   | exact ih1 _ _ _ _ _
   | exact impl_DnRight.mono _ _
   | exact impl_isAttr.mono _ _ _
   | exact LeO.none _
   | refine LeO.ite ?_ ?_
   | refine LeO.bind ?_ (fun _ => ?_)
  ·intro y0 y1 y2 y3 y4
   unfold impl_EntryRight.l0
   repeat' first
   | (with_reducible exact ih0 _ _ _)
   | (with_reducible exact ih1 _ _ _ _ _)
   | (with_reducible exact impl_DnRight.mono _ _)
   | (with_reducible exact impl_isAttr.mono _ _ _)
   | (with_reducible exact LeO.refl _)
   | (with_reducible exact LeO.none _)
   | (with_reducible refine LeO.ite ?_ ?_)
   | (with_reducible refine LeO.bind ?_ (fun _ => ?_))
   | exact ih0 _ _ _
   | exact ih1 _ _ _ _ _
   | exact impl_DnRight.mono _ _
   | exact impl_isAttr.mono _ _ _
   | exact LeO.none _
   | refine LeO.ite ?_ ?_
   | refine LeO.bind ?_ (fun _ => ?_)
theorem impl_EntryRight.mono : ∀ a0 a1 k, LeO (impl_EntryRight.f k a0 a1) (impl_EntryRight.f (k + 1) a0 a1) := by
 intro a0 a1 k
 obtain ⟨ih0, ih1⟩ := impl_EntryRight.mono_l k
 unfold impl_EntryRight.f
 repeat' first
   | (with_reducible exact ih0 _ _ _)
   | (with_reducible exact ih1 _ _ _ _ _)
   | (with_reducible exact impl_DnRight.mono _ _)
   | (with_reducible exact impl_isAttr.mono _ _ _)
   | (with_reducible exact LeO.refl _)
   | (with_reducible exact LeO.none _)
   | (with_reducible refine LeO.ite ?_ ?_)
   | (with_reducible refine LeO.bind ?_ (fun _ => ?_))
   | exact ih0 _ _ _
   | exact ih1 _ _ _ _ _
   | exact impl_DnRight.mono _ _
   | exact impl_isAttr.mono _ _ _
   | exact LeO.none _
   | refine LeO.ite ?_ ?_
   | refine LeO.bind ?_ (fun _ => ?_)
def impl_EntryRight.T6 : Bool × List (List Nat × List Nat) := (true, [([], []), ([0], [0]), ([1], [1]), ([2, 1], [2]), ([3], [3]), ([4, 3], [3, 4]), ([5, 3, 3], [3, 5]), ([6], [6]), ([7, 6], [6, 7]), ([6], [6]), ([9, 6], [6, 9]), ([8, 10, 6], [6, 8, 10]), ([11, 6], [6, 11]), ([12, 6], [6, 12]), ([6], [6]), ([14, 6], [6, 14]), ([13, 15, 6], [6, 13, 15]), ([6, 16, 3], [3, 6, 16]), ([3, 17], [3, 17])])
def impl_EntryRight.B6 : List Nat := [0, 1, 3, 7, 15, 31, 63, 127, 255, 127, 639, 2047, 4095, 8191, 127, 16511, 65535, 131071, 262143]
theorem impl_EntryRight.tab6 : rtab .any (opsOf Tryd.f131 6) = impl_EntryRight.T6 := by kernel_rfl
theorem impl_EntryRight.bits6 : waitsOk impl_EntryRight.T6.2 impl_EntryRight.B6 = true := by kernel_rfl
set_option maxHeartbeats 8000000 in
set_option maxRecDepth 100000 in
theorem impl_EntryRight.calls (k : Nat) (A0_0 : Option Addr) (c0_0 : Nat) (l0_0 : List (S126)) (A0_1 : Option Addr) (c0_1 : Nat) (l0_1 : List (S111)) (r : Bool) (w : World) (hr0_0 : Kd.C k126 w A0_0 l0_0.length l0_0) (hc0_0 : l0_0.length ≤ c0_0) (hr0_1 : Kd.C k111 w A0_1 l0_1.length l0_1) (hc0_1 : l0_1.length ≤ c0_1) (h : impl_EntryRight.f k l0_0 l0_1 = some r) :
  Calls Tryd.prog 131 #[.agg #[.slice A0_0 l0_0.length c0_0, .slice A0_1 l0_1.length c0_1]] w fun e w' => e = .returned (.bool r) ∧ Below w.heap.size w w' := by
 have hu81 := Tryd.underlying81
 have hu111 := Tryd.underlying111
 have HR0_0 := Aside0.mk hr0_0
 have HC0_0 := Aside0.mk hc0_0
 clear hr0_0 hc0_0
 have HR0_1 := Aside0.mk hr0_1
 have HC0_1 := Aside0.mk hc0_1
 clear hr0_1 hc0_1
 have HB := Aside0.mk (Below.refl w.heap.size w)
 have H : (if (l0_0.length : Int) = 0 then (impl_EntryRight.j0 k true l0_0 l0_1) else ((impl_DnRight.f k l0_0).bind fun t401 => (if t401 = true then (impl_EntryRight.j0 k (decide ((l0_1.length : Int) > 8)) l0_0 l0_1) else (impl_EntryRight.j0 k true l0_0 l0_1)))) = some r := h
 clear h
 have HC2 := Aside0.mk H
 clear H
 go_enter Tryd.func131, Tryd.ntmps131
 go_upto_region 1 with (first | ((with_reducible refine gate_dst (N := 1) rfl ?_); (try (refine gate_guard (by rfl) ?_; dsimp only)); refine box_event ?hg (N := 1) ?hd (cs := #[.slice A0_0 l0_0.length c0_0, .slice A0_1 l0_1.length c0_1]) (t := 81) ?hr ?_; (case hd => rfl); (case hg => rfl); (case hr => first | (go_simp; done) | (go_simp; rfl)); intro gb400 hg w3 hbox hb; have n0_ := Aside0.mk (below_step HBa hb); have n1_ := Aside0.mk (hbox); have n2_ := BSz w hg HBa; have n3_ := BSz w hg HBa; clear HB; have HB := n0_; have BK400 := n1_; have GW400 := n2_; have GE400 := n3_; clear n0_ n1_ n2_ n3_; clear hb hbox hg))
 (try simp only [Act.put, List.setIfInBounds_toArray, List.set_cons_zero, List.set_cons_succ])
 go_cut [20] (fun v20 wc => ∃ (kq : Nat) (x20_1 : Bool), v20 = .bool x20_1 ∧ Aside0 (impl_EntryRight.j0 kq x20_1 l0_0 l0_1 = some r) ∧ Aside0 (kq ≤ k) ∧ Aside0 (wc.heap[gb400]? = some (.cells #[(.slice A0_0 l0_0.length c0_0), (.slice A0_1 l0_1.length c0_1)] 81 (0, 0))) ∧ Aside0 (Below w.heap.size w wc))
 case first =>
  have H := HC2.out
  clear HC2
  by_cases c4 : (l0_0.length : Int) = 0
  ·rw [if_pos c4] at H
   have c4b0 : ((l0_0.length : Int) == 0) = true := beq_iff_eq.mpr c4
   have c4b1 : ((l0_0.length : Int) != 0) = false := bne_eq_false_iff_eq.mpr c4
   clear c4
   (first | rw [c4b0] | rw [c4v0] | (simp only [i64_w, i32_w]; rw [c4b0]) | (simp only [i64_w, i32_w]; rw [c4v0]) | skip)
   have H' := Aside0.mk H
   clear H
   have hcz5_0 := C1z BK400
   have hcz5_1 := C2z BK400
   have hfz5_0 := blk_frozen BK400.out 0
   have hfz5_1 := blk_frozen BK400.out 1
   go_wp2
   go_meet
   case rel => exact ⟨_, (true), EZc, H', ⟨by first | omega | exact Nat.le_refl _⟩, ⟨by (with_reducible repeat (first | refine blk_drewN ?_ _ | refine blk_drew ?_ | refine blk_alloc ?_ _)); exact BK400.out⟩, ⟨by repeat (first | (with_reducible first | exact HB.out | apply below_alloc | apply pw_below_drewN | apply below_drew1 | refine below_set ?_ GE400.out) | exact HB.out)⟩⟩
  rw [if_neg c4] at H
  have c4b0 : ((l0_0.length : Int) == 0) = false := beq_eq_false_iff_ne.mpr c4
  have c4b1 : ((l0_0.length : Int) != 0) = true := bne_iff_ne.mpr c4
  have c4b2 : ¬ (l0_0 = []) := fun h_ => c4 (by rw [h_]; rfl)
  (first | rw [c4b0] | rw [c4v0] | (simp only [i64_w, i32_w]; rw [c4b0]) | (simp only [i64_w, i32_w]; rw [c4v0]) | skip)
  replace H := Option.bind_eq_some_iff.mp H
  obtain ⟨t401, A60, H⟩ := H
  replace H : (if t401 = true then (impl_EntryRight.j0 k (decide ((l0_1.length : Int) > 8)) l0_0 l0_1) else (impl_EntryRight.j0 k true l0_0 l0_1)) = some r := H
  have A6 := Aside0.mk A60
  clear A60
  by_cases c7 : t401 = true
  ·subst c7
   have H1 : (impl_EntryRight.j0 k (decide ((l0_1.length : Int) > 8)) l0_0 l0_1) = some r := by rw [if_pos rfl] at H; exact H
   clear H
   have H := H1
   clear H1
   have H' := Aside0.mk H
   clear H
   have hcz8_0 := C1z BK400
   have hcz8_1 := C2z BK400
   have hfz8_0 := blk_frozen BK400.out 0
   have hfz8_1 := blk_frozen BK400.out 1
   go_wp2_with (first | (go_at_call 158; (with_reducible refine (impl_DnRight.calls k _ _ l0_0 true _ ?side1 ?side2 A6.out).mono ?_); (case side1 => exact KCz (Kd.C_below HR0_0.out HB.out)); (case side2 => exact HC0_0.out); rintro e w9 ⟨rfl, hb⟩; have n0_ := BBz BK400 hb; have n1_ := Aside0.mk (below_step (HBb GE400) hb); clear BK400; clear HB; have BK400 := n0_; have HB := n1_; clear n0_ n1_; (try clear hb); (try clear hb2); (try clear hk); (try clear hi); have hcz10_0 := C1z BK400; have hcz10_1 := C2z BK400; have hfz10_0 := blk_frozen BK400.out 0; have hfz10_1 := blk_frozen BK400.out 1))
   go_meet
   case rel => exact ⟨_, (decide ((l0_1.length : Int) > 8)), EZc, H', ⟨by first | omega | exact Nat.le_refl _⟩, ⟨by (with_reducible repeat (first | refine blk_drewN ?_ _ | refine blk_drew ?_ | refine blk_alloc ?_ _)); exact BK400.out⟩, ⟨by repeat (first | (with_reducible first | exact HB.out | apply below_alloc | apply pw_below_drewN | apply below_drew1 | refine below_set ?_ GE400.out) | exact HB.out)⟩⟩
  replace c7 := Bool.eq_false_iff.mpr c7
  subst c7
  have H1 : (impl_EntryRight.j0 k true l0_0 l0_1) = some r := by rw [if_neg (show ¬ (false = true) by decide)] at H; exact H
  clear H
  have H := H1
  clear H1
  have H' := Aside0.mk H
  clear H
  have hcz11_0 := C1z BK400
  have hcz11_1 := C2z BK400
  have hfz11_0 := blk_frozen BK400.out 0
  have hfz11_1 := blk_frozen BK400.out 1
  go_wp2_with (first | (go_at_call 158; (with_reducible refine (impl_DnRight.calls k _ _ l0_0 false _ ?side1 ?side2 A6.out).mono ?_); (case side1 => exact KCz (Kd.C_below HR0_0.out HB.out)); (case side2 => exact HC0_0.out); rintro e w12 ⟨rfl, hb⟩; have n0_ := BBz BK400 hb; have n1_ := Aside0.mk (below_step (HBb GE400) hb); clear BK400; clear HB; have BK400 := n0_; have HB := n1_; clear n0_ n1_; (try clear hb); (try clear hb2); (try clear hk); (try clear hi)))
  go_meet
  case rel => exact ⟨_, (true), EZc, H', ⟨by first | omega | exact Nat.le_refl _⟩, ⟨by (with_reducible repeat (first | refine blk_drewN ?_ _ | refine blk_drew ?_ | refine blk_alloc ?_ _)); exact BK400.out⟩, ⟨by repeat (first | (with_reducible first | exact HB.out | apply below_alloc | apply pw_below_drewN | apply below_drew1 | refine below_set ?_ GE400.out) | exact HB.out)⟩⟩
 case rest =>
  clear HC2
  try clear c1
  try clear p2
  try clear c4
  try clear c4b0
  try clear c4b1
  try clear c4b2
  try clear c7
  try clear hcz10_0
  try clear hcz10_1
  try clear hcz11_0
  try clear hcz11_1
  try clear hcz5_0
  try clear hcz5_1
  try clear hcz8_0
  try clear hcz8_1
  try clear hfz10_0
  try clear hfz10_1
  try clear hfz11_0
  try clear hfz11_1
  try clear hfz5_0
  try clear hfz5_1
  try clear hfz8_0
  try clear hfz8_1
  obtain ⟨kq, x20_1, rfl, HA, HJ1, BK400, HB⟩ := hcut
  cases kq with
  | zero => exact absurd HA.out (by simp [impl_EntryRight.j0])
  | succ kj1 =>
   have H := HA.out
   clear HA
   simp only [impl_EntryRight.j0] at H
   by_cases c13 : x20_1 = true
   ·subst c13
    have H1 : (some false) = some r := by rw [if_pos rfl] at H; exact H
    clear H
    have H := H1
    clear H1
    obtain rfl := Option.some.inj H
    go_wp2
    go_ret
    exact ⟨EZa, HBb GE400⟩
   replace c13 := Bool.eq_false_iff.mpr c13
   subst c13
   have H1 : (impl_EntryRight.l0 kj1 l0_1 (l0_1.length : Int) 0 l0_0 l0_1) = some r := by rw [if_neg (show ¬ (false = true) by decide)] at H; exact H
   clear H
   have H := H1
   clear H1
   have H' := Aside0.mk H
   clear H
   have hcz14_0 := C1z BK400
   have hcz14_1 := C2z BK400
   have hfz14_0 := blk_frozen BK400.out 0
   have hfz14_1 := blk_frozen BK400.out 1
   go_wp2
   go_loopg [24] kj1 (fun kq v24 w' => ∃ (x24_2 : Int), v24 = .int .i64 x24_2 ∧ Aside0 (impl_EntryRight.l0 kq l0_1 (l0_1.length : Int) x24_2 l0_0 l0_1 = some r) ∧ Aside0 (kq ≤ kj1) ∧ Aside0 (w'.heap[gb400]? = some (.cells #[(.slice A0_0 l0_0.length c0_0), (.slice A0_1 l0_1.length c0_1)] 81 (0, 0))) ∧ Aside0 (Below w.heap.size w w'))
   case atStart => exact ⟨(0), EZc, H', ⟨Nat.le_refl _⟩, ⟨by (with_reducible repeat (first | refine blk_drewN ?_ _ | refine blk_drew ?_ | refine blk_alloc ?_ _)); exact BK400.out⟩, ⟨by repeat (first | (with_reducible first | exact HB.out | apply below_alloc | apply pw_below_drewN | apply below_drew1 | refine below_set ?_ GE400.out) | exact HB.out)⟩⟩
   case round =>
    clear H'
    try clear c1
    try clear p2
    try clear c4
    try clear c4b0
    try clear c4b1
    try clear c4b2
    try clear c7
    try clear c13
    try clear hcz10_0
    try clear hcz10_1
    try clear hcz11_0
    try clear hcz11_1
    try clear hcz14_0
    try clear hcz14_1
    try clear hcz5_0
    try clear hcz5_1
    try clear hcz8_0
    try clear hcz8_1
    try clear hfz10_0
    try clear hfz10_1
    try clear hfz11_0
    try clear hfz11_1
    try clear hfz14_0
    try clear hfz14_1
    try clear hfz5_0
    try clear hfz5_1
    try clear hfz8_0
    try clear hfz8_1
    try clear p2
    obtain ⟨x24_2, rfl, HA, HK2, BK400, HB⟩ := hrel
    cases gk with
    | zero => exact absurd HA.out (by simp [impl_EntryRight.l0])
    | succ k2 =>
     have H := HA.out
     clear HA
     simp only [impl_EntryRight.l0] at H
     by_cases c15 : x24_2 < (l0_1.length : Int)
     rotate_left
     ·rw [if_neg c15] at H
      have c15b0 : decide (x24_2 < (l0_1.length : Int)) = false := decide_eq_false c15
      clear c15
      obtain rfl := Option.some.inj H
      go_wp2
      go_ret
      exact ⟨EZa, HBb GE400⟩
     rw [if_pos c15] at H
     have c15b0 : decide (x24_2 < (l0_1.length : Int)) = true := decide_eq_true c15
     clear c15
     by_cases c16 : 0 ≤ x24_2
     rotate_left
     ·rw [if_neg c16] at H
      exact absurd H (by simp)
     rw [if_pos c16] at H
     have c16b0 : decide (0 ≤ x24_2) = true := decide_eq_true c16
     clear c16
     by_cases c17 : x24_2 < (l0_1.length : Int)
     rotate_left
     ·rw [if_neg c17] at H
      exact absurd H (by simp)
     rw [if_pos c17] at H
     have c17b0 : decide (x24_2 < (l0_1.length : Int)) = true := decide_eq_true c17
     clear c17
     replace H := Option.bind_eq_some_iff.mp H
     obtain ⟨t404, A180, H⟩ := H
     replace H : (if t404 = true then (if x24_2 > 0 then (if 0 ≤ (wrap64 (x24_2 - 1)) then (if (wrap64 (x24_2 - 1)) < (l0_1.length : Int) then (if ((Op.bytesLess (((rd_T111 l0_1 (wrap64 (x24_2 - 1))).f0).toList) (((rd_T111 l0_1 x24_2).f0).toList)) = true) then (impl_EntryRight.l0 k2 l0_1 (l0_1.length : Int) (wrap64 (x24_2 + 1)) l0_0 l0_1) else (some false)) else (none)) else (none)) else (impl_EntryRight.l0 k2 l0_1 (l0_1.length : Int) (wrap64 (x24_2 + 1)) l0_0 l0_1)) else (some false)) = some r := H
     have A18 := Aside0.mk A180
     clear A180
     by_cases c19 : t404 = true
     rotate_left
     ·replace c19 := Bool.eq_false_iff.mpr c19
      subst c19
      have H1 : (some false) = some r := by rw [if_neg (show ¬ (false = true) by decide)] at H; exact H
      clear H
      have H := H1
      clear H1
      obtain rfl := Option.some.inj H
      have p402 : 0 ≤ (x24_2 : Int) := ODz
      have q402 : x24_2 < (l0_1.length : Int) := ODz
      obtain ⟨ad402, A402_1, c402_1, e402, hx402_0, hx402_1, hl402_1, hi402_1⟩ := at_T111 HR0_1.out x24_2 p402 q402
      cases e402
      replace hx402_0 := HXz HB hx402_0
      replace hx402_1 := HXz HB hx402_1
      have HR402_1 := Aside0.mk hi402_1
      have HC402_1 := Aside0.mk hl402_1
      clear hi402_1 hl402_1
      replace p402 := eq_true p402
      replace q402 := eq_true q402
      try go_wp2_with (first | ((with_reducible refine gate_dst (N := 4) rfl ?_); (try (refine gate_guard (by rfl) ?_; dsimp only)); refine box_event ?hg (N := 4) ?hd (cs := #[.string (⟨#[]⟩ : ByteArray), .slice none 0 0]) (t := 111) ?hr ?_; (case hd => rfl); (case hg => rfl); (case hr => first | (go_simp; done) | (go_simp; rfl)); intro gb403 hg w43 hbox hb; have n0_ := BBz BK400 hb; have n1_ := Aside0.mk (below_step (HBb GE400) hb); have n2_ := Aside0.mk (hbox); have n3_ := BSz w hg (HBb GE400); have n4_ := BSz w hg (HBb GE400); have n5_ := BNz BK400 hg; have n6_ := BMz BK400 hg; clear BK400; clear HB; have BK400 := n0_; have HB := n1_; have BK403 := n2_; have GW403 := n3_; have GE403 := n4_; have NB400_403 := n5_; have NB403_400 := n6_; clear n0_ n1_ n2_ n3_ n4_ n5_ n6_; clear hb hbox hg; have hnb44 := NB403_400.out; have hnc44 := NB400_403.out; have hcz45_0 := C1z BK403; have hcz45_1 := C2z BK403; have hfz45_0 := blk_frozen BK403.out 0; have hfz45_1 := blk_frozen BK403.out 1))
      have n0_ : Aside0 (((w43.setCell ⟨gb403, 0, none⟩ (.string ((rd_T111 l0_1 x24_2).f0))).setCell ⟨gb403, 1, none⟩ (.slice A402_1 ((rd_T111 l0_1 x24_2).f1).length c402_1)).heap[gb400]? = some (.cells #[.slice A0_0 l0_0.length c0_0, .slice (some ad402) l0_1.length c0_1] 81 (0, 0))) := ⟨by (with_reducible repeat (first | refine blk_drewN ?_ _ | refine blk_drew ?_ | refine blk_alloc ?_ _)); refine blk_far ?_ NB400_403.out _; (with_reducible repeat (first | refine blk_drewN ?_ _ | refine blk_drew ?_ | refine blk_alloc ?_ _)); refine blk_far ?_ NB400_403.out _; (with_reducible repeat (first | refine blk_drewN ?_ _ | refine blk_drew ?_ | refine blk_alloc ?_ _)); exact BK400.out⟩
      have n1_ : Aside0 (((w43.setCell ⟨gb403, 0, none⟩ (.string ((rd_T111 l0_1 x24_2).f0))).setCell ⟨gb403, 1, none⟩ (.slice A402_1 ((rd_T111 l0_1 x24_2).f1).length c402_1)).heap[gb403]? = some (.cells #[.string ((rd_T111 l0_1 x24_2).f0), .slice A402_1 ((rd_T111 l0_1 x24_2).f1).length c402_1] 111 (0, 0))) := ⟨by (with_reducible repeat (first | refine blk_drewN ?_ _ | refine blk_drew ?_ | refine blk_alloc ?_ _)); refine blk_put (cs := #[.string ((rd_T111 l0_1 x24_2).f0), .slice none 0 0]) ?_ 1 _ rfl; (with_reducible repeat (first | refine blk_drewN ?_ _ | refine blk_drew ?_ | refine blk_alloc ?_ _)); refine blk_put (cs := #[.string (⟨#[]⟩ : ByteArray), .slice none 0 0]) ?_ 0 _ rfl; (with_reducible repeat (first | refine blk_drewN ?_ _ | refine blk_drew ?_ | refine blk_alloc ?_ _)); exact BK403.out⟩
      have n2_ : Aside0 (Below w.heap.size w ((w43.setCell ⟨gb403, 0, none⟩ (.string ((rd_T111 l0_1 x24_2).f0))).setCell ⟨gb403, 1, none⟩ (.slice A402_1 ((rd_T111 l0_1 x24_2).f1).length c402_1))) := ⟨by repeat (first | (with_reducible first | exact HB.out | apply below_alloc | apply pw_below_drewN | apply below_drew1 | refine below_set ?_ GE400.out | refine below_set ?_ GE403.out) | exact HB.out)⟩
      (try clear BK400)
      (try clear BK403)
      (try clear HB)
      generalize ((w43.setCell ⟨gb403, 0, none⟩ (.string ((rd_T111 l0_1 x24_2).f0))).setCell ⟨gb403, 1, none⟩ (.slice A402_1 ((rd_T111 l0_1 x24_2).f1).length c402_1)) = w46 at n0_ n1_ n2_ ⊢
      have BK400 := n0_
      have BK403 := n1_
      have HB := n2_
      clear n0_ n1_ n2_
      have n0_ := Aside0.mk (blk_drew BK400.out)
      have n1_ := Aside0.mk (blk_drew BK403.out)
      have n2_ := Aside0.mk (below_drew1 HB.out)
      clear BK400
      clear BK403
      clear HB
      have BK400 := n0_
      have BK403 := n1_
      have HB := n2_
      clear n0_ n1_ n2_
      refine start_ (n := 19) (S := fun w' => w'.cell? ⟨gb403, 0, none⟩ = some (.string ((rd_T111 l0_1 x24_2).f0)) ∧ w'.cell? ⟨gb403, 1, none⟩ = some (.slice A402_1 ((rd_T111 l0_1 x24_2).f1).length c402_1)) (ds := []) (bz 19 0) (by kernel_rfl) rfl (by kernel_rfl) ⟨(blk_cell BK403.out 0).trans rfl, (blk_cell BK403.out 1).trans rfl⟩ (fun hHeld => ?_); refine with_tabW impl_EntryRight.tab6 impl_EntryRight.bits6 (fun HT_ HW_ => ?_)
      generalize w46.drew = w47 at BK400 BK403 HB hHeld ⊢
      refine take_ (i := 0) (N := some 29) (v := ?_) (a' := ?_) (bz 19 1) rfl rfl (take_ofW HT_.out HW_.out (by kernel_rfl)) (fun _ _ _ h => h) (Or.inl ⟨by rfl, ?_⟩) hHeld ?_ ?_
      rotate_left
      ·rintro w' ⟨s0, s1⟩
       go_simp
       with_reducible rfl
      rotate_left
      ·simp only [PUz]
       rfl
      refine one_ (i := 1) (N := some 30) (bz 19 3) rfl rfl (one_of HT_.out (by kernel_rfl)) (by decide) (fun K hK => ?_)
      refine goes_ Tryd.func80 (by kernel_rfl) rfl #[.agg #[.string ((rd_T111 l0_1 x24_2).f0), .slice A402_1 ((rd_T111 l0_1 x24_2).f1).length c402_1]] (by rfl) rfl rfl MPz ?_
      with_reducible refine (impl_isAttr.calls k2 ((rd_T111 l0_1 x24_2).f0) _ _ ((rd_T111 l0_1 x24_2).f1) false _ ?side1 ?side2 A18.out).mono ?_
      (case side1 => exact KCz (Kd.C_below HR402_1.out HB.out))
      (case side2 => exact HC402_1.out)
      rintro e w48 ⟨rfl, hb⟩
      refine ⟨_, rfl, ?_⟩
      have n0_ := BBz BK400 hb
      have n1_ := BBz BK403 hb
      have n2_ := Aside0.mk (below_step (HBc GE400 GE403) hb)
      clear BK400
      clear BK403
      clear HB
      have BK400 := n0_
      have BK403 := n1_
      have HB := n2_
      clear n0_ n1_ n2_
      (try clear hb)
      (try clear hb2)
      (try clear hk)
      (try clear hi)
      refine hK.out _ _ ⟨(blk_cell BK403.out 0).trans rfl, (blk_cell BK403.out 1).trans rfl⟩ (fun hHeld => ?_)
      clear hK K
      refine norm_ (a' := ?_) ?_ ?_
      rotate_left
      ·show Act.put _ (some 30) _ = _
       simp only [PUz]
       rfl
      refine PYz 2 31 (bz 19 7) rfl rfl (any_of HT_.out (by kernel_rfl)) ?_
      refine PYz 3 32 (bz 19 15) rfl rfl (any_of HT_.out (by kernel_rfl)) ?_
      refine PXz 4 33 (bz 19 31) rfl rfl (any_of HT_.out (by kernel_rfl)) ?_
      refine PXz 5 34 (bz 19 63) rfl rfl (any_of HT_.out (by kernel_rfl)) ?_
      refine PXz 6 35 (bz 19 127) rfl rfl (any_of HT_.out (by kernel_rfl)) ?_
      refine PXz 7 36 (bz 19 255) rfl rfl (any_of HT_.out (by kernel_rfl)) ?_
      refine PXz 8 37 (bz 19 511) rfl rfl (any_of HT_.out (by kernel_rfl)) ?_
      refine PXz 9 38 (bz 19 1023) rfl rfl (any_of HT_.out (by kernel_rfl)) ?_
      refine PXz 10 39 (bz 19 2047) rfl rfl (any_of HT_.out (by kernel_rfl)) ?_
      refine PXz 11 40 (bz 19 4095) rfl rfl (any_of HT_.out (by kernel_rfl)) ?_
      refine PXz 12 41 (bz 19 8191) rfl rfl (any_of HT_.out (by kernel_rfl)) ?_
      refine PXz 13 42 (bz 19 16383) rfl rfl (any_of HT_.out (by kernel_rfl)) ?_
      refine PXz 14 43 (bz 19 32767) rfl rfl (any_of HT_.out (by kernel_rfl)) ?_
      refine PXz 15 44 (bz 19 65535) rfl rfl (any_of HT_.out (by kernel_rfl)) ?_
      refine PXz 16 45 (bz 19 131071) rfl rfl (any_of HT_.out (by kernel_rfl)) ?_
      refine PXz 17 46 (bz 19 262143) rfl rfl (any_of HT_.out (by kernel_rfl)) ?_
      refine PYz 18 47 (bz 19 524287) rfl rfl (any_of HT_.out (by kernel_rfl)) ?_
      refine done_ (done_of HT_.out (by kernel_rfl)) ?_
      try go_wp2
      go_ret
      exact ⟨EZa, HBc GE400 GE403⟩
     subst c19
     have H1 : (if x24_2 > 0 then (if 0 ≤ (wrap64 (x24_2 - 1)) then (if (wrap64 (x24_2 - 1)) < (l0_1.length : Int) then (if ((Op.bytesLess (((rd_T111 l0_1 (wrap64 (x24_2 - 1))).f0).toList) (((rd_T111 l0_1 x24_2).f0).toList)) = true) then (impl_EntryRight.l0 k2 l0_1 (l0_1.length : Int) (wrap64 (x24_2 + 1)) l0_0 l0_1) else (some false)) else (none)) else (none)) else (impl_EntryRight.l0 k2 l0_1 (l0_1.length : Int) (wrap64 (x24_2 + 1)) l0_0 l0_1)) = some r := by rw [if_pos rfl] at H; exact H
     clear H
     have H := H1
     clear H1
     by_cases c20 : x24_2 > 0
     rotate_left
     ·rw [if_neg c20] at H
      have c20b0 : decide (0 < x24_2) = false := decide_eq_false c20
      clear c20
      have H' := Aside0.mk H
      clear H
      have p402 : 0 ≤ (x24_2 : Int) := ODz
      have q402 : x24_2 < (l0_1.length : Int) := ODz
      obtain ⟨ad402, A402_1, c402_1, e402, hx402_0, hx402_1, hl402_1, hi402_1⟩ := at_T111 HR0_1.out x24_2 p402 q402
      cases e402
      replace hx402_0 := HXz HB hx402_0
      replace hx402_1 := HXz HB hx402_1
      have HR402_1 := Aside0.mk hi402_1
      have HC402_1 := Aside0.mk hl402_1
      clear hi402_1 hl402_1
      replace p402 := eq_true p402
      replace q402 := eq_true q402
      try go_wp2_with (first | ((with_reducible refine gate_dst (N := 4) rfl ?_); (try (refine gate_guard (by rfl) ?_; dsimp only)); refine box_event ?hg (N := 4) ?hd (cs := #[.string (⟨#[]⟩ : ByteArray), .slice none 0 0]) (t := 111) ?hr ?_; (case hd => rfl); (case hg => rfl); (case hr => first | (go_simp; done) | (go_simp; rfl)); intro gb403 hg w37 hbox hb; have n0_ := BBz BK400 hb; have n1_ := Aside0.mk (below_step (HBb GE400) hb); have n2_ := Aside0.mk (hbox); have n3_ := BSz w hg (HBb GE400); have n4_ := BSz w hg (HBb GE400); have n5_ := BNz BK400 hg; have n6_ := BMz BK400 hg; clear BK400; clear HB; have BK400 := n0_; have HB := n1_; have BK403 := n2_; have GW403 := n3_; have GE403 := n4_; have NB400_403 := n5_; have NB403_400 := n6_; clear n0_ n1_ n2_ n3_ n4_ n5_ n6_; clear hb hbox hg; have hnb38 := NB403_400.out; have hnc38 := NB400_403.out; have hcz39_0 := C1z BK403; have hcz39_1 := C2z BK403; have hfz39_0 := blk_frozen BK403.out 0; have hfz39_1 := blk_frozen BK403.out 1))
      have n0_ : Aside0 (((w37.setCell ⟨gb403, 0, none⟩ (.string ((rd_T111 l0_1 x24_2).f0))).setCell ⟨gb403, 1, none⟩ (.slice A402_1 ((rd_T111 l0_1 x24_2).f1).length c402_1)).heap[gb400]? = some (.cells #[.slice A0_0 l0_0.length c0_0, .slice (some ad402) l0_1.length c0_1] 81 (0, 0))) := ⟨by (with_reducible repeat (first | refine blk_drewN ?_ _ | refine blk_drew ?_ | refine blk_alloc ?_ _)); refine blk_far ?_ NB400_403.out _; (with_reducible repeat (first | refine blk_drewN ?_ _ | refine blk_drew ?_ | refine blk_alloc ?_ _)); refine blk_far ?_ NB400_403.out _; (with_reducible repeat (first | refine blk_drewN ?_ _ | refine blk_drew ?_ | refine blk_alloc ?_ _)); exact BK400.out⟩
      have n1_ : Aside0 (((w37.setCell ⟨gb403, 0, none⟩ (.string ((rd_T111 l0_1 x24_2).f0))).setCell ⟨gb403, 1, none⟩ (.slice A402_1 ((rd_T111 l0_1 x24_2).f1).length c402_1)).heap[gb403]? = some (.cells #[.string ((rd_T111 l0_1 x24_2).f0), .slice A402_1 ((rd_T111 l0_1 x24_2).f1).length c402_1] 111 (0, 0))) := ⟨by (with_reducible repeat (first | refine blk_drewN ?_ _ | refine blk_drew ?_ | refine blk_alloc ?_ _)); refine blk_put (cs := #[.string ((rd_T111 l0_1 x24_2).f0), .slice none 0 0]) ?_ 1 _ rfl; (with_reducible repeat (first | refine blk_drewN ?_ _ | refine blk_drew ?_ | refine blk_alloc ?_ _)); refine blk_put (cs := #[.string (⟨#[]⟩ : ByteArray), .slice none 0 0]) ?_ 0 _ rfl; (with_reducible repeat (first | refine blk_drewN ?_ _ | refine blk_drew ?_ | refine blk_alloc ?_ _)); exact BK403.out⟩
      have n2_ : Aside0 (Below w.heap.size w ((w37.setCell ⟨gb403, 0, none⟩ (.string ((rd_T111 l0_1 x24_2).f0))).setCell ⟨gb403, 1, none⟩ (.slice A402_1 ((rd_T111 l0_1 x24_2).f1).length c402_1))) := ⟨by repeat (first | (with_reducible first | exact HB.out | apply below_alloc | apply pw_below_drewN | apply below_drew1 | refine below_set ?_ GE400.out | refine below_set ?_ GE403.out) | exact HB.out)⟩
      (try clear BK400)
      (try clear BK403)
      (try clear HB)
      generalize ((w37.setCell ⟨gb403, 0, none⟩ (.string ((rd_T111 l0_1 x24_2).f0))).setCell ⟨gb403, 1, none⟩ (.slice A402_1 ((rd_T111 l0_1 x24_2).f1).length c402_1)) = w40 at n0_ n1_ n2_ ⊢
      have BK400 := n0_
      have BK403 := n1_
      have HB := n2_
      clear n0_ n1_ n2_
      have n0_ := Aside0.mk (blk_drew BK400.out)
      have n1_ := Aside0.mk (blk_drew BK403.out)
      have n2_ := Aside0.mk (below_drew1 HB.out)
      clear BK400
      clear BK403
      clear HB
      have BK400 := n0_
      have BK403 := n1_
      have HB := n2_
      clear n0_ n1_ n2_
      refine start_ (n := 19) (S := fun w' => w'.cell? ⟨gb403, 0, none⟩ = some (.string ((rd_T111 l0_1 x24_2).f0)) ∧ w'.cell? ⟨gb403, 1, none⟩ = some (.slice A402_1 ((rd_T111 l0_1 x24_2).f1).length c402_1)) (ds := []) (bz 19 0) (by kernel_rfl) rfl (by kernel_rfl) ⟨(blk_cell BK403.out 0).trans rfl, (blk_cell BK403.out 1).trans rfl⟩ (fun hHeld => ?_); refine with_tabW impl_EntryRight.tab6 impl_EntryRight.bits6 (fun HT_ HW_ => ?_)
      generalize w40.drew = w41 at BK400 BK403 HB hHeld ⊢
      refine take_ (i := 0) (N := some 29) (v := ?_) (a' := ?_) (bz 19 1) rfl rfl (take_ofW HT_.out HW_.out (by kernel_rfl)) (fun _ _ _ h => h) (Or.inl ⟨by rfl, ?_⟩) hHeld ?_ ?_
      rotate_left
      ·rintro w' ⟨s0, s1⟩
       go_simp
       with_reducible rfl
      rotate_left
      ·simp only [PUz]
       rfl
      refine one_ (i := 1) (N := some 30) (bz 19 3) rfl rfl (one_of HT_.out (by kernel_rfl)) (by decide) (fun K hK => ?_)
      refine goes_ Tryd.func80 (by kernel_rfl) rfl #[.agg #[.string ((rd_T111 l0_1 x24_2).f0), .slice A402_1 ((rd_T111 l0_1 x24_2).f1).length c402_1]] (by rfl) rfl rfl MPz ?_
      with_reducible refine (impl_isAttr.calls k2 ((rd_T111 l0_1 x24_2).f0) _ _ ((rd_T111 l0_1 x24_2).f1) true _ ?side1 ?side2 A18.out).mono ?_
      (case side1 => exact KCz (Kd.C_below HR402_1.out HB.out))
      (case side2 => exact HC402_1.out)
      rintro e w42 ⟨rfl, hb⟩
      refine ⟨_, rfl, ?_⟩
      have n0_ := BBz BK400 hb
      have n1_ := BBz BK403 hb
      have n2_ := Aside0.mk (below_step (HBc GE400 GE403) hb)
      clear BK400
      clear BK403
      clear HB
      have BK400 := n0_
      have BK403 := n1_
      have HB := n2_
      clear n0_ n1_ n2_
      (try clear hb)
      (try clear hb2)
      (try clear hk)
      (try clear hi)
      refine hK.out _ _ ⟨(blk_cell BK403.out 0).trans rfl, (blk_cell BK403.out 1).trans rfl⟩ (fun hHeld => ?_)
      clear hK K
      refine norm_ (a' := ?_) ?_ ?_
      rotate_left
      ·show Act.put _ (some 30) _ = _
       simp only [PUz]
       rfl
      refine PYz 2 31 (bz 19 7) rfl rfl (any_of HT_.out (by kernel_rfl)) ?_
      refine PYz 3 32 (bz 19 15) rfl rfl (any_of HT_.out (by kernel_rfl)) ?_
      refine PYz 4 33 (bz 19 31) rfl rfl (any_of HT_.out (by kernel_rfl)) ?_
      refine PYz 5 34 (bz 19 63) rfl rfl (any_of HT_.out (by kernel_rfl)) ?_
      refine PYz 6 35 (bz 19 127) rfl rfl (any_of HT_.out (by kernel_rfl)) ?_
      refine PXz 7 36 (bz 19 255) rfl rfl (any_of HT_.out (by kernel_rfl)) ?_
      refine PXz 8 37 (bz 19 511) rfl rfl (any_of HT_.out (by kernel_rfl)) ?_
      refine PXz 9 38 (bz 19 1023) rfl rfl (any_of HT_.out (by kernel_rfl)) ?_
      refine PXz 10 39 (bz 19 2047) rfl rfl (any_of HT_.out (by kernel_rfl)) ?_
      refine PXz 11 40 (bz 19 4095) rfl rfl (any_of HT_.out (by kernel_rfl)) ?_
      refine PXz 12 41 (bz 19 8191) rfl rfl (any_of HT_.out (by kernel_rfl)) ?_
      refine PXz 13 42 (bz 19 16383) rfl rfl (any_of HT_.out (by kernel_rfl)) ?_
      refine PXz 14 43 (bz 19 32767) rfl rfl (any_of HT_.out (by kernel_rfl)) ?_
      refine PXz 15 44 (bz 19 65535) rfl rfl (any_of HT_.out (by kernel_rfl)) ?_
      refine PXz 16 45 (bz 19 131071) rfl rfl (any_of HT_.out (by kernel_rfl)) ?_
      refine PYz 17 46 (bz 19 262143) rfl rfl (any_of HT_.out (by kernel_rfl)) ?_
      refine PYz 18 47 (bz 19 524287) rfl rfl (any_of HT_.out (by kernel_rfl)) ?_
      refine done_ (done_of HT_.out (by kernel_rfl)) ?_
      try go_wp2
      go_roundg k2
      case measure => have := HJ1.out; have := HK2.out; omega
      case rel => exact ⟨(wrap64 (x24_2 + 1)), EZc, H', ⟨by have := HJ1.out; have := HK2.out; omega⟩, ⟨by (with_reducible repeat (first | refine blk_drewN ?_ _ | refine blk_drew ?_ | refine blk_alloc ?_ _)); exact BK400.out⟩, ⟨by repeat (first | (with_reducible first | exact HB.out | apply below_alloc | apply pw_below_drewN | apply below_drew1 | refine below_set ?_ GE400.out | refine below_set ?_ GE403.out) | exact HB.out)⟩⟩
     rw [if_pos c20] at H
     have c20b0 : decide (0 < x24_2) = true := decide_eq_true c20
     clear c20
     obtain ⟨ji21, hji21⟩ : ∃ j_ : Int, (wrap64 (x24_2 - 1)) = j_ := ⟨_, rfl⟩
     replace H : (if 0 ≤ (ji21) then (if (ji21) < (l0_1.length : Int) then (if ((Op.bytesLess (((rd_T111 l0_1 (ji21)).f0).toList) (((rd_T111 l0_1 x24_2).f0).toList)) = true) then (impl_EntryRight.l0 k2 l0_1 (l0_1.length : Int) (wrap64 (x24_2 + 1)) l0_0 l0_1) else (some false)) else (none)) else (none)) = some r := by first | (rw [hji21] at H; exact H) | (simp only [hji21] at H ⊢; exact H)
     (try rw [hji21] at A18)
     have hji21w : (IntKind.i64.wrap (x24_2 - 1)) = ji21 := (i64_w _).trans hji21
     by_cases c22 : 0 ≤ (ji21)
     rotate_left
     ·rw [if_neg c22] at H
      exact absurd H (by simp)
     rw [if_pos c22] at H
     have c22b0 : decide (0 ≤ (ji21)) = true := decide_eq_true c22
     clear c22
     by_cases c23 : (ji21) < (l0_1.length : Int)
     rotate_left
     ·rw [if_neg c23] at H
      exact absurd H (by simp)
     rw [if_pos c23] at H
     have c23b0 : decide ((ji21) < (l0_1.length : Int)) = true := decide_eq_true c23
     clear c23
     by_cases c24 : ((Op.bytesLess (((rd_T111 l0_1 (ji21)).f0).toList) (((rd_T111 l0_1 x24_2).f0).toList)) = true)
     rotate_left
     ·rw [if_neg c24] at H
      have c24b0 : (Op.bytesLess (((rd_T111 l0_1 (ji21)).f0).toList) (((rd_T111 l0_1 x24_2).f0).toList)) = false := by simpa using c24
      clear c24
      obtain rfl := Option.some.inj H
      have p402 : 0 ≤ (x24_2 : Int) := ODz
      have q402 : x24_2 < (l0_1.length : Int) := ODz
      obtain ⟨ad402, A402_1, c402_1, e402, hx402_0, hx402_1, hl402_1, hi402_1⟩ := at_T111 HR0_1.out x24_2 p402 q402
      cases e402
      replace hx402_0 := HXz HB hx402_0
      replace hx402_1 := HXz HB hx402_1
      have HR402_1 := Aside0.mk hi402_1
      have HC402_1 := Aside0.mk hl402_1
      clear hi402_1 hl402_1
      replace p402 := eq_true p402
      replace q402 := eq_true q402
      try go_wp2_with (first | ((with_reducible refine gate_dst (N := 4) rfl ?_); (try (refine gate_guard (by rfl) ?_; dsimp only)); refine box_event ?hg (N := 4) ?hd (cs := #[.string (⟨#[]⟩ : ByteArray), .slice none 0 0]) (t := 111) ?hr ?_; (case hd => rfl); (case hg => rfl); (case hr => first | (go_simp; done) | (go_simp; rfl)); intro gb403 hg w31 hbox hb; have n0_ := BBz BK400 hb; have n1_ := Aside0.mk (below_step (HBb GE400) hb); have n2_ := Aside0.mk (hbox); have n3_ := BSz w hg (HBb GE400); have n4_ := BSz w hg (HBb GE400); have n5_ := BNz BK400 hg; have n6_ := BMz BK400 hg; clear BK400; clear HB; have BK400 := n0_; have HB := n1_; have BK403 := n2_; have GW403 := n3_; have GE403 := n4_; have NB400_403 := n5_; have NB403_400 := n6_; clear n0_ n1_ n2_ n3_ n4_ n5_ n6_; clear hb hbox hg; have hnb32 := NB403_400.out; have hnc32 := NB400_403.out; have hcz33_0 := C1z BK403; have hcz33_1 := C2z BK403; have hfz33_0 := blk_frozen BK403.out 0; have hfz33_1 := blk_frozen BK403.out 1))
      have n0_ : Aside0 (((w31.setCell ⟨gb403, 0, none⟩ (.string ((rd_T111 l0_1 x24_2).f0))).setCell ⟨gb403, 1, none⟩ (.slice A402_1 ((rd_T111 l0_1 x24_2).f1).length c402_1)).heap[gb400]? = some (.cells #[.slice A0_0 l0_0.length c0_0, .slice (some ad402) l0_1.length c0_1] 81 (0, 0))) := ⟨by (with_reducible repeat (first | refine blk_drewN ?_ _ | refine blk_drew ?_ | refine blk_alloc ?_ _)); refine blk_far ?_ NB400_403.out _; (with_reducible repeat (first | refine blk_drewN ?_ _ | refine blk_drew ?_ | refine blk_alloc ?_ _)); refine blk_far ?_ NB400_403.out _; (with_reducible repeat (first | refine blk_drewN ?_ _ | refine blk_drew ?_ | refine blk_alloc ?_ _)); exact BK400.out⟩
      have n1_ : Aside0 (((w31.setCell ⟨gb403, 0, none⟩ (.string ((rd_T111 l0_1 x24_2).f0))).setCell ⟨gb403, 1, none⟩ (.slice A402_1 ((rd_T111 l0_1 x24_2).f1).length c402_1)).heap[gb403]? = some (.cells #[.string ((rd_T111 l0_1 x24_2).f0), .slice A402_1 ((rd_T111 l0_1 x24_2).f1).length c402_1] 111 (0, 0))) := ⟨by (with_reducible repeat (first | refine blk_drewN ?_ _ | refine blk_drew ?_ | refine blk_alloc ?_ _)); refine blk_put (cs := #[.string ((rd_T111 l0_1 x24_2).f0), .slice none 0 0]) ?_ 1 _ (by first | rfl | (simp only [← hji21]; first | rfl | (simp; done))); (with_reducible repeat (first | refine blk_drewN ?_ _ | refine blk_drew ?_ | refine blk_alloc ?_ _)); refine blk_put (cs := #[.string (⟨#[]⟩ : ByteArray), .slice none 0 0]) ?_ 0 _ (by first | rfl | (simp only [← hji21]; first | rfl | (simp; done))); (with_reducible repeat (first | refine blk_drewN ?_ _ | refine blk_drew ?_ | refine blk_alloc ?_ _)); exact BK403.out⟩
      have n2_ : Aside0 (Below w.heap.size w ((w31.setCell ⟨gb403, 0, none⟩ (.string ((rd_T111 l0_1 x24_2).f0))).setCell ⟨gb403, 1, none⟩ (.slice A402_1 ((rd_T111 l0_1 x24_2).f1).length c402_1))) := ⟨by repeat (first | (with_reducible first | exact HB.out | apply below_alloc | apply pw_below_drewN | apply below_drew1 | refine below_set ?_ GE400.out | refine below_set ?_ GE403.out) | exact HB.out)⟩
      (try clear BK400)
      (try clear BK403)
      (try clear HB)
      generalize ((w31.setCell ⟨gb403, 0, none⟩ (.string ((rd_T111 l0_1 x24_2).f0))).setCell ⟨gb403, 1, none⟩ (.slice A402_1 ((rd_T111 l0_1 x24_2).f1).length c402_1)) = w34 at n0_ n1_ n2_ ⊢
      have BK400 := n0_
      have BK403 := n1_
      have HB := n2_
      clear n0_ n1_ n2_
      have n0_ := Aside0.mk (blk_drew BK400.out)
      have n1_ := Aside0.mk (blk_drew BK403.out)
      have n2_ := Aside0.mk (below_drew1 HB.out)
      clear BK400
      clear BK403
      clear HB
      have BK400 := n0_
      have BK403 := n1_
      have HB := n2_
      clear n0_ n1_ n2_
      have p405 : 0 ≤ ((ji21) : Int) := ODz
      have q405 : (ji21) < (l0_1.length : Int) := ODz
      obtain ⟨ad405, A405_1, c405_1, e405, hx405_0, hx405_1, hl405_1, hi405_1⟩ := at_T111 HR0_1.out (ji21) p405 q405
      have hw405_1 := hx405_1
      have hw405_0 := hx405_0
      obtain rfl : ad402 = ad405 := (by injection e405)
      replace hx405_0 := HXz HB hx405_0
      replace hx405_1 := HXz HB hx405_1
      have HR405_1 := Aside0.mk hi405_1
      have HC405_1 := Aside0.mk hl405_1
      clear hi405_1 hl405_1
      replace p405 := eq_true p405
      replace q405 := eq_true q405
      refine start_ (n := 19) (S := fun w' => w'.cell? ⟨gb403, 0, none⟩ = some (.string ((rd_T111 l0_1 x24_2).f0)) ∧ w'.cell? ⟨gb403, 1, none⟩ = some (.slice A402_1 ((rd_T111 l0_1 x24_2).f1).length c402_1) ∧ w'.cell? ⟨gb400, 0, none⟩ = some (.slice A0_0 l0_0.length c0_0) ∧ w'.cell? ⟨gb400, 1, none⟩ = some (.slice (some ad402) l0_1.length c0_1) ∧ w'.cell? (ad402.add (((ji21)).toNat * 2)) = some (.string ((rd_T111 l0_1 (ji21)).f0)) ∧ w'.cell? ⟨(ad402.add (((ji21)).toNat * 2)).block, (ad402.add (((ji21)).toNat * 2)).off + 1, none⟩ = some (.slice A405_1 ((rd_T111 l0_1 (ji21)).f1).length c405_1)) (ds := []) (bz 19 0) (by kernel_rfl) rfl (by kernel_rfl) ⟨(blk_cell BK403.out 0).trans rfl, (blk_cell BK403.out 1).trans rfl, (blk_cell BK400.out 0).trans rfl, (blk_cell BK400.out 1).trans rfl, (HXz HB hw405_0 :), (HXz HB hw405_1 :)⟩ (fun hHeld => ?_); refine with_tabW impl_EntryRight.tab6 impl_EntryRight.bits6 (fun HT_ HW_ => ?_)
      generalize w34.drew = w35 at BK400 BK403 HB HR405_1 hx405_0 hx405_1 hHeld ⊢
      refine take_ (i := 0) (N := some 29) (v := ?_) (a' := ?_) (bz 19 1) rfl rfl (take_ofW HT_.out HW_.out (by kernel_rfl)) (fun _ _ _ h => h) (Or.inl ⟨by rfl, ?_⟩) hHeld ?_ ?_
      rotate_left
      ·rintro w' ⟨s0, s1, s2, s3, s4, s5⟩
       go_simp
       with_reducible rfl
      rotate_left
      ·simp only [PUz]
       rfl
      refine one_ (i := 1) (N := some 30) (bz 19 3) rfl rfl (one_of HT_.out (by kernel_rfl)) (by decide) (fun K hK => ?_)
      refine goes_ Tryd.func80 (by kernel_rfl) rfl #[.agg #[.string ((rd_T111 l0_1 x24_2).f0), .slice A402_1 ((rd_T111 l0_1 x24_2).f1).length c402_1]] (by rfl) rfl rfl MPz ?_
      with_reducible refine (impl_isAttr.calls k2 ((rd_T111 l0_1 x24_2).f0) _ _ ((rd_T111 l0_1 x24_2).f1) true _ ?side1 ?side2 A18.out).mono ?_
      (case side1 => exact KCz (Kd.C_below HR402_1.out HB.out))
      (case side2 => exact HC402_1.out)
      rintro e w36 ⟨rfl, hb⟩
      refine ⟨_, rfl, ?_⟩
      have n0_ := BBz BK400 hb
      have n1_ := BBz BK403 hb
      have n2_ := Aside0.mk (below_step (HBc GE400 GE403) hb)
      clear BK400
      clear BK403
      clear HB
      have BK400 := n0_
      have BK403 := n1_
      have HB := n2_
      clear n0_ n1_ n2_
      (try clear hb)
      (try clear hb2)
      (try clear hk)
      (try clear hi)
      refine hK.out _ _ ⟨(blk_cell BK403.out 0).trans rfl, (blk_cell BK403.out 1).trans rfl, (blk_cell BK400.out 0).trans rfl, (blk_cell BK400.out 1).trans rfl, (HXz HB hw405_0 :), (HXz HB hw405_1 :)⟩ (fun hHeld => ?_)
      clear hK K
      refine norm_ (a' := ?_) ?_ ?_
      rotate_left
      ·show Act.put _ (some 30) _ = _
       simp only [PUz]
       rfl
      refine PYz 2 31 (bz 19 7) rfl rfl (any_of HT_.out (by kernel_rfl)) ?_
      refine PYz 3 32 (bz 19 15) rfl rfl (any_of HT_.out (by kernel_rfl)) ?_
      refine PYz 4 33 (bz 19 31) rfl rfl (any_of HT_.out (by kernel_rfl)) ?_
      refine PYz 5 34 (bz 19 63) rfl rfl (any_of HT_.out (by kernel_rfl)) ?_
      refine PYz 6 35 (bz 19 127) rfl rfl (any_of HT_.out (by kernel_rfl)) ?_
      refine PYz 7 36 (bz 19 255) rfl rfl (any_of HT_.out (by kernel_rfl)) ?_
      refine PYz 9 38 (bz 19 767) rfl rfl (any_of HT_.out (by kernel_rfl)) ?_
      refine PYz 10 39 (bz 19 1791) rfl rfl (any_of HT_.out (by kernel_rfl)) ?_
      refine PYz 14 43 (bz 19 18175) rfl rfl (any_of HT_.out (by kernel_rfl)) ?_
      refine take_ (i := 8) (N := some 37) (v := ?_) (a' := ?_) (bz 19 18431) rfl rfl (take_ofW HT_.out HW_.out (by kernel_rfl)) (fun _ _ _ h => h) (Or.inl ⟨by rfl, ?_⟩) hHeld ?_ ?_
      rotate_left
      ·rintro w' ⟨s0, s1, s2, s3, s4, s5⟩
       go_simp
       with_reducible rfl
      rotate_left
      ·simp only [PUz]
       rfl
      refine PYz 11 40 (bz 19 20479) rfl rfl (any_of HT_.out (by kernel_rfl)) ?_
      refine PYz 12 41 (bz 19 24575) rfl rfl (any_of HT_.out (by kernel_rfl)) ?_
      refine take_ (i := 13) (N := some 42) (v := ?_) (a' := ?_) (bz 19 32767) rfl rfl (take_ofW HT_.out HW_.out (by kernel_rfl)) (fun _ _ _ h => h) (Or.inl ⟨by rfl, ?_⟩) hHeld ?_ ?_
      rotate_left
      ·rintro w' ⟨s0, s1, s2, s3, s4, s5⟩
       go_simp
       with_reducible rfl
      rotate_left
      ·simp only [PUz]
       rfl
      refine take_ (i := 15) (N := some 44) (v := ?_) (a' := ?_) (bz 19 65535) rfl rfl (take_ofW HT_.out HW_.out (by kernel_rfl)) (fun _ _ _ h => h) (Or.inl ⟨by rfl, ?_⟩) hHeld ?_ ?_
      rotate_left
      ·rintro w' ⟨s0, s1, s2, s3, s4, s5⟩
       go_simp
       with_reducible rfl
      rotate_left
      ·simp only [PUz]
       rfl
      refine PYz 16 45 (bz 19 131071) rfl rfl (any_of HT_.out (by kernel_rfl)) ?_
      refine PYz 17 46 (bz 19 262143) rfl rfl (any_of HT_.out (by kernel_rfl)) ?_
      refine PYz 18 47 (bz 19 524287) rfl rfl (any_of HT_.out (by kernel_rfl)) ?_
      refine done_ (done_of HT_.out (by kernel_rfl)) ?_
      try go_wp2
      go_ret
      exact ⟨by first | rfl | (simp only [bne_nil_, beq_nil_]; rfl) | (simp [errW_none, errW_some] <;> rfl) | (simp only [← hji21]; first | rfl | (simp [errW_none, errW_some] <;> rfl)) | (simp [*, errW_none, errW_some] <;> rfl), HBc GE400 GE403⟩
     rw [if_pos c24] at H
     have c24b0 : (Op.bytesLess (((rd_T111 l0_1 (ji21)).f0).toList) (((rd_T111 l0_1 x24_2).f0).toList)) = true := c24
     clear c24
     have H' := Aside0.mk H
     clear H
     have p402 : 0 ≤ (x24_2 : Int) := ODz
     have q402 : x24_2 < (l0_1.length : Int) := ODz
     obtain ⟨ad402, A402_1, c402_1, e402, hx402_0, hx402_1, hl402_1, hi402_1⟩ := at_T111 HR0_1.out x24_2 p402 q402
     cases e402
     replace hx402_0 := HXz HB hx402_0
     replace hx402_1 := HXz HB hx402_1
     have HR402_1 := Aside0.mk hi402_1
     have HC402_1 := Aside0.mk hl402_1
     clear hi402_1 hl402_1
     replace p402 := eq_true p402
     replace q402 := eq_true q402
     try go_wp2_with (first | ((with_reducible refine gate_dst (N := 4) rfl ?_); (try (refine gate_guard (by rfl) ?_; dsimp only)); refine box_event ?hg (N := 4) ?hd (cs := #[.string (⟨#[]⟩ : ByteArray), .slice none 0 0]) (t := 111) ?hr ?_; (case hd => rfl); (case hg => rfl); (case hr => first | (go_simp; done) | (go_simp; rfl)); intro gb403 hg w25 hbox hb; have n0_ := BBz BK400 hb; have n1_ := Aside0.mk (below_step (HBb GE400) hb); have n2_ := Aside0.mk (hbox); have n3_ := BSz w hg (HBb GE400); have n4_ := BSz w hg (HBb GE400); have n5_ := BNz BK400 hg; have n6_ := BMz BK400 hg; clear BK400; clear HB; have BK400 := n0_; have HB := n1_; have BK403 := n2_; have GW403 := n3_; have GE403 := n4_; have NB400_403 := n5_; have NB403_400 := n6_; clear n0_ n1_ n2_ n3_ n4_ n5_ n6_; clear hb hbox hg; have hnb26 := NB403_400.out; have hnc26 := NB400_403.out; have hcz27_0 := C1z BK403; have hcz27_1 := C2z BK403; have hfz27_0 := blk_frozen BK403.out 0; have hfz27_1 := blk_frozen BK403.out 1))
     have n0_ : Aside0 (((w25.setCell ⟨gb403, 0, none⟩ (.string ((rd_T111 l0_1 x24_2).f0))).setCell ⟨gb403, 1, none⟩ (.slice A402_1 ((rd_T111 l0_1 x24_2).f1).length c402_1)).heap[gb400]? = some (.cells #[.slice A0_0 l0_0.length c0_0, .slice (some ad402) l0_1.length c0_1] 81 (0, 0))) := ⟨by (with_reducible repeat (first | refine blk_drewN ?_ _ | refine blk_drew ?_ | refine blk_alloc ?_ _)); refine blk_far ?_ NB400_403.out _; (with_reducible repeat (first | refine blk_drewN ?_ _ | refine blk_drew ?_ | refine blk_alloc ?_ _)); refine blk_far ?_ NB400_403.out _; (with_reducible repeat (first | refine blk_drewN ?_ _ | refine blk_drew ?_ | refine blk_alloc ?_ _)); exact BK400.out⟩
     have n1_ : Aside0 (((w25.setCell ⟨gb403, 0, none⟩ (.string ((rd_T111 l0_1 x24_2).f0))).setCell ⟨gb403, 1, none⟩ (.slice A402_1 ((rd_T111 l0_1 x24_2).f1).length c402_1)).heap[gb403]? = some (.cells #[.string ((rd_T111 l0_1 x24_2).f0), .slice A402_1 ((rd_T111 l0_1 x24_2).f1).length c402_1] 111 (0, 0))) := ⟨by (with_reducible repeat (first | refine blk_drewN ?_ _ | refine blk_drew ?_ | refine blk_alloc ?_ _)); refine blk_put (cs := #[.string ((rd_T111 l0_1 x24_2).f0), .slice none 0 0]) ?_ 1 _ (by first | rfl | (simp only [← hji21]; first | rfl | (simp; done))); (with_reducible repeat (first | refine blk_drewN ?_ _ | refine blk_drew ?_ | refine blk_alloc ?_ _)); refine blk_put (cs := #[.string (⟨#[]⟩ : ByteArray), .slice none 0 0]) ?_ 0 _ (by first | rfl | (simp only [← hji21]; first | rfl | (simp; done))); (with_reducible repeat (first | refine blk_drewN ?_ _ | refine blk_drew ?_ | refine blk_alloc ?_ _)); exact BK403.out⟩
     have n2_ : Aside0 (Below w.heap.size w ((w25.setCell ⟨gb403, 0, none⟩ (.string ((rd_T111 l0_1 x24_2).f0))).setCell ⟨gb403, 1, none⟩ (.slice A402_1 ((rd_T111 l0_1 x24_2).f1).length c402_1))) := ⟨by repeat (first | (with_reducible first | exact HB.out | apply below_alloc | apply pw_below_drewN | apply below_drew1 | refine below_set ?_ GE400.out | refine below_set ?_ GE403.out) | exact HB.out)⟩
     (try clear BK400)
     (try clear BK403)
     (try clear HB)
     generalize ((w25.setCell ⟨gb403, 0, none⟩ (.string ((rd_T111 l0_1 x24_2).f0))).setCell ⟨gb403, 1, none⟩ (.slice A402_1 ((rd_T111 l0_1 x24_2).f1).length c402_1)) = w28 at n0_ n1_ n2_ ⊢
     have BK400 := n0_
     have BK403 := n1_
     have HB := n2_
     clear n0_ n1_ n2_
     have n0_ := Aside0.mk (blk_drew BK400.out)
     have n1_ := Aside0.mk (blk_drew BK403.out)
     have n2_ := Aside0.mk (below_drew1 HB.out)
     clear BK400
     clear BK403
     clear HB
     have BK400 := n0_
     have BK403 := n1_
     have HB := n2_
     clear n0_ n1_ n2_
     have p405 : 0 ≤ ((ji21) : Int) := ODz
     have q405 : (ji21) < (l0_1.length : Int) := ODz
     obtain ⟨ad405, A405_1, c405_1, e405, hx405_0, hx405_1, hl405_1, hi405_1⟩ := at_T111 HR0_1.out (ji21) p405 q405
     have hw405_1 := hx405_1
     have hw405_0 := hx405_0
     obtain rfl : ad402 = ad405 := (by injection e405)
     replace hx405_0 := HXz HB hx405_0
     replace hx405_1 := HXz HB hx405_1
     have HR405_1 := Aside0.mk hi405_1
     have HC405_1 := Aside0.mk hl405_1
     clear hi405_1 hl405_1
     replace p405 := eq_true p405
     replace q405 := eq_true q405
     refine start_ (n := 19) (S := fun w' => w'.cell? ⟨gb403, 0, none⟩ = some (.string ((rd_T111 l0_1 x24_2).f0)) ∧ w'.cell? ⟨gb403, 1, none⟩ = some (.slice A402_1 ((rd_T111 l0_1 x24_2).f1).length c402_1) ∧ w'.cell? ⟨gb400, 0, none⟩ = some (.slice A0_0 l0_0.length c0_0) ∧ w'.cell? ⟨gb400, 1, none⟩ = some (.slice (some ad402) l0_1.length c0_1) ∧ w'.cell? (ad402.add (((ji21)).toNat * 2)) = some (.string ((rd_T111 l0_1 (ji21)).f0)) ∧ w'.cell? ⟨(ad402.add (((ji21)).toNat * 2)).block, (ad402.add (((ji21)).toNat * 2)).off + 1, none⟩ = some (.slice A405_1 ((rd_T111 l0_1 (ji21)).f1).length c405_1)) (ds := []) (bz 19 0) (by kernel_rfl) rfl (by kernel_rfl) ⟨(blk_cell BK403.out 0).trans rfl, (blk_cell BK403.out 1).trans rfl, (blk_cell BK400.out 0).trans rfl, (blk_cell BK400.out 1).trans rfl, (HXz HB hw405_0 :), (HXz HB hw405_1 :)⟩ (fun hHeld => ?_); refine with_tabW impl_EntryRight.tab6 impl_EntryRight.bits6 (fun HT_ HW_ => ?_)
     generalize w28.drew = w29 at BK400 BK403 HB HR405_1 hx405_0 hx405_1 hHeld ⊢
     refine take_ (i := 0) (N := some 29) (v := ?_) (a' := ?_) (bz 19 1) rfl rfl (take_ofW HT_.out HW_.out (by kernel_rfl)) (fun _ _ _ h => h) (Or.inl ⟨by rfl, ?_⟩) hHeld ?_ ?_
     rotate_left
     ·rintro w' ⟨s0, s1, s2, s3, s4, s5⟩
      go_simp
      with_reducible rfl
     rotate_left
     ·simp only [PUz]
      rfl
     refine one_ (i := 1) (N := some 30) (bz 19 3) rfl rfl (one_of HT_.out (by kernel_rfl)) (by decide) (fun K hK => ?_)
     refine goes_ Tryd.func80 (by kernel_rfl) rfl #[.agg #[.string ((rd_T111 l0_1 x24_2).f0), .slice A402_1 ((rd_T111 l0_1 x24_2).f1).length c402_1]] (by rfl) rfl rfl MPz ?_
     with_reducible refine (impl_isAttr.calls k2 ((rd_T111 l0_1 x24_2).f0) _ _ ((rd_T111 l0_1 x24_2).f1) true _ ?side1 ?side2 A18.out).mono ?_
     (case side1 => exact KCz (Kd.C_below HR402_1.out HB.out))
     (case side2 => exact HC402_1.out)
     rintro e w30 ⟨rfl, hb⟩
     refine ⟨_, rfl, ?_⟩
     have n0_ := BBz BK400 hb
     have n1_ := BBz BK403 hb
     have n2_ := Aside0.mk (below_step (HBc GE400 GE403) hb)
     clear BK400
     clear BK403
     clear HB
     have BK400 := n0_
     have BK403 := n1_
     have HB := n2_
     clear n0_ n1_ n2_
     (try clear hb)
     (try clear hb2)
     (try clear hk)
     (try clear hi)
     refine hK.out _ _ ⟨(blk_cell BK403.out 0).trans rfl, (blk_cell BK403.out 1).trans rfl, (blk_cell BK400.out 0).trans rfl, (blk_cell BK400.out 1).trans rfl, (HXz HB hw405_0 :), (HXz HB hw405_1 :)⟩ (fun hHeld => ?_)
     clear hK K
     refine norm_ (a' := ?_) ?_ ?_
     rotate_left
     ·show Act.put _ (some 30) _ = _
      simp only [PUz]
      rfl
     refine PYz 2 31 (bz 19 7) rfl rfl (any_of HT_.out (by kernel_rfl)) ?_
     refine PYz 3 32 (bz 19 15) rfl rfl (any_of HT_.out (by kernel_rfl)) ?_
     refine PYz 4 33 (bz 19 31) rfl rfl (any_of HT_.out (by kernel_rfl)) ?_
     refine PYz 5 34 (bz 19 63) rfl rfl (any_of HT_.out (by kernel_rfl)) ?_
     refine PYz 6 35 (bz 19 127) rfl rfl (any_of HT_.out (by kernel_rfl)) ?_
     refine PYz 7 36 (bz 19 255) rfl rfl (any_of HT_.out (by kernel_rfl)) ?_
     refine PYz 9 38 (bz 19 767) rfl rfl (any_of HT_.out (by kernel_rfl)) ?_
     refine PYz 10 39 (bz 19 1791) rfl rfl (any_of HT_.out (by kernel_rfl)) ?_
     refine PYz 14 43 (bz 19 18175) rfl rfl (any_of HT_.out (by kernel_rfl)) ?_
     refine take_ (i := 8) (N := some 37) (v := ?_) (a' := ?_) (bz 19 18431) rfl rfl (take_ofW HT_.out HW_.out (by kernel_rfl)) (fun _ _ _ h => h) (Or.inl ⟨by rfl, ?_⟩) hHeld ?_ ?_
     rotate_left
     ·rintro w' ⟨s0, s1, s2, s3, s4, s5⟩
      go_simp
      with_reducible rfl
     rotate_left
     ·simp only [PUz]
      rfl
     refine PYz 11 40 (bz 19 20479) rfl rfl (any_of HT_.out (by kernel_rfl)) ?_
     refine PYz 12 41 (bz 19 24575) rfl rfl (any_of HT_.out (by kernel_rfl)) ?_
     refine take_ (i := 13) (N := some 42) (v := ?_) (a' := ?_) (bz 19 32767) rfl rfl (take_ofW HT_.out HW_.out (by kernel_rfl)) (fun _ _ _ h => h) (Or.inl ⟨by rfl, ?_⟩) hHeld ?_ ?_
     rotate_left
     ·rintro w' ⟨s0, s1, s2, s3, s4, s5⟩
      go_simp
      with_reducible rfl
     rotate_left
     ·simp only [PUz]
      rfl
     refine take_ (i := 15) (N := some 44) (v := ?_) (a' := ?_) (bz 19 65535) rfl rfl (take_ofW HT_.out HW_.out (by kernel_rfl)) (fun _ _ _ h => h) (Or.inl ⟨by rfl, ?_⟩) hHeld ?_ ?_
     rotate_left
     ·rintro w' ⟨s0, s1, s2, s3, s4, s5⟩
      go_simp
      with_reducible rfl
     rotate_left
     ·simp only [PUz]
      rfl
     refine PYz 16 45 (bz 19 131071) rfl rfl (any_of HT_.out (by kernel_rfl)) ?_
     refine PYz 17 46 (bz 19 262143) rfl rfl (any_of HT_.out (by kernel_rfl)) ?_
     refine PYz 18 47 (bz 19 524287) rfl rfl (any_of HT_.out (by kernel_rfl)) ?_
     refine done_ (done_of HT_.out (by kernel_rfl)) ?_
     try go_wp2
     go_roundg k2
     case measure => have := HJ1.out; have := HK2.out; omega
     case rel => exact ⟨(wrap64 (x24_2 + 1)), EZc, H', ⟨by have := HJ1.out; have := HK2.out; omega⟩, ⟨by (with_reducible repeat (first | refine blk_drewN ?_ _ | refine blk_drew ?_ | refine blk_alloc ?_ _)); exact BK400.out⟩, ⟨by repeat (first | (with_reducible first | exact HB.out | apply below_alloc | apply pw_below_drewN | apply below_drew1 | refine below_set ?_ GE400.out | refine below_set ?_ GE403.out) | exact HB.out)⟩⟩
end Go.Proofs.YtgkjlfimjnhbbaaDoor.PFnExactChangesRight
