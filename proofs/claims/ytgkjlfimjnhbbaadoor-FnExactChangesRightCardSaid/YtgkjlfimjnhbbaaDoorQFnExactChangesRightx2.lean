-- Laid by this session's own program out of the translation; Lean checks it.
import Derived.Test.YtgkjlfimjnhbbaaDoorQFnExactChangesRightx0
namespace Go.Proofs.YtgkjlfimjnhbbaaDoor.PFnExactChangesRight
open Go.RowKit Go.Proofs.YtgkjlfimjnhbbaaDoorW.PrintWords Go.Proofs.YtgkjlfimjnhbbaaDoorW.PrintLast Go.Proofs.YtgkjlfimjnhbbaaDoorW.PrintMore
attribute [local go_sem] max2_int min2_int max_two min_two max_three min_three max_four min_four   -- for this text's walks alone
set_option linter.unusedVariables false
set_option linter.unusedSimpArgs false
mutual
def spec_l02Cut.l0 : Nat → ByteArray → List ByteArray → List Int → Int → Option (List ByteArray)
 | 0, _, _, _, _ => none
 | k + 1, x0, x3, x4, x5 => if x5 < (x0.size : Int) then (if 0 ≤ x5 then (if (bt x0 x5) = 92 then (spec_l02Cut.j1 k x0 x3 x4 x5 (decide ((wrap64 (x5 + 1)) < (x0.size : Int)))) else (spec_l02Cut.j1 k x0 x3 x4 x5 false)) else (none)) else (if x3.length < 8796093022208 then (some (x3 ++ [strOfNums x4])) else (none))
def spec_l02Cut.j1 : Nat → ByteArray → List ByteArray → List Int → Int → Bool → Option (List ByteArray)
 | 0, _, _, _, _, _ => none
 | k + 1, x0, x3, x4, x5, x20 => if x20 = true then (if 0 ≤ x5 then (if x5 < (x0.size : Int) then (if 0 ≤ (wrap64 (x5 + 1)) then (if (wrap64 (x5 + 1)) < (x0.size : Int) then ((some (([bt x0 x5, bt x0 (wrap64 (x5 + 1))] : List Int) : List Int)).bind fun y127 => (if x4.length + y127.length < 140737488355328 then (spec_l02Cut.l0 k x0 x3 (x4 ++ y127) (wrap64 ((wrap64 (x5 + 1)) + 1))) else (none))) else (none)) else (none)) else (none)) else (none)) else (if 0 ≤ x5 then (if x5 < (x0.size : Int) then (if (bt x0 x5) = 44 then (if x3.length < 8796093022208 then (spec_l02Cut.l0 k x0 (x3 ++ [strOfNums x4]) (([] : List Int)) (wrap64 (x5 + 1))) else (none)) else (if x4.length < 140737488355328 then (spec_l02Cut.l0 k x0 x3 (x4 ++ [bt x0 x5]) (wrap64 (x5 + 1))) else (none))) else (none)) else (none))
end
def spec_l02Cut.f (k : Nat) (a0 : ByteArray) : Option (List ByteArray) := spec_l02Cut.l0 k a0 (([] : List ByteArray)) (([] : List Int)) 0
theorem spec_l02Cut.mono_l : ∀ k, (∀ y0 y1 y2 y3, LeO (spec_l02Cut.l0 k y0 y1 y2 y3) (spec_l02Cut.l0 (k + 1) y0 y1 y2 y3)) ∧ (∀ y0 y1 y2 y3 y4, LeO (spec_l02Cut.j1 k y0 y1 y2 y3 y4) (spec_l02Cut.j1 (k + 1) y0 y1 y2 y3 y4))
 | 0 => ⟨fun _ _ _ _ r h => by simp [spec_l02Cut.l0] at h, fun _ _ _ _ _ r h => by simp [spec_l02Cut.j1] at h⟩
 | k + 1 => by
  obtain ⟨ih0, ih1⟩ := spec_l02Cut.mono_l k
  refine ⟨?_, ?_⟩
  ·intro y0 y1 y2 y3
   unfold spec_l02Cut.l0
   repeat' first
   | (with_reducible exact ih0 _ _ _ _)
   | (with_reducible exact ih1 _ _ _ _ _)
   | (with_reducible exact LeO.refl _)
   | (with_reducible exact LeO.none _)
   | (with_reducible refine LeO.ite ?_ ?_)
   | (with_reducible refine LeO.bind ?_ (fun _ => ?_))
   | exact ih0 _ _ _ _
   | exact ih1 _ _ _ _ _
   | exact LeO.none _
   | refine LeO.ite ?_ ?_
   | refine LeO.bind ?_ (fun _ => ?_)
  ·intro y0 y1 y2 y3 y4
   unfold spec_l02Cut.j1
   repeat' first
   | (with_reducible exact ih0 _ _ _ _)
   | (with_reducible exact ih1 _ _ _ _ _)
   | (with_reducible exact LeO.refl _)
   | (with_reducible exact LeO.none _)
   | (with_reducible refine LeO.ite ?_ ?_)
   | (with_reducible refine LeO.bind ?_ (fun _ => ?_))
   | exact ih0 _ _ _ _
   | exact ih1 _ _ _ _ _
   | exact LeO.none _
   | refine LeO.ite ?_ ?_
   | refine LeO.bind ?_ (fun _ => ?_)
theorem spec_l02Cut.mono : ∀ a0 k, LeO (spec_l02Cut.f k a0) (spec_l02Cut.f (k + 1) a0) := by
 intro a0 k
 obtain ⟨ih0, ih1⟩ := spec_l02Cut.mono_l k
 unfold spec_l02Cut.f
 repeat' first
   | (with_reducible exact ih0 _ _ _ _)
   | (with_reducible exact ih1 _ _ _ _ _)
   | (with_reducible exact LeO.refl _)
   | (with_reducible exact LeO.none _)
   | (with_reducible refine LeO.ite ?_ ?_)
   | (with_reducible refine LeO.bind ?_ (fun _ => ?_))
   | exact ih0 _ _ _ _
   | exact ih1 _ _ _ _ _
   | exact LeO.none _
   | refine LeO.ite ?_ ?_
   | refine LeO.bind ?_ (fun _ => ?_)
def spec_l02Cut.T8 : Bool × List (List Nat × List Nat) := (true, [([], []), ([], []), ([], []), ([1, 2], [1, 2]), ([], []), ([], []), ([5], [5]), ([4, 6], [4, 6]), ([3, 7], [3, 7]), ([0, 8], [0, 8]), ([9, 9, 0, 1, 2, 3, 4, 5, 6, 7, 8, 9], [0, 9])])
def spec_l02Cut.B8 : List Nat := [0, 0, 0, 6, 0, 0, 32, 112, 254, 511, 1023]
theorem spec_l02Cut.tab8 : rtab .any (opsOf Tryd.f91 8) = spec_l02Cut.T8 := by kernel_rfl
theorem spec_l02Cut.bits8 : waitsOk spec_l02Cut.T8.2 spec_l02Cut.B8 = true := by kernel_rfl
set_option maxHeartbeats 8000000 in
set_option maxRecDepth 100000 in
theorem spec_l02Cut.calls (k : Nat) (a0 : ByteArray) (r : List ByteArray) (w : World) (h : spec_l02Cut.f k a0 = some r) :
  Calls Tryd.prog 91 #[.string a0] w fun e w' => ∃ v0_ : Value, e = .returned (v0_) ∧ Kd.R Kd.string 9 w' w.heap.size (fun _ => True) v0_ r ∧ Below w.heap.size w w' := by
 have HB := Aside0.mk (Below.refl w.heap.size w)
 have H : (spec_l02Cut.l0 k a0 (([] : List ByteArray)) (([] : List Int)) 0) = some r := h
 clear h
 obtain ⟨y118, hy118⟩ : ∃ y_ : List ByteArray, y_ = (([] : List ByteArray)) := ⟨_, rfl⟩
 replace H : (spec_l02Cut.l0 k a0 y118 (([] : List Int)) 0) = some r := by first | (rw [hy118]; with_reducible exact H) | (have H2_ := (Option.bind_some _ _).symm.trans H; rw [hy118]; with_reducible exact H2_) | (have H2_ := (Option.bind_some _ _).symm.trans H; with_reducible exact H2_) | with_reducible exact H | (rw [hy118]; exact H) | exact H
 have Ny118 := Aside0.mk hy118
 clear hy118
 obtain ⟨y121, hy121⟩ : ∃ y_ : List Int, y_ = (([] : List Int)) := ⟨_, rfl⟩
 replace H : (spec_l02Cut.l0 k a0 y118 y121 0) = some r := by first | (rw [hy121]; with_reducible exact H) | (have H2_ := (Option.bind_some _ _).symm.trans H; rw [hy121]; with_reducible exact H2_) | (have H2_ := (Option.bind_some _ _).symm.trans H; with_reducible exact H2_) | with_reducible exact H | (rw [hy121]; exact H) | exact H
 have Ny121 := Aside0.mk hy121
 clear hy121
 have H' := Aside0.mk H
 clear H
 go_enter Tryd.func91, Tryd.ntmps91
 go_wp2_with (first | ((with_reducible refine gate_dst (N := 6) rfl ?_); (try (refine gate_guard (by rfl) ?_; dsimp only)); refine Kd.R_lit Kd.string _ 9 ?hg (N := 6) ?hd (xs := ([] : List ByteArray)) (inner := []) (ok := fun _ => True) (okp := fun _ => True) ?hr ?hp (fun _ hk => hk) trivial (Below.refl _ _) (Nat.le_refl _) (by simp) ?_; (case hd => rfl); (case hg => rfl); (case hr => first | (go_simp; done) | (go_simp; rfl)); (case hp => exact (Reps.none _ _)); intro v119 w2 ho3 hb hg_ hnew_; clear hg_ hnew_; (first | rw [← Ny118.out] at ho3 | (simp only [Int.reduceToNat] at ho3; rw [← Ny118.out] at ho3)); have n0_ := Aside0.mk (Kd.R_lower ho3 (below_size HBa)); have n1_ := Aside0.mk (below_step HBa hb); clear HB; have HO120 := n0_; have HB := n1_; clear n0_ n1_; clear hb ho3) | ((with_reducible refine gate_dst (N := 7) rfl ?_); (try (refine gate_guard (by rfl) ?_; dsimp only)); refine Kd.R_lit (Kd.int .u8) _ 5 ?hg (N := 7) ?hd (xs := ([] : List Int)) (inner := []) (ok := fun _ => True) (okp := fun _ => True) ?hr ?hp (fun _ hk => hk) trivial (Below.refl _ _) (Nat.le_refl _) (by simp) ?_; (case hd => rfl); (case hg => rfl); (case hr => first | (go_simp; done) | (go_simp; rfl)); (case hp => exact (Reps.none _ _)); intro v122 w4 ho5 hb hg_ hnew_; clear hg_ hnew_; (first | rw [← Ny121.out] at ho5 | (simp only [Int.reduceToNat] at ho5; rw [← Ny121.out] at ho5)); have n0_ := Aside0.mk (Kd.R_below (KRz HO120) hb); have n1_ := Aside0.mk (Kd.R_lower ho5 (below_size HBa)); have n2_ := Aside0.mk (below_step HBa hb); clear HO120; clear HB; have HO120 := n0_; have HO123 := n1_; have HB := n2_; clear n0_ n1_ n2_; clear hb ho5))
 go_loopg [3, 4, 5] k (fun kq v3 v4 v5 w' => ∃ (x3_1 : List ByteArray) (x4_1 : List Int) (x5_1 : Int), v5 = .int .i64 x5_1 ∧ Aside0 (spec_l02Cut.l0 kq a0 x3_1 x4_1 x5_1 = some r) ∧ Aside0 (kq ≤ k) ∧ Aside0 (Kd.R Kd.string 9 w' w.heap.size (fun _ => True) v3 x3_1) ∧ Aside0 (Kd.R (Kd.int .u8) 5 w' w.heap.size (fun _ => True) v4 x4_1) ∧ Aside0 (Below w.heap.size w w'))
 case atStart => exact ⟨(y118), (y121), (0), EZc, H', ⟨Nat.le_refl _⟩, ⟨by (with_reducible repeat (first | apply Kd.R_alloc | apply Kd.R_drewN | apply Kd.R_drew)); exact HO120.out⟩, ⟨by (with_reducible repeat (first | apply Kd.R_alloc | apply Kd.R_drewN | apply Kd.R_drew)); exact HO123.out⟩, ⟨HBa⟩⟩
 case round =>
  clear H'
  try clear p2
  obtain ⟨x3_1, x4_1, x5_1, rfl, HA, HK1, HO_3, HO_4, HB⟩ := hrel
  cases gk with
  | zero => exact absurd HA.out (by simp [spec_l02Cut.l0])
  | succ k1 =>
   have H := HA.out
   clear HA
   simp only [spec_l02Cut.l0] at H
   by_cases c6 : x5_1 < (a0.size : Int)
   rotate_left
   ·rw [if_neg c6] at H
    have c6b0 : decide (x5_1 < (a0.size : Int)) = false := decide_eq_false c6
    clear c6
    by_cases c37 : x3_1.length < 8796093022208
    ·rw [if_pos c37] at H
     have LMc37 := Aside0.mk c37
     clear c37
     obtain ⟨y124, hy124⟩ : ∃ y_ : List ByteArray, y_ = (x3_1 ++ [strOfNums x4_1]) := ⟨_, rfl⟩
     replace H : (some y124) = some r := by first | (rw [hy124]; with_reducible exact H) | (have H2_ := (Option.bind_some _ _).symm.trans H; rw [hy124]; with_reducible exact H2_) | (have H2_ := (Option.bind_some _ _).symm.trans H; with_reducible exact H2_) | with_reducible exact H | (rw [hy124]; exact H) | exact H
     have Ny124 := Aside0.mk hy124
     clear hy124
     obtain rfl := Option.some.inj H
     have hcv38 := own_string (P := Tryd.prog) Tryd.underlying135 Tryd.underlying5 Tryd.underlying9 (Kd.own_of_R HO_4.out)
     go_wp2_with (first | ((with_reducible refine gate_builtin (b := .append) (xs := #[.tmp 55, .tmp 58]) rfl ?_); (try (refine gate_guard (by rfl) ?_; dsimp only)); at_builtin; refine Kd.R_append Kd.string (w0 := w) w.heap.size rfl (.tmp 55) (.tmp 58) 22 9 (.string ⟨#[]⟩) 16 rfl Tryd.underlying22 info9 rfl (by decide) (by omega) u3 x3_1 (strOfNums x4_1) [.string (strOfNums x4_1)] (fun _ => True) (fun _ => False) rfl rfl ?aP (fun _ hk => hk.elim) ?aF ?aO ?aB ?aS ?aL ?_; (case aP => exact rfl); (case aB => exact HBa); (case aF => exact (fun _ _ => trivial)); (case aO => exact (KRz HO_3)); (case aS => exact (below_size HBa)); (case aL => have := LMc37.out; omega); intro v125 w39 ho hb hg hat; rw [← Ny124.out] at ho; have n0_ := Aside0.mk (Kd.R_over' (KRz HO_4) (Kd.R_typed (KRz HO_3)) (by decide) hg); have n1_ := Aside0.mk (hb); have n2_ := Aside0.mk (ho); clear HO_4; clear HB; clear HO_3; have HO_4 := n0_; have HB := n1_; have HO126 := n2_; clear n0_ n1_ n2_; clear ho hb hg hat))
     go_ret
     exact ⟨_, EZa, by (with_reducible repeat (first | apply Kd.R_alloc | apply Kd.R_drewN | apply Kd.R_drew)); exact HO126.out, HBa⟩
    rw [if_neg c37] at H
    exact absurd H (by simp)
   rw [if_pos c6] at H
   have c6b0 : decide (x5_1 < (a0.size : Int)) = true := decide_eq_true c6
   clear c6
   have HC7 := Aside0.mk H
   clear H
   go_upto_region 7 with (fail)
   go_cut [20] (fun v20 wc => ∃ (kq : Nat) (x20_6 : Bool), v20 = .bool x20_6 ∧ Aside0 (spec_l02Cut.j1 kq a0 x3_1 x4_1 x5_1 x20_6 = some r) ∧ Aside0 (kq ≤ k1) ∧ Aside0 (Kd.R Kd.string 9 wc w.heap.size (fun _ => True) u3 x3_1) ∧ Aside0 (Kd.R (Kd.int .u8) 5 wc w.heap.size (fun _ => True) u4 x4_1) ∧ Aside0 (Below w.heap.size w wc))
   case first =>
    have H := HC7.out
    clear HC7
    by_cases c8 : 0 ≤ x5_1
    rotate_left
    ·rw [if_neg c8] at H
     exact absurd H (by simp)
    rw [if_pos c8] at H
    have c8b0 : decide (0 ≤ x5_1) = true := decide_eq_true c8
    clear c8
    (first | rw [c8b0] | rw [c8v0] | (simp only [i64_w, i32_w]; rw [c8b0]) | (simp only [i64_w, i32_w]; rw [c8v0]) | skip)
    by_cases c10 : (bt a0 x5_1) = 92
    ·rw [if_pos c10] at H
     have c10b0 : ((bt a0 x5_1) == 92) = true := beq_iff_eq.mpr c10
     have c10b1 : ((bt a0 x5_1) != 92) = false := bne_eq_false_iff_eq.mpr c10
     clear c10
     have H' := Aside0.mk H
     clear H
     have p9 : 0 ≤ (x5_1 : Int) := ODz
     have q9 : x5_1 < (a0.size : Int) := ODz
     have hx9 := bt_at a0 x5_1
     replace p9 := eq_true p9
     replace q9 := eq_true q9
     go_wp2
     go_meet
     case rel => exact ⟨_, (decide ((wrap64 (x5_1 + 1)) < (a0.size : Int))), EZc, H', ⟨by have := HK1.out; first | omega | exact Nat.le_refl _⟩, ⟨by (with_reducible repeat (first | apply Kd.R_alloc | apply Kd.R_drewN | apply Kd.R_drew)); exact HO_3.out⟩, ⟨by (with_reducible repeat (first | apply Kd.R_alloc | apply Kd.R_drewN | apply Kd.R_drew)); exact HO_4.out⟩, ⟨HBa⟩⟩
    rw [if_neg c10] at H
    have c10b0 : ((bt a0 x5_1) == 92) = false := beq_eq_false_iff_ne.mpr c10
    have c10b1 : ((bt a0 x5_1) != 92) = true := bne_iff_ne.mpr c10
    have H' := Aside0.mk H
    clear H
    have p9 : 0 ≤ (x5_1 : Int) := ODz
    have q9 : x5_1 < (a0.size : Int) := ODz
    have hx9 := bt_at a0 x5_1
    replace p9 := eq_true p9
    replace q9 := eq_true q9
    go_wp2
    go_meet
    case rel => exact ⟨_, (false), EZc, H', ⟨by have := HK1.out; first | omega | exact Nat.le_refl _⟩, ⟨by (with_reducible repeat (first | apply Kd.R_alloc | apply Kd.R_drewN | apply Kd.R_drew)); exact HO_3.out⟩, ⟨by (with_reducible repeat (first | apply Kd.R_alloc | apply Kd.R_drewN | apply Kd.R_drew)); exact HO_4.out⟩, ⟨HBa⟩⟩
   case rest =>
    clear HC7
    try clear c1
    try clear p2
    try clear c6
    try clear c6b0
    try clear p6
    try clear c8
    try clear c8b0
    try clear c9
    try clear p9
    try clear q9
    try clear hx9
    try clear c10
    try clear c10b0
    try clear c10b1
    try clear p2
    try clear p9
    try clear q9
    obtain ⟨kq, x20_6, rfl, HA, HJ6, HO_3, HO_4, HB⟩ := hcut
    cases kq with
    | zero => exact absurd HA.out (by simp [spec_l02Cut.j1])
    | succ kj6 =>
     have H := HA.out
     clear HA
     simp only [spec_l02Cut.j1] at H
     by_cases c11 : x20_6 = true
     rotate_left
     ·replace c11 := Bool.eq_false_iff.mpr c11
      subst c11
      have H1 : (if 0 ≤ x5_1 then (if x5_1 < (a0.size : Int) then (if (bt a0 x5_1) = 44 then (if x3_1.length < 8796093022208 then (spec_l02Cut.l0 kj6 a0 (x3_1 ++ [strOfNums x4_1]) (([] : List Int)) (wrap64 (x5_1 + 1))) else (none)) else (if x4_1.length < 140737488355328 then (spec_l02Cut.l0 kj6 a0 x3_1 (x4_1 ++ [bt a0 x5_1]) (wrap64 (x5_1 + 1))) else (none))) else (none)) else (none)) = some r := by rw [if_neg (show ¬ (false = true) by decide)] at H; exact H
      clear H
      have H := H1
      clear H1
      by_cases c25 : 0 ≤ x5_1
      rotate_left
      ·rw [if_neg c25] at H
       exact absurd H (by simp)
      rw [if_pos c25] at H
      have c25b0 : decide (0 ≤ x5_1) = true := decide_eq_true c25
      clear c25
      by_cases c26 : x5_1 < (a0.size : Int)
      rotate_left
      ·rw [if_neg c26] at H
       exact absurd H (by simp)
      rw [if_pos c26] at H
      have c26b0 : decide (x5_1 < (a0.size : Int)) = true := decide_eq_true c26
      clear c26
      by_cases c28 : (bt a0 x5_1) = 44
      rotate_left
      ·rw [if_neg c28] at H
       have c28b0 : ((bt a0 x5_1) == 44) = false := beq_eq_false_iff_ne.mpr c28
       have c28b1 : ((bt a0 x5_1) != 44) = true := bne_iff_ne.mpr c28
       by_cases c35 : x4_1.length < 140737488355328
       ·rw [if_pos c35] at H
        have LMc35 := Aside0.mk c35
        clear c35
        obtain ⟨y139, hy139⟩ : ∃ y_ : List Int, y_ = (x4_1 ++ [bt a0 x5_1]) := ⟨_, rfl⟩
        replace H : (spec_l02Cut.l0 kj6 a0 x3_1 y139 (wrap64 (x5_1 + 1))) = some r := by first | (rw [hy139]; with_reducible exact H) | (have H2_ := (Option.bind_some _ _).symm.trans H; rw [hy139]; with_reducible exact H2_) | (have H2_ := (Option.bind_some _ _).symm.trans H; with_reducible exact H2_) | with_reducible exact H | (rw [hy139]; exact H) | exact H
        have Ny139 := Aside0.mk hy139
        clear hy139
        have H' := Aside0.mk H
        clear H
        have p27 : 0 ≤ (x5_1 : Int) := ODz
        have q27 : x5_1 < (a0.size : Int) := ODz
        have hx27 := bt_at a0 x5_1
        replace p27 := eq_true p27
        replace q27 := eq_true q27
        have p34 : 0 ≤ (x5_1 : Int) := ODz
        have q34 : x5_1 < (a0.size : Int) := ODz
        have hx34 := bt_at a0 x5_1
        replace p34 := eq_true p34
        replace q34 := eq_true q34
        go_wp2_with (first | ((with_reducible refine gate_builtin (b := .append) (xs := #[.tmp 14, .tmp 18]) rfl ?_); (try (refine gate_guard (by rfl) ?_; dsimp only)); at_builtin; refine Kd.R_append (Kd.int .u8) (w0 := w) w.heap.size rfl (.tmp 14) (.tmp 18) 135 5 (.int .u8 0) 1 rfl Tryd.underlying135 info5 rfl (by decide) (by omega) u4 x4_1 (bt a0 x5_1) [.int .u8 (bt a0 x5_1)] (fun _ => True) (fun _ => False) rfl rfl ?aP (fun _ hk => hk.elim) ?aF ?aO ?aB ?aS ?aL ?_; (case aP => exact rfl); (case aB => exact HBa); (case aF => exact (fun _ _ => trivial)); (case aO => exact (KRz HO_4)); (case aS => exact (below_size HBa)); (case aL => have := LMc35.out; omega); intro v140 w36 ho hb hg hat; rw [← Ny139.out] at ho; have n0_ := Aside0.mk (Kd.R_over' (KRz HO_3) (Kd.R_typed (KRz HO_4)) (by decide) hg); have n1_ := Aside0.mk (hb); have n2_ := Aside0.mk (ho); clear HO_3; clear HB; clear HO_4; have HO_3 := n0_; have HB := n1_; have HO141 := n2_; clear n0_ n1_ n2_; clear ho hb hg hat))
        go_roundg kj6
        case measure => have := HK1.out; have := HJ6.out; omega
        case rel => exact ⟨(x3_1), (y139), (wrap64 (x5_1 + 1)), EZc, H', ⟨by have := HK1.out; have := HJ6.out; omega⟩, ⟨by (with_reducible repeat (first | apply Kd.R_alloc | apply Kd.R_drewN | apply Kd.R_drew)); exact HO_3.out⟩, ⟨by (with_reducible repeat (first | apply Kd.R_alloc | apply Kd.R_drewN | apply Kd.R_drew)); exact HO141.out⟩, ⟨HBa⟩⟩
       rw [if_neg c35] at H
       exact absurd H (by simp)
      rw [if_pos c28] at H
      have c28b0 : ((bt a0 x5_1) == 44) = true := beq_iff_eq.mpr c28
      have c28b1 : ((bt a0 x5_1) != 44) = false := bne_eq_false_iff_eq.mpr c28
      clear c28
      by_cases c29 : x3_1.length < 8796093022208
      ·rw [if_pos c29] at H
       have LMc29 := Aside0.mk c29
       clear c29
       obtain ⟨y133, hy133⟩ : ∃ y_ : List ByteArray, y_ = (x3_1 ++ [strOfNums x4_1]) := ⟨_, rfl⟩
       replace H : (spec_l02Cut.l0 kj6 a0 y133 (([] : List Int)) (wrap64 (x5_1 + 1))) = some r := by first | (rw [hy133]; with_reducible exact H) | (have H2_ := (Option.bind_some _ _).symm.trans H; rw [hy133]; with_reducible exact H2_) | (have H2_ := (Option.bind_some _ _).symm.trans H; with_reducible exact H2_) | with_reducible exact H | (rw [hy133]; exact H) | exact H
       have Ny133 := Aside0.mk hy133
       clear hy133
       obtain ⟨y136, hy136⟩ : ∃ y_ : List Int, y_ = (([] : List Int)) := ⟨_, rfl⟩
       replace H : (spec_l02Cut.l0 kj6 a0 y133 y136 (wrap64 (x5_1 + 1))) = some r := by first | (rw [hy136]; with_reducible exact H) | (have H2_ := (Option.bind_some _ _).symm.trans H; rw [hy136]; with_reducible exact H2_) | (have H2_ := (Option.bind_some _ _).symm.trans H; with_reducible exact H2_) | with_reducible exact H | (rw [hy136]; exact H) | exact H
       have Ny136 := Aside0.mk hy136
       clear hy136
       have H' := Aside0.mk H
       clear H
       have p27 : 0 ≤ (x5_1 : Int) := ODz
       have q27 : x5_1 < (a0.size : Int) := ODz
       have hx27 := bt_at a0 x5_1
       replace p27 := eq_true p27
       replace q27 := eq_true q27
       have hcv30 := own_string (P := Tryd.prog) Tryd.underlying135 Tryd.underlying5 Tryd.underlying9 (Kd.own_of_R HO_4.out)
       go_wp2_with (first | ((with_reducible refine gate_builtin (b := .append) (xs := #[.tmp 49, .tmp 52]) rfl ?_); (try (refine gate_guard (by rfl) ?_; dsimp only)); at_builtin; refine Kd.R_append Kd.string (w0 := w) w.heap.size rfl (.tmp 49) (.tmp 52) 22 9 (.string ⟨#[]⟩) 16 rfl Tryd.underlying22 info9 rfl (by decide) (by omega) u3 x3_1 (strOfNums x4_1) [.string (strOfNums x4_1)] (fun _ => True) (fun _ => False) rfl rfl ?aP (fun _ hk => hk.elim) ?aF ?aO ?aB ?aS ?aL ?_; (case aP => exact rfl); (case aB => exact HBa); (case aF => exact (fun _ _ => trivial)); (case aO => exact (KRz HO_3)); (case aS => exact (below_size HBa)); (case aL => have := LMc29.out; omega); intro v134 w31 ho hb hg hat; rw [← Ny133.out] at ho; have n0_ := Aside0.mk (Kd.R_over' (KRz HO_4) (Kd.R_typed (KRz HO_3)) (by decide) hg); have n1_ := Aside0.mk (hb); have n2_ := Aside0.mk (ho); clear HO_4; clear HB; clear HO_3; have HO_4 := n0_; have HB := n1_; have HO135 := n2_; clear n0_ n1_ n2_; clear ho hb hg hat) | ((with_reducible refine gate_dst (N := 54) rfl ?_); (try (refine gate_guard (by rfl) ?_; dsimp only)); refine Kd.R_lit (Kd.int .u8) _ 5 ?hg (N := 54) ?hd (xs := ([] : List Int)) (inner := []) (ok := fun _ => True) (okp := fun _ => True) ?hr ?hp (fun _ hk => hk) trivial (Below.refl _ _) (Nat.le_refl _) (by simp) ?_; (case hd => rfl); (case hg => rfl); (case hr => first | (go_simp; done) | (go_simp; rfl)); (case hp => exact (Reps.none _ _)); intro v137 w32 ho33 hb hg_ hnew_; clear hg_ hnew_; (first | rw [← Ny136.out] at ho33 | (simp only [Int.reduceToNat] at ho33; rw [← Ny136.out] at ho33)); have n0_ := Aside0.mk (Kd.R_elder' (KRz HO_4) (Kd.R_base ho33) hb); have n1_ := Aside0.mk (Kd.R_below (KRz HO135) hb); have n2_ := Aside0.mk (Kd.R_lower (Kd.R_new' ho33 (Kd.R_lt (KRz HO_4))) (below_size HBa)); have n3_ := Aside0.mk (below_step HBa hb); clear HO_4; clear HO135; clear HB; have HO_4 := n0_; have HO135 := n1_; have HO138 := n2_; have HB := n3_; clear n0_ n1_ n2_ n3_; clear hb ho33))
       go_roundg kj6
       case measure => have := HK1.out; have := HJ6.out; omega
       case rel => exact ⟨(y133), (y136), (wrap64 (x5_1 + 1)), EZc, H', ⟨by have := HK1.out; have := HJ6.out; omega⟩, ⟨by (with_reducible repeat (first | apply Kd.R_alloc | apply Kd.R_drewN | apply Kd.R_drew)); exact HO135.out⟩, ⟨by (with_reducible repeat (first | apply Kd.R_alloc | apply Kd.R_drewN | apply Kd.R_drew)); exact Kd.R_mono HO138.out (fun _ hk => trivial)⟩, ⟨HBa⟩⟩
      rw [if_neg c29] at H
      exact absurd H (by simp)
     subst c11
     have H1 : (if 0 ≤ x5_1 then (if x5_1 < (a0.size : Int) then (if 0 ≤ (wrap64 (x5_1 + 1)) then (if (wrap64 (x5_1 + 1)) < (a0.size : Int) then ((some (([bt a0 x5_1, bt a0 (wrap64 (x5_1 + 1))] : List Int) : List Int)).bind fun y127 => (if x4_1.length + y127.length < 140737488355328 then (spec_l02Cut.l0 kj6 a0 x3_1 (x4_1 ++ y127) (wrap64 ((wrap64 (x5_1 + 1)) + 1))) else (none))) else (none)) else (none)) else (none)) else (none)) = some r := by rw [if_pos rfl] at H; exact H
     clear H
     have H := H1
     clear H1
     by_cases c12 : 0 ≤ x5_1
     rotate_left
     ·rw [if_neg c12] at H
      exact absurd H (by simp)
     rw [if_pos c12] at H
     have c12b0 : decide (0 ≤ x5_1) = true := decide_eq_true c12
     clear c12
     by_cases c13 : x5_1 < (a0.size : Int)
     rotate_left
     ·rw [if_neg c13] at H
      exact absurd H (by simp)
     rw [if_pos c13] at H
     have c13b0 : decide (x5_1 < (a0.size : Int)) = true := decide_eq_true c13
     clear c13
     obtain ⟨ji15, hji15⟩ : ∃ j_ : Int, (wrap64 (x5_1 + 1)) = j_ := ⟨_, rfl⟩
     replace H : (if 0 ≤ (ji15) then (if (ji15) < (a0.size : Int) then ((some (([bt a0 x5_1, bt a0 (ji15)] : List Int) : List Int)).bind fun y127 => (if x4_1.length + y127.length < 140737488355328 then (spec_l02Cut.l0 kj6 a0 x3_1 (x4_1 ++ y127) (wrap64 ((ji15) + 1))) else (none))) else (none)) else (none)) = some r := by first | (rw [hji15] at H; exact H) | (simp only [hji15] at H ⊢; exact H)
     have hji15w : (IntKind.i64.wrap (x5_1 + 1)) = ji15 := (i64_w _).trans hji15
     by_cases c16 : 0 ≤ (ji15)
     rotate_left
     ·rw [if_neg c16] at H
      exact absurd H (by simp)
     rw [if_pos c16] at H
     have c16b0 : decide (0 ≤ (ji15)) = true := decide_eq_true c16
     clear c16
     by_cases c17 : (ji15) < (a0.size : Int)
     rotate_left
     ·rw [if_neg c17] at H
      exact absurd H (by simp)
     rw [if_pos c17] at H
     have c17b0 : decide ((ji15) < (a0.size : Int)) = true := decide_eq_true c17
     clear c17
     obtain ⟨y127, hy127⟩ : ∃ y_ : List Int, y_ = (([bt a0 x5_1, bt a0 (ji15)] : List Int)) := ⟨_, rfl⟩
     replace H : (if x4_1.length + y127.length < 140737488355328 then (spec_l02Cut.l0 kj6 a0 x3_1 (x4_1 ++ y127) (wrap64 ((ji15) + 1))) else (none)) = some r := by first | (rw [hy127]; with_reducible exact H) | (have H2_ := (Option.bind_some _ _).symm.trans H; rw [hy127]; with_reducible exact H2_) | (have H2_ := (Option.bind_some _ _).symm.trans H; with_reducible exact H2_) | with_reducible exact H | (rw [hy127]; exact H) | exact H
     have Ny127 := Aside0.mk hy127
     clear hy127
     by_cases c19 : x4_1.length + y127.length < 140737488355328
     rotate_left
     ·rw [if_neg c19] at H
      exact absurd H (by simp)
     rw [if_pos c19] at H
     have LMc19 := Aside0.mk c19
     clear c19
     obtain ⟨y130, hy130⟩ : ∃ y_ : List Int, y_ = (x4_1 ++ y127) := ⟨_, rfl⟩
     replace H : (spec_l02Cut.l0 kj6 a0 x3_1 y130 (wrap64 ((ji15) + 1))) = some r := by first | (rw [hy130]; with_reducible exact H) | (have H2_ := (Option.bind_some _ _).symm.trans H; rw [hy130]; with_reducible exact H2_) | (have H2_ := (Option.bind_some _ _).symm.trans H; with_reducible exact H2_) | with_reducible exact H | (rw [hy130]; exact H) | exact H
     have Ny130 := Aside0.mk hy130
     clear hy130
     have H' := Aside0.mk H
     clear H
     try go_wp2
     have n0_ := Aside0.mk (Kd.R_drew HO_3.out)
     have n1_ := Aside0.mk (Kd.R_drew HO_4.out)
     have n2_ := Aside0.mk (below_drew1 HB.out)
     clear HO_3
     clear HO_4
     clear HB
     have HO_3 := n0_
     have HO_4 := n1_
     have HB := n2_
     clear n0_ n1_ n2_
     have p14 : 0 ≤ (x5_1 : Int) := ODz
     have q14 : x5_1 < (a0.size : Int) := ODz
     have hx14 := bt_at a0 x5_1
     replace p14 := eq_true p14
     replace q14 := eq_true q14
     have p18 : 0 ≤ ((ji15) : Int) := ODz
     have q18 : (ji15) < (a0.size : Int) := ODz
     have hx18 := bt_at a0 (ji15)
     replace p18 := eq_true p18
     replace q18 := eq_true q18
     refine start_ (n := 11) (S := fun w' => True) (ds := []) (bz 11 0) (by kernel_rfl) rfl (by kernel_rfl) trivial (fun hHeld => ?_); refine with_tabW spec_l02Cut.tab8 spec_l02Cut.bits8 (fun HT_ HW_ => ?_)
     generalize wc.drew = w20 at HO_3 HO_4 HB hHeld ⊢
     refine PYz 0 32 (bz 11 1) rfl rfl (any_of HT_.out (by kernel_rfl)) ?_
     refine PYz 1 33 (bz 11 3) rfl rfl (any_of HT_.out (by kernel_rfl)) ?_
     refine PYz 2 34 (bz 11 7) rfl rfl (any_of HT_.out (by kernel_rfl)) ?_
     refine PYz 4 36 (bz 11 23) rfl rfl (any_of HT_.out (by kernel_rfl)) ?_
     refine PYz 5 37 (bz 11 55) rfl rfl (any_of HT_.out (by kernel_rfl)) ?_
     refine PYz 6 38 (bz 11 119) rfl rfl (any_of HT_.out (by kernel_rfl)) ?_
     refine take_ (i := 3) (N := some 35) (v := ?_) (a' := ?_) (bz 11 127) rfl rfl (take_ofW HT_.out HW_.out (by kernel_rfl)) (fun _ _ _ h => h) (Or.inl ⟨by rfl, ?_⟩) hHeld ?_ ?_
     rotate_left
     ·intro w' _
      go_simp
      with_reducible rfl
     rotate_left
     ·simp only [PUz]
      rfl
     refine take_ (i := 7) (N := some 39) (v := ?_) (a' := ?_) (bz 11 255) rfl rfl (take_ofW HT_.out HW_.out (by kernel_rfl)) (fun _ _ _ h => h) (Or.inl ⟨by rfl, ?_⟩) hHeld ?_ ?_
     rotate_left
     ·intro w' _
      go_simp
      with_reducible rfl
     rotate_left
     ·simp only [PUz]
      rfl
     refine one_ (i := 8) (N := some 40) (bz 11 511) rfl rfl (one_of HT_.out (by kernel_rfl)) (by decide) (fun K hK => ?_)
     refine Kd.R_lit_step (Kd.int .u8) _ 5 ?hg (N := 40) ?hd (xs := ([bt a0 x5_1, bt a0 (ji15)] : List Int)) (inner := [.int .u8 (bt a0 x5_1), .int .u8 (bt a0 (ji15))]) (ok := fun _ => True) (okp := fun _ => True) ?hr ?hp (fun _ hk => hk) trivial (Below.refl _ _) (Nat.le_refl _) (by simp) ?_; (case hd => rfl); (case hg => rfl); (case hr => first | (go_simp; done) | (go_simp; rfl)); (case hp => exact (Reps.one (show Kd.M (Kd.int .u8) _ _ _ (bt a0 x5_1) [.int .u8 (bt a0 x5_1)] from rfl) (Reps.one (show Kd.M (Kd.int .u8) _ _ _ (bt a0 (ji15)) [.int .u8 (bt a0 (ji15))] from rfl) (Reps.none _ _))))
     intro v128 w21 ho22 hb hg_ hnew_
     clear hg_ hnew_
     (first | rw [← Ny127.out] at ho22 | (simp only [Int.reduceToNat] at ho22; rw [← Ny127.out] at ho22))
     have n0_ := Aside0.mk (Kd.R_below (KRz HO_3) hb)
     have n1_ := Aside0.mk (Kd.R_elder' (KRz HO_4) (Kd.R_base ho22) hb)
     have n2_ := Aside0.mk (Kd.R_lower (Kd.R_new' ho22 (Kd.R_lt (KRz HO_4))) (below_size HBa))
     have n3_ := Aside0.mk (below_step HBa hb)
     clear HO_3
     clear HO_4
     clear HB
     have HO_3 := n0_
     have HO_4 := n1_
     have HO129 := n2_
     have HB := n3_
     clear n0_ n1_ n2_ n3_
     clear hb ho22
     obtain ⟨Ao24, co24, eo24⟩ := Kd.R_slice HO129.out
     (first | subst eo24 | (injection eo24 with f1_ f2_ f3_; have f4_ := f1_.symm; have f5_ := f3_.symm; clear f1_ f2_ f3_; subst f4_; subst f5_))
     refine hK.out _ _ trivial (fun hHeld => ?_)
     clear hK K
     refine norm_ (a' := ?_) ?_ ?_
     rotate_left
     ·show Act.put _ (some 40) _ = _
      simp only [PUz]
      rfl
     refine one_ (i := 9) (N := some 41) (bz 11 1023) rfl rfl (one_of HT_.out (by kernel_rfl)) (by decide) (fun K hK => ?_)
     refine Kd.R_append_rows_step (Kd.int .u8) (w0 := w) w.heap.size (by rfl) (.tmp 32) (.tmp 40) 135 5 (.int .u8 0) 1 rfl Tryd.underlying135 info5 rfl (by decide) (by omega) u4 x4_1 y127 _ _ _ (fun k_ => some k_ ≠ (.slice Ao24 y127.length co24 : Value).ownBlock) (fun _ => False) rfl rfl ?aO ?aR (fun _ _ h => h) (fun _ h => h.elim) ?aF ?aB ?aS ?aL ?_
     (case aR => repeat (first | exact (Kd.R_reads' HO129.out).2.2 | (with_reducible refine Kd.C_alloc ?_ _) | (with_reducible refine Kd.C_drewN ?_ _) | (with_reducible refine Kd.C_drew ?_)))
     (case aB => exact HBa)
     (case aF => exact (fun k_ hk => Kd.fresh' (Kd.R_lt (KRz HO129)) k_ hk))
     (case aO => exact (by (with_reducible repeat (first | apply Kd.R_alloc | apply Kd.R_drewN | apply Kd.R_drew)); exact Kd.R_mono HO_4.out (fun _ hk => hk.2)))
     (case aS => exact (below_size HBa))
     (case aL => have := LMc19.out; omega)
     intro v131 w23 ho hb hg hat
     rw [← Ny130.out] at ho
     have n0_ := Aside0.mk (Kd.R_over' (KRz HO_3) (Kd.R_typed (KRz HO_4)) (by decide) hg)
     have n1_ := Aside0.mk (Kd.R_after (ok := (fun _ => True)) (KRz HO129) hg hat)
     have n2_ := Aside0.mk (hb)
     have n3_ := Aside0.mk (ho)
     clear HO_3
     clear HO129
     clear HB
     clear HO_4
     have HO_3 := n0_
     have HO129 := n1_
     have HB := n2_
     have HO132 := n3_
     clear n0_ n1_ n2_ n3_
     clear ho hb hg hat
     refine hK.out _ _ trivial (fun hHeld => ?_)
     clear hK K
     refine norm_ (a' := ?_) ?_ ?_
     rotate_left
     ·show Act.put _ (some 41) _ = _
      simp only [PUz]
      rfl
     refine PYz 10 4 (bz 11 2047) rfl rfl (any_of HT_.out (by kernel_rfl)) ?_
     refine done_ (done_of HT_.out (by kernel_rfl)) ?_
     try go_wp2
     go_roundg kj6
     case measure => have := HK1.out; have := HJ6.out; omega
     case rel => exact ⟨(x3_1), (y130), (wrap64 ((ji15) + 1)), (by first | rfl | (simp; done) | (simp only [← hji15] <;> (first | rfl | simp)) | (simp [*]; done)), H', ⟨by have := HK1.out; have := HJ6.out; omega⟩, ⟨by (with_reducible repeat (first | apply Kd.R_alloc | apply Kd.R_drewN | apply Kd.R_drew)); exact HO_3.out⟩, ⟨by (with_reducible repeat (first | apply Kd.R_alloc | apply Kd.R_drewN | apply Kd.R_drew)); exact Kd.R_mono HO132.out (fun _ hk => trivial)⟩, ⟨HBa⟩⟩
end Go.Proofs.YtgkjlfimjnhbbaaDoor.PFnExactChangesRight
