-- Laid by this session's own program out of the translation; Lean checks it.
import Derived.Test.YtmkeigielncpjaaGreatDoorQFnFilterx0
import Derived.Test.YtmkeigielncpjaaGreatDoorQFnFilterx3
namespace Go.Proofs.YtmkeigielncpjaaGreatDoor.PFnFilter
open Go.RowKit Go.Proofs.YtmkeigielncpjaaGreatDoorW.PrintWords Go.Proofs.YtmkeigielncpjaaGreatDoorW.PrintLast Go.Proofs.YtmkeigielncpjaaGreatDoorW.PrintMore
attribute [local go_sem] max2_int min2_int max_two min_two max_three min_three max_four min_four   -- for this text's walks alone
set_option linter.unusedVariables false
set_option linter.unusedSimpArgs false
mutual
def Qb.j0 : Nat → ByteArray → Bool → Option (ByteArray)
 | 0, _, _ => none
 | k + 1, x0, x13 => if x13 = true then (some (⟨#[]⟩ : ByteArray)) else (Qb.l0 k x0 (([] : List Int)) 0)
def Qb.l0 : Nat → ByteArray → List Int → Int → Option (ByteArray)
 | 0, _, _, _ => none
 | k + 1, x0, x3, x4 => if x4 < (x0.size : Int) then (if 0 ≤ x4 then (if (bt x0 x4) ≥ 65 then (Qb.j2 k x0 x3 x4 (bt x0 x4) (decide ((bt x0 x4) ≤ 90))) else (Qb.j2 k x0 x3 x4 (bt x0 x4) false)) else (none)) else (if (x3.length : Int) > 0 then (if 0 ≤ (wrap64 ((x3.length : Int) - 1)) then (if (wrap64 ((x3.length : Int) - 1)) < (x3.length : Int) then (if (rd x3 (wrap64 ((x3.length : Int) - 1))) = 32 then (if (wrap64 ((x3.length : Int) - 1)) ≤ (x3.length : Int) then (some (strOfNums (x3.take ((wrap64 ((x3.length : Int) - 1)) : Int).toNat))) else (none)) else (some (strOfNums x3))) else (none)) else (none)) else (some (strOfNums x3)))
def Qb.j2 : Nat → ByteArray → List Int → Int → Int → Bool → Option (ByteArray)
 | 0, _, _, _, _, _ => none
 | k + 1, x0, x3, x4, x5, x29 => if x29 = true then (if ((x5 + 32) % 256) = 32 then (if (x3.length : Int) = 0 then (Qb.l0 k x0 x3 (wrap64 (x4 + 1))) else (if 0 ≤ (wrap64 ((x3.length : Int) - 1)) then (if (wrap64 ((x3.length : Int) - 1)) < (x3.length : Int) then (if (rd x3 (wrap64 ((x3.length : Int) - 1))) = 32 then (Qb.l0 k x0 x3 (wrap64 (x4 + 1))) else (if x3.length < 140737488355328 then (Qb.l0 k x0 (x3 ++ [(x5 + 32) % 256]) (wrap64 (x4 + 1))) else (none))) else (none)) else (none))) else (if x3.length < 140737488355328 then (Qb.l0 k x0 (x3 ++ [(x5 + 32) % 256]) (wrap64 (x4 + 1))) else (none))) else (if x5 = 32 then (if (x3.length : Int) = 0 then (Qb.l0 k x0 x3 (wrap64 (x4 + 1))) else (if 0 ≤ (wrap64 ((x3.length : Int) - 1)) then (if (wrap64 ((x3.length : Int) - 1)) < (x3.length : Int) then (if (rd x3 (wrap64 ((x3.length : Int) - 1))) = 32 then (Qb.l0 k x0 x3 (wrap64 (x4 + 1))) else (if x3.length < 140737488355328 then (Qb.l0 k x0 (x3 ++ [x5]) (wrap64 (x4 + 1))) else (none))) else (none)) else (none))) else (if x3.length < 140737488355328 then (Qb.l0 k x0 (x3 ++ [x5]) (wrap64 (x4 + 1))) else (none)))
end
def Qb.f (k : Nat) (a0 : ByteArray) : Option (ByteArray) := if (a0.size : Int) > 100 then (Qb.j0 k a0 true) else ((Qh.f k a0).bind fun t113 => (Qb.j0 k a0 (!t113)))
theorem Qb.mono_l : ∀ k, (∀ y0 y1, LeO (Qb.j0 k y0 y1) (Qb.j0 (k + 1) y0 y1)) ∧ (∀ y0 y1 y2, LeO (Qb.l0 k y0 y1 y2) (Qb.l0 (k + 1) y0 y1 y2)) ∧ (∀ y0 y1 y2 y3 y4, LeO (Qb.j2 k y0 y1 y2 y3 y4) (Qb.j2 (k + 1) y0 y1 y2 y3 y4))
 | 0 => ⟨fun _ _ r h => by simp [Qb.j0] at h, fun _ _ _ r h => by simp [Qb.l0] at h, fun _ _ _ _ _ r h => by simp [Qb.j2] at h⟩
 | k + 1 => by
  obtain ⟨ih0, ih1, ih2⟩ := Qb.mono_l k
  refine ⟨?_, ?_, ?_⟩
  ·intro y0 y1
   unfold Qb.j0
   with_reducible repeat' first | exact ih0 _ _ | exact ih1 _ _ _ | exact ih2 _ _ _ _ _ | exact Qh.mono _ _ | exact LeO.refl _ | exact LeO.none _ | refine LeO.ite ?_ ?_ | refine LeO.bind ?_ (fun _ => ?_)
  ·intro y0 y1 y2
   unfold Qb.l0
   with_reducible repeat' first | exact ih0 _ _ | exact ih1 _ _ _ | exact ih2 _ _ _ _ _ | exact Qh.mono _ _ | exact LeO.refl _ | exact LeO.none _ | refine LeO.ite ?_ ?_ | refine LeO.bind ?_ (fun _ => ?_)
  ·intro y0 y1 y2 y3 y4
   unfold Qb.j2
   with_reducible repeat' first | exact ih0 _ _ | exact ih1 _ _ _ | exact ih2 _ _ _ _ _ | exact Qh.mono _ _ | exact LeO.refl _ | exact LeO.none _ | refine LeO.ite ?_ ?_ | refine LeO.bind ?_ (fun _ => ?_)
theorem Qb.mono : ∀ a0 k, LeO (Qb.f k a0) (Qb.f (k + 1) a0) := by
 intro a0 k
 obtain ⟨ih0, ih1, ih2⟩ := Qb.mono_l k
 unfold Qb.f
 with_reducible repeat' first | exact ih0 _ _ | exact ih1 _ _ _ | exact ih2 _ _ _ _ _ | exact Qh.mono _ _ | exact LeO.refl _ | exact LeO.none _ | refine LeO.ite ?_ ?_ | refine LeO.bind ?_ (fun _ => ?_)
set_option maxHeartbeats 8000000 in
set_option maxRecDepth 100000 in
theorem Qb.calls (k : Nat) (a0 : ByteArray) (r : ByteArray) (w : World) (h : Qb.f k a0 = some r) :
  Calls Tryz.prog 110 #[.string a0] w fun e w' => e = .returned (.string r) ∧ Below w.heap.size w w' := by
 have HB := Aside0.mk (Below.refl w.heap.size w)
 have H : (if (a0.size : Int) > 100 then (Qb.j0 k a0 true) else ((Qh.f k a0).bind fun t113 => (Qb.j0 k a0 (!t113)))) = some r := h
 clear h
 have HC2 := Aside0.mk H
 clear H
 go_enter Tryz.func110, Tryz.ntmps110
 go_upto_region 1 with (fail)
 go_cut [13] (fun v13 wc => ∃ (kq : Nat) (x13_1 : Bool), v13 = .bool x13_1 ∧ Aside0 (Qb.j0 kq a0 x13_1 = some r) ∧ Aside0 (kq ≤ k) ∧ Aside0 (Below w.heap.size w wc))
 case first =>
  have H := HC2.out
  clear HC2
  by_cases c3 : (a0.size : Int) > 100
  ·rw [if_pos c3] at H
   have c3b0 : decide (100 < (a0.size : Int)) = true := decide_eq_true c3
   have c3b1 : decide (100 < a0.size) = true := decide_eq_true (by omega)
   clear c3
   (first | rw [c3b0] | rw [c3v0] | (simp only [i64_w, i32_w]; rw [c3b0]) | (simp only [i64_w, i32_w]; rw [c3v0]) | skip)
   have H' := Aside0.mk H
   clear H
   go_wp2
   go_meet
   case rel => exact ⟨_, (true), EZc, H', ⟨by first | omega | exact Nat.le_refl _⟩, ⟨HBa⟩⟩
  rw [if_neg c3] at H
  have c3b0 : decide (100 < (a0.size : Int)) = false := decide_eq_false c3
  have c3b1 : decide (100 < a0.size) = false := decide_eq_false (by omega)
  clear c3
  (first | rw [c3b0] | rw [c3v0] | (simp only [i64_w, i32_w]; rw [c3b0]) | (simp only [i64_w, i32_w]; rw [c3v0]) | skip)
  replace H := Option.bind_eq_some_iff.mp H
  obtain ⟨t113, A40, H⟩ := H
  replace H : (Qb.j0 k a0 (!t113)) = some r := H
  have A4 := Aside0.mk A40
  clear A40
  have H' := Aside0.mk H
  clear H
  go_wp2_with (first | (go_at_call 146; (with_reducible refine (Qh.calls k a0 t113 _ A4.out).mono ?_); rintro e w' ⟨rfl, ⟨nd, rfl⟩⟩))
  go_meet
  case rel => exact ⟨_, (!t113), EZc, H', ⟨by first | omega | exact Nat.le_refl _⟩, ⟨HBa⟩⟩
 case rest =>
  clear HC2
  obtain ⟨kq, x13_1, rfl, HA, HJ1, HB⟩ := hcut
  cases kq with
  | zero => exact absurd HA.out (by simp [Qb.j0])
  | succ kj1 =>
   have H := HA.out
   clear HA
   simp only [Qb.j0] at H
   by_cases c5 : x13_1 = true
   ·subst c5
    have H1 : (some (⟨#[]⟩ : ByteArray)) = some r := by rw [if_pos rfl] at H; exact H
    clear H
    have H := H1
    clear H1
    obtain rfl := Option.some.inj H
    clear H
    go_wp2
    go_ret
    exact ⟨EZa, HBa⟩
   replace c5 := Bool.eq_false_iff.mpr c5
   subst c5
   have H1 : (Qb.l0 kj1 a0 (([] : List Int)) 0) = some r := by rw [if_neg (show ¬ (false = true) by decide)] at H; exact H
   clear H
   have H := H1
   clear H1
   obtain ⟨y114, hy114⟩ : ∃ y_ : List Int, y_ = (([] : List Int)) := ⟨_, rfl⟩
   replace H : (Qb.l0 kj1 a0 y114 0) = some r := by first | (rw [hy114]; with_reducible exact H) | (have H2_ := (Option.bind_some _ _).symm.trans H; rw [hy114]; with_reducible exact H2_) | (have H2_ := (Option.bind_some _ _).symm.trans H; with_reducible exact H2_) | with_reducible exact H | (rw [hy114]; exact H) | exact H
   have Ny114 := Aside0.mk hy114
   clear hy114
   have H' := Aside0.mk H
   clear H
   go_wp2_with (first | ((with_reducible refine gate_dst (N := 14) rfl ?_); (try (refine gate_guard (by rfl) ?_; dsimp only)); refine Kd.R_lit (Kd.int .u8) _ 5 ?hg (N := 14) ?hd (xs := ([] : List Int)) (inner := []) (ok := fun _ => True) (okp := fun _ => True) ?hr ?hp (fun _ hk => hk) trivial (Below.refl _ _) (Nat.le_refl _) (by simp) ?_; (case hd => rfl); (case hg => rfl); (case hr => first | (go_simp; done) | (go_simp; rfl)); (case hp => exact (Reps.none _ _)); intro v115 w6 ho7 hb hg_ hnew_; clear hg_ hnew_; (first | rw [← Ny114.out] at ho7 | (simp only [Int.reduceToNat] at ho7; rw [← Ny114.out] at ho7)); have n0_ := Aside0.mk (Kd.R_lower ho7 (below_size HBa)); have n1_ := Aside0.mk (below_step HBa hb); clear HB; have HO116 := n0_; have HB := n1_; clear n0_ n1_; clear hb ho7))
   go_loopg [3, 4] kj1 (fun kq v3 v4 w' => ∃ (x3_2 : List Int) (x4_2 : Int), v4 = .int .i64 x4_2 ∧ Aside0 (Qb.l0 kq a0 x3_2 x4_2 = some r) ∧ Aside0 (kq ≤ kj1) ∧ Aside0 (Kd.R (Kd.int .u8) 5 w' w.heap.size (fun _ => True) v3 x3_2) ∧ Aside0 (Below w.heap.size w w'))
   case atStart => exact ⟨(y114), (0), EZc, H', ⟨Nat.le_refl _⟩, ⟨by (with_reducible repeat (first | apply Kd.R_alloc | apply Kd.R_drewN | apply Kd.R_drew)); exact HO116.out⟩, ⟨HBa⟩⟩
   case round =>
    clear H'
    try clear c5
    obtain ⟨x3_2, x4_2, rfl, HA, HK2, HO_3, HB⟩ := hrel
    cases gk with
    | zero => exact absurd HA.out (by simp [Qb.l0])
    | succ k2 =>
     have H := HA.out
     clear HA
     simp only [Qb.l0] at H
     by_cases c8 : x4_2 < (a0.size : Int)
     rotate_left
     ·rw [if_neg c8] at H
      have c8b0 := decide_eq_false c8
      clear c8
      by_cases c40 : (x3_2.length : Int) > 0
      rotate_left
      ·rw [if_neg c40] at H
       have c40b0 : decide (0 < (x3_2.length : Int)) = false := decide_eq_false c40
       have c40b1 : decide (0 < x3_2.length) = false := decide_eq_false (by omega)
       clear c40
       obtain rfl := Option.some.inj H
       clear H
       obtain ⟨Ao51, co51, eo51⟩ := Kd.R_slice HO_3.out
       subst eo51
       have hcv52 := own_string (P := Tryz.prog) Tryz.underlying35 Tryz.underlying5 Tryz.underlying9 (Kd.own_of_R HO_3.out)
       go_wp2
       go_ret
       exact ⟨EZa, HBa⟩
      rw [if_pos c40] at H
      have c40b0 : decide (0 < (x3_2.length : Int)) = true := decide_eq_true c40
      have c40b1 : decide (0 < x3_2.length) = true := decide_eq_true (by omega)
      clear c40
      obtain ⟨ji41, hji41⟩ : ∃ j_ : Int, (wrap64 ((x3_2.length : Int) - 1)) = j_ := ⟨_, rfl⟩
      replace H : (if 0 ≤ (ji41) then (if (ji41) < (x3_2.length : Int) then (if (rd x3_2 (ji41)) = 32 then (if (ji41) ≤ (x3_2.length : Int) then (some (strOfNums (x3_2.take ((ji41) : Int).toNat))) else (none)) else (some (strOfNums x3_2))) else (none)) else (none)) = some r := by first | (rw [hji41] at H; exact H) | (simp only [hji41] at H ⊢; exact H)
      have hji41w : (IntKind.i64.wrap ((x3_2.length : Int) - 1)) = ji41 := (i64_w _).trans hji41
      by_cases c42 : 0 ≤ (ji41)
      rotate_left
      ·rw [if_neg c42] at H
       exact absurd H (by simp)
      rw [if_pos c42] at H
      have c42b0 := decide_eq_true c42
      clear c42
      by_cases c43 : (ji41) < (x3_2.length : Int)
      rotate_left
      ·rw [if_neg c43] at H
       exact absurd H (by simp)
      rw [if_pos c43] at H
      have c43b0 := decide_eq_true c43
      clear c43
      by_cases c44 : (rd x3_2 (ji41)) = 32
      rotate_left
      ·rw [if_neg c44] at H
       obtain ⟨c44b0, c44b1⟩ := QFz c44
       obtain rfl := Option.some.inj H
       clear H
       obtain ⟨Ao49, co49, eo49⟩ := Kd.R_slice HO_3.out
       subst eo49
       have p117 : 0 ≤ ((ji41) : Int) := ODz
       have q117 : (ji41) < (x3_2.length : Int) := ODz
       obtain ⟨ad117, e117, hx117_0⟩ := Kd.at_int (Kd.R_reads' HO_3.out).2.2 (ji41) p117 q117
       cases e117
       replace p117 := eq_true p117
       replace q117 := eq_true q117
       have hcv50 := own_string (P := Tryz.prog) Tryz.underlying35 Tryz.underlying5 Tryz.underlying9 (Kd.own_of_R HO_3.out)
       go_wp2
       go_ret
       exact ⟨by first | rfl | (simp only [bne_nil_, beq_nil_]; rfl) | (simp [errW_none, errW_some] <;> rfl) | (simp only [← hji41]; first | rfl | (simp [errW_none, errW_some] <;> rfl)) | (simp [*, errW_none, errW_some] <;> rfl), HBa⟩
      rw [if_pos c44] at H
      obtain ⟨c44b0, c44b1⟩ := QTz c44
      clear c44
      by_cases c45 : (ji41) ≤ (x3_2.length : Int)
      rotate_left
      ·rw [if_neg c45] at H
       exact absurd H (by simp)
      rw [if_pos c45] at H
      have c45b0 := eq_true c45
      have c45b1 := decide_eq_true c45
      clear c45
      obtain ⟨y118, hy118⟩ : ∃ y_ : List Int, y_ = (x3_2.take ((ji41) : Int).toNat) := ⟨_, rfl⟩
      replace H : (some (strOfNums y118)) = some r := by first | (rw [hy118]; with_reducible exact H) | (have H2_ := (Option.bind_some _ _).symm.trans H; rw [hy118]; with_reducible exact H2_) | (have H2_ := (Option.bind_some _ _).symm.trans H; with_reducible exact H2_) | with_reducible exact H | (rw [hy118]; exact H) | exact H
      have Ny118 := Aside0.mk hy118
      clear hy118
      obtain rfl := Option.some.inj H
      clear H
      obtain ⟨Ao46, co46, eo46⟩ := Kd.R_slice HO_3.out
      subst eo46
      have p117 : 0 ≤ ((ji41) : Int) := ODz
      have q117 : (ji41) < (x3_2.length : Int) := ODz
      obtain ⟨ad117, e117, hx117_0⟩ := Kd.at_int (Kd.R_reads' HO_3.out).2.2 (ji41) p117 q117
      cases e117
      replace p117 := eq_true p117
      replace q117 := eq_true q117
      have q47 : ((ji41) : Int) ≤ ((x3_2.length : Int) : Int) := ODz
      obtain ⟨i047, hi047, _, hsz47, _⟩ := info_parts info5
      have hcut47 := cut_to (P := Tryz.prog) 35 5 .i64 Tryz.underlying35 hi047 (some ad117) x3_2.length co46 (ji41) (ODz) q47 (Kd.R_reads' HO_3.out).2.1
      have hr47 := Kd.R_take (m := ((ji41) : Int).toNat) HO_3.out (by omega)
      have hy47 : y118.length = ((ji41) : Int).toNat := (by rw [Ny118.out, List.length_take]; omega)
      rw [← Ny118.out] at hr47
      rw [← hy47] at hr47 hcut47
      clear hy47 hi047 hsz47 HO_3
      have HO120 := Aside0.mk hr47
      clear hr47
      replace q47 := eq_true q47
      have hcv48 := own_string (P := Tryz.prog) Tryz.underlying35 Tryz.underlying5 Tryz.underlying9 (Kd.own_of_R HO120.out)
      go_wp2
      go_ret
      exact ⟨by first | rfl | (simp only [bne_nil_, beq_nil_]; rfl) | (simp [errW_none, errW_some] <;> rfl) | (simp only [← hji41]; first | rfl | (simp [errW_none, errW_some] <;> rfl)) | (simp [*, errW_none, errW_some] <;> rfl), HBa⟩
     rw [if_pos c8] at H
     have c8b0 := decide_eq_true c8
     clear c8
     by_cases c9 : 0 ≤ x4_2
     rotate_left
     ·rw [if_neg c9] at H
      exact absurd H (by simp)
     rw [if_pos c9] at H
     have c9b0 := decide_eq_true c9
     clear c9
     have HC11 := Aside0.mk H
     clear H
     have p10 : 0 ≤ (x4_2 : Int) := ODz
     have q10 : x4_2 < (a0.size : Int) := ODz
     have hx10 := bt_at a0 x4_2
     replace p10 := eq_true p10
     replace q10 := eq_true q10
     go_upto_region 8 with (fail)
     go_cut [29] (fun v29 wc => ∃ (kq : Nat) (x29_10 : Bool), v29 = .bool x29_10 ∧ Aside0 (Qb.j2 kq a0 x3_2 x4_2 (bt a0 x4_2) x29_10 = some r) ∧ Aside0 (kq ≤ k2) ∧ Aside0 (Kd.R (Kd.int .u8) 5 wc w.heap.size (fun _ => True) u3 x3_2) ∧ Aside0 (Below w.heap.size w wc))
     case first =>
      have H := HC11.out
      clear HC11
      by_cases c12 : (bt a0 x4_2) ≥ 65
      ·rw [if_pos c12] at H
       have c12b0 : decide (65 ≤ (bt a0 x4_2)) = true := decide_eq_true c12
       clear c12
       (first | rw [c12b0] | rw [c12v0] | (simp only [i64_w, i32_w]; rw [c12b0]) | (simp only [i64_w, i32_w]; rw [c12v0]) | skip)
       have H' := Aside0.mk H
       clear H
       go_wp2
       go_meet
       case rel => exact ⟨_, (decide ((bt a0 x4_2) ≤ 90)), EZc, H', ⟨by have := HJ1.out; have := HK2.out; first | omega | exact Nat.le_refl _⟩, ⟨by (with_reducible repeat (first | apply Kd.R_alloc | apply Kd.R_drewN | apply Kd.R_drew)); exact HO_3.out⟩, ⟨HBa⟩⟩
      rw [if_neg c12] at H
      have c12b0 : decide (65 ≤ (bt a0 x4_2)) = false := decide_eq_false c12
      clear c12
      (first | rw [c12b0] | rw [c12v0] | (simp only [i64_w, i32_w]; rw [c12b0]) | (simp only [i64_w, i32_w]; rw [c12v0]) | skip)
      have H' := Aside0.mk H
      clear H
      go_wp2
      go_meet
      case rel => exact ⟨_, (false), EZc, H', ⟨by have := HJ1.out; have := HK2.out; first | omega | exact Nat.le_refl _⟩, ⟨by (with_reducible repeat (first | apply Kd.R_alloc | apply Kd.R_drewN | apply Kd.R_drew)); exact HO_3.out⟩, ⟨HBa⟩⟩
     case rest =>
      clear HC11
      try clear c5
      try clear c8
      try clear c8b0
      try clear c9
      try clear c9b0
      try clear p10
      try clear q10
      try clear hx10
      try clear p10
      try clear q10
      obtain ⟨kq, x29_10, rfl, HA, HJ10, HO_3, HB⟩ := hcut
      cases kq with
      | zero => exact absurd HA.out (by simp [Qb.j2])
      | succ kj10 =>
       have H := HA.out
       clear HA
       simp only [Qb.j2] at H
       by_cases c13 : x29_10 = true
       ·subst c13
        have H1 : (if (((bt a0 x4_2) + 32) % 256) = 32 then (if (x3_2.length : Int) = 0 then (Qb.l0 kj10 a0 x3_2 (wrap64 (x4_2 + 1))) else (if 0 ≤ (wrap64 ((x3_2.length : Int) - 1)) then (if (wrap64 ((x3_2.length : Int) - 1)) < (x3_2.length : Int) then (if (rd x3_2 (wrap64 ((x3_2.length : Int) - 1))) = 32 then (Qb.l0 kj10 a0 x3_2 (wrap64 (x4_2 + 1))) else (if x3_2.length < 140737488355328 then (Qb.l0 kj10 a0 (x3_2 ++ [((bt a0 x4_2) + 32) % 256]) (wrap64 (x4_2 + 1))) else (none))) else (none)) else (none))) else (if x3_2.length < 140737488355328 then (Qb.l0 kj10 a0 (x3_2 ++ [((bt a0 x4_2) + 32) % 256]) (wrap64 (x4_2 + 1))) else (none))) = some r := by rw [if_pos rfl] at H; exact H
        clear H
        have H := H1
        clear H1
        by_cases c14 : (((bt a0 x4_2) + 32) % 256) = 32
        rotate_left
        ·rw [if_neg c14] at H
         obtain ⟨c14b0, c14b1⟩ := QFz c14
         by_cases c25 : x3_2.length < 140737488355328
         ·rw [if_pos c25] at H
          have LMc25 := Aside0.mk c25
          clear c25
          obtain ⟨y125, hy125⟩ : ∃ y_ : List Int, y_ = (x3_2 ++ [((bt a0 x4_2) + 32) % 256]) := ⟨_, rfl⟩
          replace H : (Qb.l0 kj10 a0 y125 (wrap64 (x4_2 + 1))) = some r := by first | (rw [hy125]; with_reducible exact H) | (have H2_ := (Option.bind_some _ _).symm.trans H; rw [hy125]; with_reducible exact H2_) | (have H2_ := (Option.bind_some _ _).symm.trans H; with_reducible exact H2_) | with_reducible exact H | (rw [hy125]; exact H) | exact H
          have Ny125 := Aside0.mk hy125
          clear hy125
          have H' := Aside0.mk H
          clear H
          go_wp2_with (first | ((with_reducible refine gate_builtin (b := .append) (xs := #[.tmp 48, .tmp 50]) rfl ?_); (try (refine gate_guard (by rfl) ?_; dsimp only)); at_builtin; refine Kd.R_append (Kd.int .u8) (w0 := w) w.heap.size rfl (.tmp 48) (.tmp 50) 35 5 (.int .u8 0) 1 rfl Tryz.underlying35 info5 rfl (by decide) (by omega) u3 x3_2 (((bt a0 x4_2) + 32) % 256) [.int .u8 (((bt a0 x4_2) + 32) % 256)] (fun _ => True) (fun _ => False) rfl rfl ?aP (fun _ hk => hk.elim) ?aF ?aO ?aB ?aS ?aL ?_; (case aP => exact rfl); (case aB => exact HBa); (case aF => exact (fun _ _ => trivial)); (case aO => exact (KRz HO_3)); (case aS => exact (below_size HBa)); (case aL => have := LMc25.out; omega); intro v126 w26 ho hb hg hat; rw [← Ny125.out] at ho; have n0_ := Aside0.mk (hb); have n1_ := Aside0.mk (ho); clear HB; clear HO_3; have HB := n0_; have HO127 := n1_; clear n0_ n1_; clear ho hb hg hat))
          go_roundg kj10
          case measure => have := HJ1.out; have := HK2.out; have := HJ10.out; omega
          case rel => exact ⟨(y125), (wrap64 (x4_2 + 1)), EZc, H', ⟨by have := HJ1.out; have := HK2.out; have := HJ10.out; omega⟩, ⟨by (with_reducible repeat (first | apply Kd.R_alloc | apply Kd.R_drewN | apply Kd.R_drew)); exact HO127.out⟩, ⟨HBa⟩⟩
         rw [if_neg c25] at H
         exact absurd H (by simp)
        rw [if_pos c14] at H
        obtain ⟨c14b0, c14b1⟩ := QTz c14
        clear c14
        by_cases c15 : (x3_2.length : Int) = 0
        ·rw [if_pos c15] at H
         obtain ⟨c15b0, c15b1⟩ := QTz c15
         clear c15
         have H' := Aside0.mk H
         clear H
         obtain ⟨Ao16, co16, eo16⟩ := Kd.R_slice HO_3.out
         subst eo16
         go_wp2
         go_roundg kj10
         case measure => have := HJ1.out; have := HK2.out; have := HJ10.out; omega
         case rel => exact ⟨(x3_2), (wrap64 (x4_2 + 1)), EZc, H', ⟨by have := HJ1.out; have := HK2.out; have := HJ10.out; omega⟩, ⟨by (with_reducible repeat (first | apply Kd.R_alloc | apply Kd.R_drewN | apply Kd.R_drew)); exact HO_3.out⟩, ⟨HBa⟩⟩
        rw [if_neg c15] at H
        obtain ⟨c15b0, c15b1⟩ := QFz c15
        have c15b2 : ¬ (x3_2 = []) := fun h_ => c15 (by rw [h_]; rfl)
        obtain ⟨ji17, hji17⟩ : ∃ j_ : Int, (wrap64 ((x3_2.length : Int) - 1)) = j_ := ⟨_, rfl⟩
        replace H : (if 0 ≤ (ji17) then (if (ji17) < (x3_2.length : Int) then (if (rd x3_2 (ji17)) = 32 then (Qb.l0 kj10 a0 x3_2 (wrap64 (x4_2 + 1))) else (if x3_2.length < 140737488355328 then (Qb.l0 kj10 a0 (x3_2 ++ [((bt a0 x4_2) + 32) % 256]) (wrap64 (x4_2 + 1))) else (none))) else (none)) else (none)) = some r := by first | (rw [hji17] at H; exact H) | (simp only [hji17] at H ⊢; exact H)
        have hji17w : (IntKind.i64.wrap ((x3_2.length : Int) - 1)) = ji17 := (i64_w _).trans hji17
        by_cases c18 : 0 ≤ (ji17)
        rotate_left
        ·rw [if_neg c18] at H
         exact absurd H (by simp)
        rw [if_pos c18] at H
        have c18b0 := decide_eq_true c18
        clear c18
        by_cases c19 : (ji17) < (x3_2.length : Int)
        rotate_left
        ·rw [if_neg c19] at H
         exact absurd H (by simp)
        rw [if_pos c19] at H
        have c19b0 := decide_eq_true c19
        clear c19
        by_cases c20 : (rd x3_2 (ji17)) = 32
        ·rw [if_pos c20] at H
         obtain ⟨c20b0, c20b1⟩ := QTz c20
         clear c20
         have H' := Aside0.mk H
         clear H
         obtain ⟨Ao21, co21, eo21⟩ := Kd.R_slice HO_3.out
         subst eo21
         have p121 : 0 ≤ ((ji17) : Int) := ODz
         have q121 : (ji17) < (x3_2.length : Int) := ODz
         obtain ⟨ad121, e121, hx121_0⟩ := Kd.at_int (Kd.R_reads' HO_3.out).2.2 (ji17) p121 q121
         cases e121
         replace p121 := eq_true p121
         replace q121 := eq_true q121
         go_wp2
         go_roundg kj10
         case measure => have := HJ1.out; have := HK2.out; have := HJ10.out; omega
         case rel => exact ⟨(x3_2), (wrap64 (x4_2 + 1)), EZc, H', ⟨by have := HJ1.out; have := HK2.out; have := HJ10.out; omega⟩, ⟨by (with_reducible repeat (first | apply Kd.R_alloc | apply Kd.R_drewN | apply Kd.R_drew)); exact HO_3.out⟩, ⟨HBa⟩⟩
        rw [if_neg c20] at H
        obtain ⟨c20b0, c20b1⟩ := QFz c20
        by_cases c22 : x3_2.length < 140737488355328
        ·rw [if_pos c22] at H
         have LMc22 := Aside0.mk c22
         clear c22
         obtain ⟨y122, hy122⟩ : ∃ y_ : List Int, y_ = (x3_2 ++ [((bt a0 x4_2) + 32) % 256]) := ⟨_, rfl⟩
         replace H : (Qb.l0 kj10 a0 y122 (wrap64 (x4_2 + 1))) = some r := by first | (rw [hy122]; with_reducible exact H) | (have H2_ := (Option.bind_some _ _).symm.trans H; rw [hy122]; with_reducible exact H2_) | (have H2_ := (Option.bind_some _ _).symm.trans H; with_reducible exact H2_) | with_reducible exact H | (rw [hy122]; exact H) | exact H
         have Ny122 := Aside0.mk hy122
         clear hy122
         have H' := Aside0.mk H
         clear H
         obtain ⟨Ao23, co23, eo23⟩ := Kd.R_slice HO_3.out
         subst eo23
         have p121 : 0 ≤ ((ji17) : Int) := ODz
         have q121 : (ji17) < (x3_2.length : Int) := ODz
         obtain ⟨ad121, e121, hx121_0⟩ := Kd.at_int (Kd.R_reads' HO_3.out).2.2 (ji17) p121 q121
         cases e121
         replace p121 := eq_true p121
         replace q121 := eq_true q121
         go_wp2_with (first | ((with_reducible refine gate_builtin (b := .append) (xs := #[.tmp 48, .tmp 50]) rfl ?_); (try (refine gate_guard (by rfl) ?_; dsimp only)); at_builtin; refine Kd.R_append (Kd.int .u8) (w0 := w) w.heap.size rfl (.tmp 48) (.tmp 50) 35 5 (.int .u8 0) 1 rfl Tryz.underlying35 info5 rfl (by decide) (by omega) (.slice (some ad121) x3_2.length co23) x3_2 (((bt a0 x4_2) + 32) % 256) [.int .u8 (((bt a0 x4_2) + 32) % 256)] (fun _ => True) (fun _ => False) rfl rfl ?aP (fun _ hk => hk.elim) ?aF ?aO ?aB ?aS ?aL ?_; (case aP => exact rfl); (case aB => exact HBa); (case aF => exact (fun _ _ => trivial)); (case aO => exact (KRz HO_3)); (case aS => exact (below_size HBa)); (case aL => have := LMc22.out; omega); intro v123 w24 ho hb hg hat; rw [← Ny122.out] at ho; have n0_ := Aside0.mk (hb); have n1_ := Aside0.mk (ho); clear HB; clear HO_3; have HB := n0_; have HO124 := n1_; clear n0_ n1_; clear ho hb hg hat))
         go_roundg kj10
         case measure => have := HJ1.out; have := HK2.out; have := HJ10.out; omega
         case rel => exact ⟨(y122), (wrap64 (x4_2 + 1)), EZc, H', ⟨by have := HJ1.out; have := HK2.out; have := HJ10.out; omega⟩, ⟨by (with_reducible repeat (first | apply Kd.R_alloc | apply Kd.R_drewN | apply Kd.R_drew)); exact HO124.out⟩, ⟨HBa⟩⟩
        rw [if_neg c22] at H
        exact absurd H (by simp)
       replace c13 := Bool.eq_false_iff.mpr c13
       subst c13
       have H1 : (if (bt a0 x4_2) = 32 then (if (x3_2.length : Int) = 0 then (Qb.l0 kj10 a0 x3_2 (wrap64 (x4_2 + 1))) else (if 0 ≤ (wrap64 ((x3_2.length : Int) - 1)) then (if (wrap64 ((x3_2.length : Int) - 1)) < (x3_2.length : Int) then (if (rd x3_2 (wrap64 ((x3_2.length : Int) - 1))) = 32 then (Qb.l0 kj10 a0 x3_2 (wrap64 (x4_2 + 1))) else (if x3_2.length < 140737488355328 then (Qb.l0 kj10 a0 (x3_2 ++ [(bt a0 x4_2)]) (wrap64 (x4_2 + 1))) else (none))) else (none)) else (none))) else (if x3_2.length < 140737488355328 then (Qb.l0 kj10 a0 (x3_2 ++ [(bt a0 x4_2)]) (wrap64 (x4_2 + 1))) else (none))) = some r := by rw [if_neg (show ¬ (false = true) by decide)] at H; exact H
       clear H
       have H := H1
       clear H1
       by_cases c27 : (bt a0 x4_2) = 32
       rotate_left
       ·rw [if_neg c27] at H
        obtain ⟨c27b0, c27b1⟩ := QFz c27
        by_cases c38 : x3_2.length < 140737488355328
        ·rw [if_pos c38] at H
         have LMc38 := Aside0.mk c38
         clear c38
         obtain ⟨y132, hy132⟩ : ∃ y_ : List Int, y_ = (x3_2 ++ [(bt a0 x4_2)]) := ⟨_, rfl⟩
         replace H : (Qb.l0 kj10 a0 y132 (wrap64 (x4_2 + 1))) = some r := by first | (rw [hy132]; with_reducible exact H) | (have H2_ := (Option.bind_some _ _).symm.trans H; rw [hy132]; with_reducible exact H2_) | (have H2_ := (Option.bind_some _ _).symm.trans H; with_reducible exact H2_) | with_reducible exact H | (rw [hy132]; exact H) | exact H
         have Ny132 := Aside0.mk hy132
         clear hy132
         have H' := Aside0.mk H
         clear H
         go_wp2_with (first | ((with_reducible refine gate_builtin (b := .append) (xs := #[.tmp 48, .tmp 50]) rfl ?_); (try (refine gate_guard (by rfl) ?_; dsimp only)); at_builtin; refine Kd.R_append (Kd.int .u8) (w0 := w) w.heap.size rfl (.tmp 48) (.tmp 50) 35 5 (.int .u8 0) 1 rfl Tryz.underlying35 info5 rfl (by decide) (by omega) u3 x3_2 (bt a0 x4_2) [.int .u8 (bt a0 x4_2)] (fun _ => True) (fun _ => False) rfl rfl ?aP (fun _ hk => hk.elim) ?aF ?aO ?aB ?aS ?aL ?_; (case aP => exact rfl); (case aB => exact HBa); (case aF => exact (fun _ _ => trivial)); (case aO => exact (KRz HO_3)); (case aS => exact (below_size HBa)); (case aL => have := LMc38.out; omega); intro v133 w39 ho hb hg hat; rw [← Ny132.out] at ho; have n0_ := Aside0.mk (hb); have n1_ := Aside0.mk (ho); clear HB; clear HO_3; have HB := n0_; have HO134 := n1_; clear n0_ n1_; clear ho hb hg hat))
         go_roundg kj10
         case measure => have := HJ1.out; have := HK2.out; have := HJ10.out; omega
         case rel => exact ⟨(y132), (wrap64 (x4_2 + 1)), EZc, H', ⟨by have := HJ1.out; have := HK2.out; have := HJ10.out; omega⟩, ⟨by (with_reducible repeat (first | apply Kd.R_alloc | apply Kd.R_drewN | apply Kd.R_drew)); exact HO134.out⟩, ⟨HBa⟩⟩
        rw [if_neg c38] at H
        exact absurd H (by simp)
       rw [if_pos c27] at H
       obtain ⟨c27b0, c27b1⟩ := QTz c27
       clear c27
       by_cases c28 : (x3_2.length : Int) = 0
       ·rw [if_pos c28] at H
        obtain ⟨c28b0, c28b1⟩ := QTz c28
        clear c28
        have H' := Aside0.mk H
        clear H
        obtain ⟨Ao29, co29, eo29⟩ := Kd.R_slice HO_3.out
        subst eo29
        go_wp2
        go_roundg kj10
        case measure => have := HJ1.out; have := HK2.out; have := HJ10.out; omega
        case rel => exact ⟨(x3_2), (wrap64 (x4_2 + 1)), EZc, H', ⟨by have := HJ1.out; have := HK2.out; have := HJ10.out; omega⟩, ⟨by (with_reducible repeat (first | apply Kd.R_alloc | apply Kd.R_drewN | apply Kd.R_drew)); exact HO_3.out⟩, ⟨HBa⟩⟩
       rw [if_neg c28] at H
       obtain ⟨c28b0, c28b1⟩ := QFz c28
       have c28b2 : ¬ (x3_2 = []) := fun h_ => c28 (by rw [h_]; rfl)
       obtain ⟨ji30, hji30⟩ : ∃ j_ : Int, (wrap64 ((x3_2.length : Int) - 1)) = j_ := ⟨_, rfl⟩
       replace H : (if 0 ≤ (ji30) then (if (ji30) < (x3_2.length : Int) then (if (rd x3_2 (ji30)) = 32 then (Qb.l0 kj10 a0 x3_2 (wrap64 (x4_2 + 1))) else (if x3_2.length < 140737488355328 then (Qb.l0 kj10 a0 (x3_2 ++ [(bt a0 x4_2)]) (wrap64 (x4_2 + 1))) else (none))) else (none)) else (none)) = some r := by first | (rw [hji30] at H; exact H) | (simp only [hji30] at H ⊢; exact H)
       have hji30w : (IntKind.i64.wrap ((x3_2.length : Int) - 1)) = ji30 := (i64_w _).trans hji30
       by_cases c31 : 0 ≤ (ji30)
       rotate_left
       ·rw [if_neg c31] at H
        exact absurd H (by simp)
       rw [if_pos c31] at H
       have c31b0 := decide_eq_true c31
       clear c31
       by_cases c32 : (ji30) < (x3_2.length : Int)
       rotate_left
       ·rw [if_neg c32] at H
        exact absurd H (by simp)
       rw [if_pos c32] at H
       have c32b0 := decide_eq_true c32
       clear c32
       by_cases c33 : (rd x3_2 (ji30)) = 32
       ·rw [if_pos c33] at H
        obtain ⟨c33b0, c33b1⟩ := QTz c33
        clear c33
        have H' := Aside0.mk H
        clear H
        obtain ⟨Ao34, co34, eo34⟩ := Kd.R_slice HO_3.out
        subst eo34
        have p128 : 0 ≤ ((ji30) : Int) := ODz
        have q128 : (ji30) < (x3_2.length : Int) := ODz
        obtain ⟨ad128, e128, hx128_0⟩ := Kd.at_int (Kd.R_reads' HO_3.out).2.2 (ji30) p128 q128
        cases e128
        replace p128 := eq_true p128
        replace q128 := eq_true q128
        go_wp2
        go_roundg kj10
        case measure => have := HJ1.out; have := HK2.out; have := HJ10.out; omega
        case rel => exact ⟨(x3_2), (wrap64 (x4_2 + 1)), EZc, H', ⟨by have := HJ1.out; have := HK2.out; have := HJ10.out; omega⟩, ⟨by (with_reducible repeat (first | apply Kd.R_alloc | apply Kd.R_drewN | apply Kd.R_drew)); exact HO_3.out⟩, ⟨HBa⟩⟩
       rw [if_neg c33] at H
       obtain ⟨c33b0, c33b1⟩ := QFz c33
       by_cases c35 : x3_2.length < 140737488355328
       ·rw [if_pos c35] at H
        have LMc35 := Aside0.mk c35
        clear c35
        obtain ⟨y129, hy129⟩ : ∃ y_ : List Int, y_ = (x3_2 ++ [(bt a0 x4_2)]) := ⟨_, rfl⟩
        replace H : (Qb.l0 kj10 a0 y129 (wrap64 (x4_2 + 1))) = some r := by first | (rw [hy129]; with_reducible exact H) | (have H2_ := (Option.bind_some _ _).symm.trans H; rw [hy129]; with_reducible exact H2_) | (have H2_ := (Option.bind_some _ _).symm.trans H; with_reducible exact H2_) | with_reducible exact H | (rw [hy129]; exact H) | exact H
        have Ny129 := Aside0.mk hy129
        clear hy129
        have H' := Aside0.mk H
        clear H
        obtain ⟨Ao36, co36, eo36⟩ := Kd.R_slice HO_3.out
        subst eo36
        have p128 : 0 ≤ ((ji30) : Int) := ODz
        have q128 : (ji30) < (x3_2.length : Int) := ODz
        obtain ⟨ad128, e128, hx128_0⟩ := Kd.at_int (Kd.R_reads' HO_3.out).2.2 (ji30) p128 q128
        cases e128
        replace p128 := eq_true p128
        replace q128 := eq_true q128
        go_wp2_with (first | ((with_reducible refine gate_builtin (b := .append) (xs := #[.tmp 48, .tmp 50]) rfl ?_); (try (refine gate_guard (by rfl) ?_; dsimp only)); at_builtin; refine Kd.R_append (Kd.int .u8) (w0 := w) w.heap.size rfl (.tmp 48) (.tmp 50) 35 5 (.int .u8 0) 1 rfl Tryz.underlying35 info5 rfl (by decide) (by omega) (.slice (some ad128) x3_2.length co36) x3_2 (bt a0 x4_2) [.int .u8 (bt a0 x4_2)] (fun _ => True) (fun _ => False) rfl rfl ?aP (fun _ hk => hk.elim) ?aF ?aO ?aB ?aS ?aL ?_; (case aP => exact rfl); (case aB => exact HBa); (case aF => exact (fun _ _ => trivial)); (case aO => exact (KRz HO_3)); (case aS => exact (below_size HBa)); (case aL => have := LMc35.out; omega); intro v130 w37 ho hb hg hat; rw [← Ny129.out] at ho; have n0_ := Aside0.mk (hb); have n1_ := Aside0.mk (ho); clear HB; clear HO_3; have HB := n0_; have HO131 := n1_; clear n0_ n1_; clear ho hb hg hat))
        go_roundg kj10
        case measure => have := HJ1.out; have := HK2.out; have := HJ10.out; omega
        case rel => exact ⟨(y129), (wrap64 (x4_2 + 1)), EZc, H', ⟨by have := HJ1.out; have := HK2.out; have := HJ10.out; omega⟩, ⟨by (with_reducible repeat (first | apply Kd.R_alloc | apply Kd.R_drewN | apply Kd.R_drew)); exact HO131.out⟩, ⟨HBa⟩⟩
       rw [if_neg c35] at H
       exact absurd H (by simp)
def Qj.f (k : Nat) (a0 : ByteArray) : Option (Bool) := if (a0.size : Int) ≥ 1 then (if (a0.size : Int) ≤ 40 then ((Qb.f k a0).bind fun t135 => (some (t135.toList != ([] : List UInt8)))) else (some false)) else (some false)
theorem Qj.mono : ∀ a0 k, LeO (Qj.f k a0) (Qj.f (k + 1) a0) := by
 intro a0 k
 unfold Qj.f
 with_reducible repeat' first | exact Qb.mono _ _ | exact LeO.refl _ | exact LeO.none _ | refine LeO.ite ?_ ?_ | refine LeO.bind ?_ (fun _ => ?_)
set_option maxHeartbeats 8000000 in
set_option maxRecDepth 100000 in
theorem Qj.calls (k : Nat) (a0 : ByteArray) (r : Bool) (w : World) (h : Qj.f k a0 = some r) :
  Calls Tryz.prog 75 #[.string a0] w fun e w' => e = .returned (.bool r) ∧ Below w.heap.size w w' := by
 have HB := Aside0.mk (Below.refl w.heap.size w)
 have H : (if (a0.size : Int) ≥ 1 then (if (a0.size : Int) ≤ 40 then ((Qb.f k a0).bind fun t135 => (some (t135.toList != ([] : List UInt8)))) else (some false)) else (some false)) = some r := h
 clear h
 by_cases c2 : (a0.size : Int) ≥ 1
 rotate_left
 ·rw [if_neg c2] at H
  have c2b0 : decide (1 ≤ (a0.size : Int)) = false := decide_eq_false c2
  have c2b1 : decide (1 ≤ a0.size) = false := decide_eq_false (by omega)
  clear c2
  obtain rfl := Option.some.inj H
  clear H
  go_enter Tryz.func75, Tryz.ntmps75
  go_wp2
  go_ret
  exact ⟨EZa, HBa⟩
 rw [if_pos c2] at H
 have c2b0 : decide (1 ≤ (a0.size : Int)) = true := decide_eq_true c2
 have c2b1 : decide (1 ≤ a0.size) = true := decide_eq_true (by omega)
 clear c2
 by_cases c3 : (a0.size : Int) ≤ 40
 rotate_left
 ·rw [if_neg c3] at H
  have c3b0 := decide_eq_false c3
  have c3b1 : decide (a0.size ≤ 40) = false := decide_eq_false (by omega)
  clear c3
  obtain rfl := Option.some.inj H
  clear H
  go_enter Tryz.func75, Tryz.ntmps75
  go_wp2
  go_ret
  exact ⟨EZa, HBa⟩
 rw [if_pos c3] at H
 have c3b0 := decide_eq_true c3
 have c3b1 : decide (a0.size ≤ 40) = true := decide_eq_true (by omega)
 clear c3
 replace H := Option.bind_eq_some_iff.mp H
 obtain ⟨t135, A40, H⟩ := H
 replace H : (some (t135.toList != ([] : List UInt8))) = some r := H
 have A4 := Aside0.mk A40
 clear A40
 obtain rfl := Option.some.inj H
 clear H
 go_enter Tryz.func75, Tryz.ntmps75
 go_wp2_with (first | (go_at_call 110; (with_reducible refine (Qb.calls k a0 t135 _ A4.out).mono ?_); rintro e w5 ⟨rfl, hb⟩; have n0_ := Aside0.mk (below_step HBa hb); clear HB; have HB := n0_; clear n0_; (try clear hb); (try clear hb2); (try clear hk); (try clear hi)))
 go_ret
 exact ⟨EZa, HBa⟩
end Go.Proofs.YtmkeigielncpjaaGreatDoor.PFnFilter
