import Derived.Test.YtmkeigielncpjaaGreatDoorQFnAclx0
namespace Go.Proofs.YtmkeigielncpjaaGreatDoor.PFnAcl
open Go.RowKit Go.Proofs.YtmkeigielncpjaaGreatDoorW.PrintWords Go.Proofs.YtmkeigielncpjaaGreatDoorW.PrintLast Go.Proofs.YtmkeigielncpjaaGreatDoorW.PrintMore
set_option maxRecDepth 100000
set_option maxHeartbeats 16000000
attribute [local go_sem] max2_int min2_int max_two min_two max_three min_three max_four min_four
set_option linter.unusedVariables false
set_option linter.unusedSimpArgs false
def Qz.l0 : Nat → ByteArray → Int → Option (Bool)
 | 0, _, _ => none
 | k + 1, x0, x3 => if x3 < (x0.size : Int) then (if 0 ≤ x3 then (if (bt x0 x3) < 32 then (some false) else (if (bt x0 x3) > 126 then (some false) else (Qz.l0 k x0 (wrap64 (x3 + 1))))) else (none)) else (some true)
def Qz.f (k : Nat) (a0 : ByteArray) : Option (Bool) := Qz.l0 k a0 0
theorem Qz.mono_l : ∀ k, (∀ y0 y1, LeO (Qz.l0 k y0 y1) (Qz.l0 (k + 1) y0 y1))
 | 0 => fun _ _ r h => by simp [Qz.l0] at h
 | k + 1 => by
  have ih0 := Qz.mono_l k
  ·intro y0 y1
   unfold Qz.l0
   with_reducible repeat' first | exact ih0 _ _ | exact LeO.refl _ | exact LeO.none _ | refine LeO.ite ?_ ?_ | refine LeO.bind ?_ (fun _ => ?_)
theorem Qz.mono : ∀ a0 k, LeO (Qz.f k a0) (Qz.f (k + 1) a0) := by
 intro a0 k
 have ih0 := Qz.mono_l k
 unfold Qz.f
 with_reducible repeat' first | exact ih0 _ _ | exact LeO.refl _ | exact LeO.none _ | refine LeO.ite ?_ ?_ | refine LeO.bind ?_ (fun _ => ?_)
theorem Qz.calls (k : Nat) (a0 : ByteArray) (r : Bool) (w : World) (h : Qz.f k a0 = some r) :
  Calls Tryz.prog 146 #[.string a0] w fun e w' => e = .returned (.bool r) ∧ Drawn0 w w' := by
 have H : (Qz.l0 k a0 0) = some r := h
 clear h
 have H' := Aside0.mk H
 clear H
 go_enter Tryz.func146, Tryz.ntmps146
 go_wp2
 go_loopg [3] k (fun kq v3 w' => ∃ (x3_1 : Int), v3 = .int .i64 x3_1 ∧ Aside0 (Qz.l0 kq a0 x3_1 = some r) ∧ Aside0 (kq ≤ k) ∧ Drawn0 w w')
 case atStart => exact ⟨(0), EZc, H', ⟨Nat.le_refl _⟩, DRz⟩
 case round =>
  clear H'
  obtain ⟨x3_1, rfl, HA, HK1, ⟨m1, rfl⟩⟩ := hrel
  cases gk with
  | zero => exact absurd HA.out (by simp [Qz.l0])
  | succ k1 =>
   have H := HA.out
   clear HA
   simp only [Qz.l0] at H
   by_cases c2 : x3_1 < (a0.size : Int)
   rotate_left
   ·rw [if_neg c2] at H
    have c2b0 := decide_eq_false c2
    clear c2
    obtain rfl := Option.some.inj H
    clear H
    go_wp2
    go_ret
    exact ⟨EZb, DRz⟩
   rw [if_pos c2] at H
   have c2b0 := decide_eq_true c2
   clear c2
   by_cases c3 : 0 ≤ x3_1
   rotate_left
   ·rw [if_neg c3] at H
    exact absurd H (by simp)
   rw [if_pos c3] at H
   have c3b0 := decide_eq_true c3
   clear c3
   by_cases c5 : (bt a0 x3_1) < 32
   ·rw [if_pos c5] at H
    have c5b0 := decide_eq_true c5
    clear c5
    obtain rfl := Option.some.inj H
    clear H
    have p4 : 0 ≤ (x3_1 : Int) := ODz
    have q4 : x3_1 < (a0.size : Int) := ODz
    have hx4 := bt_at a0 x3_1
    replace p4 := eq_true p4
    replace q4 := eq_true q4
    go_wp2
    go_ret
    exact ⟨EZb, DRz⟩
   rw [if_neg c5] at H
   have c5b0 := decide_eq_false c5
   clear c5
   by_cases c7 : (bt a0 x3_1) > 126
   ·rw [if_pos c7] at H
    have c7b0 : decide (126 < (bt a0 x3_1)) = true := decide_eq_true c7
    clear c7
    obtain rfl := Option.some.inj H
    clear H
    have p4 : 0 ≤ (x3_1 : Int) := ODz
    have q4 : x3_1 < (a0.size : Int) := ODz
    have hx4 := bt_at a0 x3_1
    replace p4 := eq_true p4
    replace q4 := eq_true q4
    have p6 : 0 ≤ (x3_1 : Int) := ODz
    have q6 : x3_1 < (a0.size : Int) := ODz
    have hx6 := bt_at a0 x3_1
    replace p6 := eq_true p6
    replace q6 := eq_true q6
    go_wp2
    go_ret
    exact ⟨EZb, DRz⟩
   rw [if_neg c7] at H
   have c7b0 : decide (126 < (bt a0 x3_1)) = false := decide_eq_false c7
   clear c7
   have H' := Aside0.mk H
   clear H
   have p4 : 0 ≤ (x3_1 : Int) := ODz
   have q4 : x3_1 < (a0.size : Int) := ODz
   have hx4 := bt_at a0 x3_1
   replace p4 := eq_true p4
   replace q4 := eq_true q4
   have p6 : 0 ≤ (x3_1 : Int) := ODz
   have q6 : x3_1 < (a0.size : Int) := ODz
   have hx6 := bt_at a0 x3_1
   replace p6 := eq_true p6
   replace q6 := eq_true q6
   go_wp2
   go_roundg k1
   case measure => have := HK1.out; omega
   case rel => exact ⟨(wrap64 (x3_1 + 1)), EZc, H', ⟨by have := HK1.out; omega⟩, DRz⟩
mutual
def Qr.j0 : Nat → ByteArray → Bool → Option (ByteArray)
 | 0, _, _ => none
 | k + 1, x0, x13 => if x13 = true then (some (⟨#[]⟩ : ByteArray)) else (Qr.l0 k x0 (([] : List Int)) 0)
def Qr.l0 : Nat → ByteArray → List Int → Int → Option (ByteArray)
 | 0, _, _, _ => none
 | k + 1, x0, x3, x4 => if x4 < (x0.size : Int) then (if 0 ≤ x4 then (if (bt x0 x4) ≥ 65 then (Qr.j2 k x0 x3 x4 (bt x0 x4) (decide ((bt x0 x4) ≤ 90))) else (Qr.j2 k x0 x3 x4 (bt x0 x4) false)) else (none)) else (if (x3.length : Int) > 0 then (if 0 ≤ (wrap64 ((x3.length : Int) - 1)) then (if (wrap64 ((x3.length : Int) - 1)) < (x3.length : Int) then (if (rd x3 (wrap64 ((x3.length : Int) - 1))) = 32 then (if (wrap64 ((x3.length : Int) - 1)) ≤ (x3.length : Int) then (some (strOfNums (x3.take ((wrap64 ((x3.length : Int) - 1)) : Int).toNat))) else (none)) else (some (strOfNums x3))) else (none)) else (none)) else (some (strOfNums x3)))
def Qr.j2 : Nat → ByteArray → List Int → Int → Int → Bool → Option (ByteArray)
 | 0, _, _, _, _, _ => none
 | k + 1, x0, x3, x4, x5, x29 => if x29 = true then (if ((x5 + 32) % 256) = 32 then (if (x3.length : Int) = 0 then (Qr.l0 k x0 x3 (wrap64 (x4 + 1))) else (if 0 ≤ (wrap64 ((x3.length : Int) - 1)) then (if (wrap64 ((x3.length : Int) - 1)) < (x3.length : Int) then (if (rd x3 (wrap64 ((x3.length : Int) - 1))) = 32 then (Qr.l0 k x0 x3 (wrap64 (x4 + 1))) else (if x3.length < 140737488355328 then (Qr.l0 k x0 (x3 ++ [(x5 + 32) % 256]) (wrap64 (x4 + 1))) else (none))) else (none)) else (none))) else (if x3.length < 140737488355328 then (Qr.l0 k x0 (x3 ++ [(x5 + 32) % 256]) (wrap64 (x4 + 1))) else (none))) else (if x5 = 32 then (if (x3.length : Int) = 0 then (Qr.l0 k x0 x3 (wrap64 (x4 + 1))) else (if 0 ≤ (wrap64 ((x3.length : Int) - 1)) then (if (wrap64 ((x3.length : Int) - 1)) < (x3.length : Int) then (if (rd x3 (wrap64 ((x3.length : Int) - 1))) = 32 then (Qr.l0 k x0 x3 (wrap64 (x4 + 1))) else (if x3.length < 140737488355328 then (Qr.l0 k x0 (x3 ++ [x5]) (wrap64 (x4 + 1))) else (none))) else (none)) else (none))) else (if x3.length < 140737488355328 then (Qr.l0 k x0 (x3 ++ [x5]) (wrap64 (x4 + 1))) else (none)))
end
def Qr.f (k : Nat) (a0 : ByteArray) : Option (ByteArray) := if (a0.size : Int) > 100 then (Qr.j0 k a0 true) else ((Qz.f k a0).bind fun t101 => (Qr.j0 k a0 (!t101)))
theorem Qr.mono_l : ∀ k, (∀ y0 y1, LeO (Qr.j0 k y0 y1) (Qr.j0 (k + 1) y0 y1)) ∧ (∀ y0 y1 y2, LeO (Qr.l0 k y0 y1 y2) (Qr.l0 (k + 1) y0 y1 y2)) ∧ (∀ y0 y1 y2 y3 y4, LeO (Qr.j2 k y0 y1 y2 y3 y4) (Qr.j2 (k + 1) y0 y1 y2 y3 y4))
 | 0 => ⟨fun _ _ r h => by simp [Qr.j0] at h, fun _ _ _ r h => by simp [Qr.l0] at h, fun _ _ _ _ _ r h => by simp [Qr.j2] at h⟩
 | k + 1 => by
  obtain ⟨ih0, ih1, ih2⟩ := Qr.mono_l k
  refine ⟨?_, ?_, ?_⟩
  ·intro y0 y1
   unfold Qr.j0
   with_reducible repeat' first | exact ih0 _ _ | exact ih1 _ _ _ | exact ih2 _ _ _ _ _ | exact Qz.mono _ _ | exact LeO.refl _ | exact LeO.none _ | refine LeO.ite ?_ ?_ | refine LeO.bind ?_ (fun _ => ?_)
  ·intro y0 y1 y2
   unfold Qr.l0
   with_reducible repeat' first | exact ih0 _ _ | exact ih1 _ _ _ | exact ih2 _ _ _ _ _ | exact Qz.mono _ _ | exact LeO.refl _ | exact LeO.none _ | refine LeO.ite ?_ ?_ | refine LeO.bind ?_ (fun _ => ?_)
  ·intro y0 y1 y2 y3 y4
   unfold Qr.j2
   with_reducible repeat' first | exact ih0 _ _ | exact ih1 _ _ _ | exact ih2 _ _ _ _ _ | exact Qz.mono _ _ | exact LeO.refl _ | exact LeO.none _ | refine LeO.ite ?_ ?_ | refine LeO.bind ?_ (fun _ => ?_)
theorem Qr.mono : ∀ a0 k, LeO (Qr.f k a0) (Qr.f (k + 1) a0) := by
 intro a0 k
 obtain ⟨ih0, ih1, ih2⟩ := Qr.mono_l k
 unfold Qr.f
 with_reducible repeat' first | exact ih0 _ _ | exact ih1 _ _ _ | exact ih2 _ _ _ _ _ | exact Qz.mono _ _ | exact LeO.refl _ | exact LeO.none _ | refine LeO.ite ?_ ?_ | refine LeO.bind ?_ (fun _ => ?_)
theorem Qr.calls (k : Nat) (a0 : ByteArray) (r : ByteArray) (w : World) (h : Qr.f k a0 = some r) :
  Calls Tryz.prog 110 #[.string a0] w fun e w' => e = .returned (.string r) ∧ Below w.heap.size w w' := by
 have HB := Aside0.mk (Below.refl w.heap.size w)
 have H : (if (a0.size : Int) > 100 then (Qr.j0 k a0 true) else ((Qz.f k a0).bind fun t101 => (Qr.j0 k a0 (!t101)))) = some r := h
 clear h
 have HC2 := Aside0.mk H
 clear H
 go_enter Tryz.func110, Tryz.ntmps110
 go_upto_region 1 with (fail)
 go_cut [13] (fun v13 wc => ∃ (kq : Nat) (x13_1 : Bool), v13 = .bool x13_1 ∧ Aside0 (Qr.j0 kq a0 x13_1 = some r) ∧ Aside0 (kq ≤ k) ∧ Aside0 (Below w.heap.size w wc))
 case first =>
  have H := HC2.out
  clear HC2
  by_cases c3 : (a0.size : Int) > 100
  ·rw [if_pos c3] at H
   have c3b0 : decide (100 < (a0.size : Int)) = true := decide_eq_true c3
   have c3b1 : decide (100 < a0.size) = true := decide_eq_true (by omega)
   clear c3
   (first | rw [c3b0] | rw [c3v0] | (simp only [i64_w, i32_w]; rw [c3b0]) | (simp only [i64_w, i32_w]; rw [c3v0]) | skip)
   have H' := Aside0.mk H
   clear H
   go_wp2
   go_meet
   case rel => exact ⟨_, (true), EZc, H', ⟨by first | omega | exact Nat.le_refl _⟩, ⟨HBa⟩⟩
  rw [if_neg c3] at H
  have c3b0 : decide (100 < (a0.size : Int)) = false := decide_eq_false c3
  have c3b1 : decide (100 < a0.size) = false := decide_eq_false (by omega)
  clear c3
  (first | rw [c3b0] | rw [c3v0] | (simp only [i64_w, i32_w]; rw [c3b0]) | (simp only [i64_w, i32_w]; rw [c3v0]) | skip)
  replace H := Option.bind_eq_some_iff.mp H
  obtain ⟨t101, A40, H⟩ := H
  replace H : (Qr.j0 k a0 (!t101)) = some r := H
  have A4 := Aside0.mk A40
  clear A40
  have H' := Aside0.mk H
  clear H
  go_wp2_with (first | (go_at_call 146; (with_reducible refine (Qz.calls k a0 t101 _ A4.out).mono ?_); rintro e w' ⟨rfl, ⟨nd, rfl⟩⟩))
  go_meet
  case rel => exact ⟨_, (!t101), EZc, H', ⟨by first | omega | exact Nat.le_refl _⟩, ⟨HBa⟩⟩
 case rest =>
  clear HC2
  obtain ⟨kq, x13_1, rfl, HA, HJ1, HB⟩ := hcut
  cases kq with
  | zero => exact absurd HA.out (by simp [Qr.j0])
  | succ kj1 =>
   have H := HA.out
   clear HA
   simp only [Qr.j0] at H
   by_cases c5 : x13_1 = true
   ·subst c5
    have H1 : (some (⟨#[]⟩ : ByteArray)) = some r := by rw [if_pos rfl] at H; exact H
    clear H
    have H := H1
    clear H1
    obtain rfl := Option.some.inj H
    clear H
    go_wp2
    go_ret
    exact ⟨EZa, HBa⟩
   replace c5 := Bool.eq_false_iff.mpr c5
   subst c5
   have H1 : (Qr.l0 kj1 a0 (([] : List Int)) 0) = some r := by rw [if_neg (show ¬ (false = true) by decide)] at H; exact H
   clear H
   have H := H1
   clear H1
   obtain ⟨y102, hy102⟩ : ∃ y_ : List Int, y_ = (([] : List Int)) := ⟨_, rfl⟩
   replace H : (Qr.l0 kj1 a0 y102 0) = some r := by first | (rw [hy102]; with_reducible exact H) | (have H2_ := (Option.bind_some _ _).symm.trans H; rw [hy102]; with_reducible exact H2_) | (have H2_ := (Option.bind_some _ _).symm.trans H; with_reducible exact H2_) | with_reducible exact H | (rw [hy102]; exact H) | exact H
   have Ny102 := Aside0.mk hy102
   clear hy102
   have H' := Aside0.mk H
   clear H
   go_wp2_with (first | ((with_reducible refine gate_dst (N := 14) rfl ?_); (try (refine gate_guard (by rfl) ?_; dsimp only)); refine Kd.R_lit (Kd.int .u8) _ 5 ?hg (N := 14) ?hd (xs := ([] : List Int)) (inner := []) (ok := fun _ => True) (okp := fun _ => True) ?hr ?hp (fun _ hk => hk) trivial (Below.refl _ _) (Nat.le_refl _) (by simp) ?_; (case hd => rfl); (case hg => rfl); (case hr => first | (go_simp; done) | (go_simp; rfl)); (case hp => exact (Reps.none _ _)); intro v103 w6 ho7 hb hg_ hnew_; clear hg_ hnew_; (first | rw [← Ny102.out] at ho7 | (simp only [Int.reduceToNat] at ho7; rw [← Ny102.out] at ho7)); have n0_ := Aside0.mk (Kd.R_lower ho7 (below_size HBa)); have n1_ := Aside0.mk (below_step HBa hb); clear HB; have HO104 := n0_; have HB := n1_; clear n0_ n1_; clear hb ho7))
   go_loopg [3, 4] kj1 (fun kq v3 v4 w' => ∃ (x3_2 : List Int) (x4_2 : Int), v4 = .int .i64 x4_2 ∧ Aside0 (Qr.l0 kq a0 x3_2 x4_2 = some r) ∧ Aside0 (kq ≤ kj1) ∧ Aside0 (Kd.R (Kd.int .u8) 5 w' w.heap.size (fun _ => True) v3 x3_2) ∧ Aside0 (Below w.heap.size w w'))
   case atStart => exact ⟨(y102), (0), EZc, H', ⟨Nat.le_refl _⟩, ⟨by (with_reducible repeat (first | apply Kd.R_alloc | apply Kd.R_drewN | apply Kd.R_drew)); exact HO104.out⟩, ⟨HBa⟩⟩
   case round =>
    clear H'
    try clear c5
    obtain ⟨x3_2, x4_2, rfl, HA, HK2, HO_3, HB⟩ := hrel
    cases gk with
    | zero => exact absurd HA.out (by simp [Qr.l0])
    | succ k2 =>
     have H := HA.out
     clear HA
     simp only [Qr.l0] at H
     by_cases c8 : x4_2 < (a0.size : Int)
     rotate_left
     ·rw [if_neg c8] at H
      have c8b0 := decide_eq_false c8
      clear c8
      by_cases c40 : (x3_2.length : Int) > 0
      rotate_left
      ·rw [if_neg c40] at H
       have c40b0 : decide (0 < (x3_2.length : Int)) = false := decide_eq_false c40
       have c40b1 : decide (0 < x3_2.length) = false := decide_eq_false (by omega)
       clear c40
       obtain rfl := Option.some.inj H
       clear H
       obtain ⟨Ao51, co51, eo51⟩ := Kd.R_slice HO_3.out
       subst eo51
       have hcv52 := own_string (P := Tryz.prog) Tryz.underlying35 Tryz.underlying5 Tryz.underlying9 (Kd.own_of_R HO_3.out)
       go_wp2
       go_ret
       exact ⟨EZa, HBa⟩
      rw [if_pos c40] at H
      have c40b0 : decide (0 < (x3_2.length : Int)) = true := decide_eq_true c40
      have c40b1 : decide (0 < x3_2.length) = true := decide_eq_true (by omega)
      clear c40
      obtain ⟨ji41, hji41⟩ : ∃ j_ : Int, (wrap64 ((x3_2.length : Int) - 1)) = j_ := ⟨_, rfl⟩
      replace H : (if 0 ≤ (ji41) then (if (ji41) < (x3_2.length : Int) then (if (rd x3_2 (ji41)) = 32 then (if (ji41) ≤ (x3_2.length : Int) then (some (strOfNums (x3_2.take ((ji41) : Int).toNat))) else (none)) else (some (strOfNums x3_2))) else (none)) else (none)) = some r := by first | (rw [hji41] at H; exact H) | (simp only [hji41] at H ⊢; exact H)
      have hji41w : (IntKind.i64.wrap ((x3_2.length : Int) - 1)) = ji41 := (i64_w _).trans hji41
      by_cases c42 : 0 ≤ (ji41)
      rotate_left
      ·rw [if_neg c42] at H
       exact absurd H (by simp)
      rw [if_pos c42] at H
      have c42b0 := decide_eq_true c42
      clear c42
      by_cases c43 : (ji41) < (x3_2.length : Int)
      rotate_left
      ·rw [if_neg c43] at H
       exact absurd H (by simp)
      rw [if_pos c43] at H
      have c43b0 := decide_eq_true c43
      clear c43
      by_cases c44 : (rd x3_2 (ji41)) = 32
      rotate_left
      ·rw [if_neg c44] at H
       obtain ⟨c44b0, c44b1⟩ := QFz c44
       obtain rfl := Option.some.inj H
       clear H
       obtain ⟨Ao49, co49, eo49⟩ := Kd.R_slice HO_3.out
       subst eo49
       have p105 : 0 ≤ ((ji41) : Int) := ODz
       have q105 : (ji41) < (x3_2.length : Int) := ODz
       obtain ⟨ad105, e105, hx105_0⟩ := Kd.at_int (Kd.R_reads' HO_3.out).2.2 (ji41) p105 q105
       cases e105
       replace p105 := eq_true p105
       replace q105 := eq_true q105
       have hcv50 := own_string (P := Tryz.prog) Tryz.underlying35 Tryz.underlying5 Tryz.underlying9 (Kd.own_of_R HO_3.out)
       go_wp2
       go_ret
       exact ⟨by first | rfl | (simp only [bne_nil_, beq_nil_]; rfl) | (simp [errW_none, errW_some] <;> rfl) | (simp only [← hji41]; first | rfl | (simp [errW_none, errW_some] <;> rfl)) | (simp [*, errW_none, errW_some] <;> rfl), HBa⟩
      rw [if_pos c44] at H
      obtain ⟨c44b0, c44b1⟩ := QTz c44
      clear c44
      by_cases c45 : (ji41) ≤ (x3_2.length : Int)
      rotate_left
      ·rw [if_neg c45] at H
       exact absurd H (by simp)
      rw [if_pos c45] at H
      have c45b0 := eq_true c45
      have c45b1 := decide_eq_true c45
      clear c45
      obtain ⟨y106, hy106⟩ : ∃ y_ : List Int, y_ = (x3_2.take ((ji41) : Int).toNat) := ⟨_, rfl⟩
      replace H : (some (strOfNums y106)) = some r := by first | (rw [hy106]; with_reducible exact H) | (have H2_ := (Option.bind_some _ _).symm.trans H; rw [hy106]; with_reducible exact H2_) | (have H2_ := (Option.bind_some _ _).symm.trans H; with_reducible exact H2_) | with_reducible exact H | (rw [hy106]; exact H) | exact H
      have Ny106 := Aside0.mk hy106
      clear hy106
      obtain rfl := Option.some.inj H
      clear H
      obtain ⟨Ao46, co46, eo46⟩ := Kd.R_slice HO_3.out
      subst eo46
      have p105 : 0 ≤ ((ji41) : Int) := ODz
      have q105 : (ji41) < (x3_2.length : Int) := ODz
      obtain ⟨ad105, e105, hx105_0⟩ := Kd.at_int (Kd.R_reads' HO_3.out).2.2 (ji41) p105 q105
      cases e105
      replace p105 := eq_true p105
      replace q105 := eq_true q105
      have q47 : ((ji41) : Int) ≤ ((x3_2.length : Int) : Int) := ODz
      obtain ⟨i047, hi047, _, hsz47, _⟩ := info_parts info5
      have hcut47 := cut_to (P := Tryz.prog) 35 5 .i64 Tryz.underlying35 hi047 (some ad105) x3_2.length co46 (ji41) (ODz) q47 (Kd.R_reads' HO_3.out).2.1
      have hr47 := Kd.R_take (m := ((ji41) : Int).toNat) HO_3.out (by omega)
      have hy47 : y106.length = ((ji41) : Int).toNat := (by rw [Ny106.out, List.length_take]; omega)
      rw [← Ny106.out] at hr47
      rw [← hy47] at hr47 hcut47
      clear hy47 hi047 hsz47 HO_3
      have HO108 := Aside0.mk hr47
      clear hr47
      replace q47 := eq_true q47
      have hcv48 := own_string (P := Tryz.prog) Tryz.underlying35 Tryz.underlying5 Tryz.underlying9 (Kd.own_of_R HO108.out)
      go_wp2
      go_ret
      exact ⟨by first | rfl | (simp only [bne_nil_, beq_nil_]; rfl) | (simp [errW_none, errW_some] <;> rfl) | (simp only [← hji41]; first | rfl | (simp [errW_none, errW_some] <;> rfl)) | (simp [*, errW_none, errW_some] <;> rfl), HBa⟩
     rw [if_pos c8] at H
     have c8b0 := decide_eq_true c8
     clear c8
     by_cases c9 : 0 ≤ x4_2
     rotate_left
     ·rw [if_neg c9] at H
      exact absurd H (by simp)
     rw [if_pos c9] at H
     have c9b0 := decide_eq_true c9
     clear c9
     have HC11 := Aside0.mk H
     clear H
     have p10 : 0 ≤ (x4_2 : Int) := ODz
     have q10 : x4_2 < (a0.size : Int) := ODz
     have hx10 := bt_at a0 x4_2
     replace p10 := eq_true p10
     replace q10 := eq_true q10
     go_upto_region 8 with (fail)
     go_cut [29] (fun v29 wc => ∃ (kq : Nat) (x29_10 : Bool), v29 = .bool x29_10 ∧ Aside0 (Qr.j2 kq a0 x3_2 x4_2 (bt a0 x4_2) x29_10 = some r) ∧ Aside0 (kq ≤ k2) ∧ Aside0 (Kd.R (Kd.int .u8) 5 wc w.heap.size (fun _ => True) u3 x3_2) ∧ Aside0 (Below w.heap.size w wc))
     case first =>
      have H := HC11.out
      clear HC11
      by_cases c12 : (bt a0 x4_2) ≥ 65
      ·rw [if_pos c12] at H
       have c12b0 : decide (65 ≤ (bt a0 x4_2)) = true := decide_eq_true c12
       clear c12
       (first | rw [c12b0] | rw [c12v0] | (simp only [i64_w, i32_w]; rw [c12b0]) | (simp only [i64_w, i32_w]; rw [c12v0]) | skip)
       have H' := Aside0.mk H
       clear H
       go_wp2
       go_meet
       case rel => exact ⟨_, (decide ((bt a0 x4_2) ≤ 90)), EZc, H', ⟨by have := HJ1.out; have := HK2.out; first | omega | exact Nat.le_refl _⟩, ⟨by (with_reducible repeat (first | apply Kd.R_alloc | apply Kd.R_drewN | apply Kd.R_drew)); exact HO_3.out⟩, ⟨HBa⟩⟩
      rw [if_neg c12] at H
      have c12b0 : decide (65 ≤ (bt a0 x4_2)) = false := decide_eq_false c12
      clear c12
      (first | rw [c12b0] | rw [c12v0] | (simp only [i64_w, i32_w]; rw [c12b0]) | (simp only [i64_w, i32_w]; rw [c12v0]) | skip)
      have H' := Aside0.mk H
      clear H
      go_wp2
      go_meet
      case rel => exact ⟨_, (false), EZc, H', ⟨by have := HJ1.out; have := HK2.out; first | omega | exact Nat.le_refl _⟩, ⟨by (with_reducible repeat (first | apply Kd.R_alloc | apply Kd.R_drewN | apply Kd.R_drew)); exact HO_3.out⟩, ⟨HBa⟩⟩
     case rest =>
      clear HC11
      try clear c5
      try clear c8
      try clear c8b0
      try clear c9
      try clear c9b0
      try clear p10
      try clear q10
      try clear hx10
      try clear p10
      try clear q10
      obtain ⟨kq, x29_10, rfl, HA, HJ10, HO_3, HB⟩ := hcut
      cases kq with
      | zero => exact absurd HA.out (by simp [Qr.j2])
      | succ kj10 =>
       have H := HA.out
       clear HA
       simp only [Qr.j2] at H
       by_cases c13 : x29_10 = true
       ·subst c13
        have H1 : (if (((bt a0 x4_2) + 32) % 256) = 32 then (if (x3_2.length : Int) = 0 then (Qr.l0 kj10 a0 x3_2 (wrap64 (x4_2 + 1))) else (if 0 ≤ (wrap64 ((x3_2.length : Int) - 1)) then (if (wrap64 ((x3_2.length : Int) - 1)) < (x3_2.length : Int) then (if (rd x3_2 (wrap64 ((x3_2.length : Int) - 1))) = 32 then (Qr.l0 kj10 a0 x3_2 (wrap64 (x4_2 + 1))) else (if x3_2.length < 140737488355328 then (Qr.l0 kj10 a0 (x3_2 ++ [((bt a0 x4_2) + 32) % 256]) (wrap64 (x4_2 + 1))) else (none))) else (none)) else (none))) else (if x3_2.length < 140737488355328 then (Qr.l0 kj10 a0 (x3_2 ++ [((bt a0 x4_2) + 32) % 256]) (wrap64 (x4_2 + 1))) else (none))) = some r := by rw [if_pos rfl] at H; exact H
        clear H
        have H := H1
        clear H1
        by_cases c14 : (((bt a0 x4_2) + 32) % 256) = 32
        rotate_left
        ·rw [if_neg c14] at H
         obtain ⟨c14b0, c14b1⟩ := QFz c14
         by_cases c25 : x3_2.length < 140737488355328
         ·rw [if_pos c25] at H
          have LMc25 := Aside0.mk c25
          clear c25
          obtain ⟨y113, hy113⟩ : ∃ y_ : List Int, y_ = (x3_2 ++ [((bt a0 x4_2) + 32) % 256]) := ⟨_, rfl⟩
          replace H : (Qr.l0 kj10 a0 y113 (wrap64 (x4_2 + 1))) = some r := by first | (rw [hy113]; with_reducible exact H) | (have H2_ := (Option.bind_some _ _).symm.trans H; rw [hy113]; with_reducible exact H2_) | (have H2_ := (Option.bind_some _ _).symm.trans H; with_reducible exact H2_) | with_reducible exact H | (rw [hy113]; exact H) | exact H
          have Ny113 := Aside0.mk hy113
          clear hy113
          have H' := Aside0.mk H
          clear H
          go_wp2_with (first | ((with_reducible refine gate_builtin (b := .append) (xs := #[.tmp 48, .tmp 50]) rfl ?_); (try (refine gate_guard (by rfl) ?_; dsimp only)); at_builtin; refine Kd.R_append (Kd.int .u8) (w0 := w) w.heap.size rfl (.tmp 48) (.tmp 50) 35 5 (.int .u8 0) 1 rfl Tryz.underlying35 info5 rfl (by decide) (by omega) u3 x3_2 (((bt a0 x4_2) + 32) % 256) [.int .u8 (((bt a0 x4_2) + 32) % 256)] (fun _ => True) (fun _ => False) rfl rfl ?aP (fun _ hk => hk.elim) ?aF ?aO ?aB ?aS ?aL ?_; (case aP => exact rfl); (case aB => exact HBa); (case aF => exact (fun _ _ => trivial)); (case aO => exact (KRz HO_3)); (case aS => exact (below_size HBa)); (case aL => have := LMc25.out; omega); intro v114 w26 ho hb hg hat; rw [← Ny113.out] at ho; have n0_ := Aside0.mk (hb); have n1_ := Aside0.mk (ho); clear HB; clear HO_3; have HB := n0_; have HO115 := n1_; clear n0_ n1_; clear ho hb hg hat))
          go_roundg kj10
          case measure => have := HJ1.out; have := HK2.out; have := HJ10.out; omega
          case rel => exact ⟨(y113), (wrap64 (x4_2 + 1)), EZc, H', ⟨by have := HJ1.out; have := HK2.out; have := HJ10.out; omega⟩, ⟨by (with_reducible repeat (first | apply Kd.R_alloc | apply Kd.R_drewN | apply Kd.R_drew)); exact HO115.out⟩, ⟨HBa⟩⟩
         rw [if_neg c25] at H
         exact absurd H (by simp)
        rw [if_pos c14] at H
        obtain ⟨c14b0, c14b1⟩ := QTz c14
        clear c14
        by_cases c15 : (x3_2.length : Int) = 0
        ·rw [if_pos c15] at H
         obtain ⟨c15b0, c15b1⟩ := QTz c15
         clear c15
         have H' := Aside0.mk H
         clear H
         obtain ⟨Ao16, co16, eo16⟩ := Kd.R_slice HO_3.out
         subst eo16
         go_wp2
         go_roundg kj10
         case measure => have := HJ1.out; have := HK2.out; have := HJ10.out; omega
         case rel => exact ⟨(x3_2), (wrap64 (x4_2 + 1)), EZc, H', ⟨by have := HJ1.out; have := HK2.out; have := HJ10.out; omega⟩, ⟨by (with_reducible repeat (first | apply Kd.R_alloc | apply Kd.R_drewN | apply Kd.R_drew)); exact HO_3.out⟩, ⟨HBa⟩⟩
        rw [if_neg c15] at H
        obtain ⟨c15b0, c15b1⟩ := QFz c15
        have c15b2 : ¬ (x3_2 = []) := fun h_ => c15 (by rw [h_]; rfl)
        obtain ⟨ji17, hji17⟩ : ∃ j_ : Int, (wrap64 ((x3_2.length : Int) - 1)) = j_ := ⟨_, rfl⟩
        replace H : (if 0 ≤ (ji17) then (if (ji17) < (x3_2.length : Int) then (if (rd x3_2 (ji17)) = 32 then (Qr.l0 kj10 a0 x3_2 (wrap64 (x4_2 + 1))) else (if x3_2.length < 140737488355328 then (Qr.l0 kj10 a0 (x3_2 ++ [((bt a0 x4_2) + 32) % 256]) (wrap64 (x4_2 + 1))) else (none))) else (none)) else (none)) = some r := by first | (rw [hji17] at H; exact H) | (simp only [hji17] at H ⊢; exact H)
        have hji17w : (IntKind.i64.wrap ((x3_2.length : Int) - 1)) = ji17 := (i64_w _).trans hji17
        by_cases c18 : 0 ≤ (ji17)
        rotate_left
        ·rw [if_neg c18] at H
         exact absurd H (by simp)
        rw [if_pos c18] at H
        have c18b0 := decide_eq_true c18
        clear c18
        by_cases c19 : (ji17) < (x3_2.length : Int)
        rotate_left
        ·rw [if_neg c19] at H
         exact absurd H (by simp)
        rw [if_pos c19] at H
        have c19b0 := decide_eq_true c19
        clear c19
        by_cases c20 : (rd x3_2 (ji17)) = 32
        ·rw [if_pos c20] at H
         obtain ⟨c20b0, c20b1⟩ := QTz c20
         clear c20
         have H' := Aside0.mk H
         clear H
         obtain ⟨Ao21, co21, eo21⟩ := Kd.R_slice HO_3.out
         subst eo21
         have p109 : 0 ≤ ((ji17) : Int) := ODz
         have q109 : (ji17) < (x3_2.length : Int) := ODz
         obtain ⟨ad109, e109, hx109_0⟩ := Kd.at_int (Kd.R_reads' HO_3.out).2.2 (ji17) p109 q109
         cases e109
         replace p109 := eq_true p109
         replace q109 := eq_true q109
         go_wp2
         go_roundg kj10
         case measure => have := HJ1.out; have := HK2.out; have := HJ10.out; omega
         case rel => exact ⟨(x3_2), (wrap64 (x4_2 + 1)), EZc, H', ⟨by have := HJ1.out; have := HK2.out; have := HJ10.out; omega⟩, ⟨by (with_reducible repeat (first | apply Kd.R_alloc | apply Kd.R_drewN | apply Kd.R_drew)); exact HO_3.out⟩, ⟨HBa⟩⟩
        rw [if_neg c20] at H
        obtain ⟨c20b0, c20b1⟩ := QFz c20
        by_cases c22 : x3_2.length < 140737488355328
        ·rw [if_pos c22] at H
         have LMc22 := Aside0.mk c22
         clear c22
         obtain ⟨y110, hy110⟩ : ∃ y_ : List Int, y_ = (x3_2 ++ [((bt a0 x4_2) + 32) % 256]) := ⟨_, rfl⟩
         replace H : (Qr.l0 kj10 a0 y110 (wrap64 (x4_2 + 1))) = some r := by first | (rw [hy110]; with_reducible exact H) | (have H2_ := (Option.bind_some _ _).symm.trans H; rw [hy110]; with_reducible exact H2_) | (have H2_ := (Option.bind_some _ _).symm.trans H; with_reducible exact H2_) | with_reducible exact H | (rw [hy110]; exact H) | exact H
         have Ny110 := Aside0.mk hy110
         clear hy110
         have H' := Aside0.mk H
         clear H
         obtain ⟨Ao23, co23, eo23⟩ := Kd.R_slice HO_3.out
         subst eo23
         have p109 : 0 ≤ ((ji17) : Int) := ODz
         have q109 : (ji17) < (x3_2.length : Int) := ODz
         obtain ⟨ad109, e109, hx109_0⟩ := Kd.at_int (Kd.R_reads' HO_3.out).2.2 (ji17) p109 q109
         cases e109
         replace p109 := eq_true p109
         replace q109 := eq_true q109
         go_wp2_with (first | ((with_reducible refine gate_builtin (b := .append) (xs := #[.tmp 48, .tmp 50]) rfl ?_); (try (refine gate_guard (by rfl) ?_; dsimp only)); at_builtin; refine Kd.R_append (Kd.int .u8) (w0 := w) w.heap.size rfl (.tmp 48) (.tmp 50) 35 5 (.int .u8 0) 1 rfl Tryz.underlying35 info5 rfl (by decide) (by omega) (.slice (some ad109) x3_2.length co23) x3_2 (((bt a0 x4_2) + 32) % 256) [.int .u8 (((bt a0 x4_2) + 32) % 256)] (fun _ => True) (fun _ => False) rfl rfl ?aP (fun _ hk => hk.elim) ?aF ?aO ?aB ?aS ?aL ?_; (case aP => exact rfl); (case aB => exact HBa); (case aF => exact (fun _ _ => trivial)); (case aO => exact (KRz HO_3)); (case aS => exact (below_size HBa)); (case aL => have := LMc22.out; omega); intro v111 w24 ho hb hg hat; rw [← Ny110.out] at ho; have n0_ := Aside0.mk (hb); have n1_ := Aside0.mk (ho); clear HB; clear HO_3; have HB := n0_; have HO112 := n1_; clear n0_ n1_; clear ho hb hg hat))
         go_roundg kj10
         case measure => have := HJ1.out; have := HK2.out; have := HJ10.out; omega
         case rel => exact ⟨(y110), (wrap64 (x4_2 + 1)), EZc, H', ⟨by have := HJ1.out; have := HK2.out; have := HJ10.out; omega⟩, ⟨by (with_reducible repeat (first | apply Kd.R_alloc | apply Kd.R_drewN | apply Kd.R_drew)); exact HO112.out⟩, ⟨HBa⟩⟩
        rw [if_neg c22] at H
        exact absurd H (by simp)
       replace c13 := Bool.eq_false_iff.mpr c13
       subst c13
       have H1 : (if (bt a0 x4_2) = 32 then (if (x3_2.length : Int) = 0 then (Qr.l0 kj10 a0 x3_2 (wrap64 (x4_2 + 1))) else (if 0 ≤ (wrap64 ((x3_2.length : Int) - 1)) then (if (wrap64 ((x3_2.length : Int) - 1)) < (x3_2.length : Int) then (if (rd x3_2 (wrap64 ((x3_2.length : Int) - 1))) = 32 then (Qr.l0 kj10 a0 x3_2 (wrap64 (x4_2 + 1))) else (if x3_2.length < 140737488355328 then (Qr.l0 kj10 a0 (x3_2 ++ [(bt a0 x4_2)]) (wrap64 (x4_2 + 1))) else (none))) else (none)) else (none))) else (if x3_2.length < 140737488355328 then (Qr.l0 kj10 a0 (x3_2 ++ [(bt a0 x4_2)]) (wrap64 (x4_2 + 1))) else (none))) = some r := by rw [if_neg (show ¬ (false = true) by decide)] at H; exact H
       clear H
       have H := H1
       clear H1
       by_cases c27 : (bt a0 x4_2) = 32
       rotate_left
       ·rw [if_neg c27] at H
        obtain ⟨c27b0, c27b1⟩ := QFz c27
        by_cases c38 : x3_2.length < 140737488355328
        ·rw [if_pos c38] at H
         have LMc38 := Aside0.mk c38
         clear c38
         obtain ⟨y120, hy120⟩ : ∃ y_ : List Int, y_ = (x3_2 ++ [(bt a0 x4_2)]) := ⟨_, rfl⟩
         replace H : (Qr.l0 kj10 a0 y120 (wrap64 (x4_2 + 1))) = some r := by first | (rw [hy120]; with_reducible exact H) | (have H2_ := (Option.bind_some _ _).symm.trans H; rw [hy120]; with_reducible exact H2_) | (have H2_ := (Option.bind_some _ _).symm.trans H; with_reducible exact H2_) | with_reducible exact H | (rw [hy120]; exact H) | exact H
         have Ny120 := Aside0.mk hy120
         clear hy120
         have H' := Aside0.mk H
         clear H
         go_wp2_with (first | ((with_reducible refine gate_builtin (b := .append) (xs := #[.tmp 48, .tmp 50]) rfl ?_); (try (refine gate_guard (by rfl) ?_; dsimp only)); at_builtin; refine Kd.R_append (Kd.int .u8) (w0 := w) w.heap.size rfl (.tmp 48) (.tmp 50) 35 5 (.int .u8 0) 1 rfl Tryz.underlying35 info5 rfl (by decide) (by omega) u3 x3_2 (bt a0 x4_2) [.int .u8 (bt a0 x4_2)] (fun _ => True) (fun _ => False) rfl rfl ?aP (fun _ hk => hk.elim) ?aF ?aO ?aB ?aS ?aL ?_; (case aP => exact rfl); (case aB => exact HBa); (case aF => exact (fun _ _ => trivial)); (case aO => exact (KRz HO_3)); (case aS => exact (below_size HBa)); (case aL => have := LMc38.out; omega); intro v121 w39 ho hb hg hat; rw [← Ny120.out] at ho; have n0_ := Aside0.mk (hb); have n1_ := Aside0.mk (ho); clear HB; clear HO_3; have HB := n0_; have HO122 := n1_; clear n0_ n1_; clear ho hb hg hat))
         go_roundg kj10
         case measure => have := HJ1.out; have := HK2.out; have := HJ10.out; omega
         case rel => exact ⟨(y120), (wrap64 (x4_2 + 1)), EZc, H', ⟨by have := HJ1.out; have := HK2.out; have := HJ10.out; omega⟩, ⟨by (with_reducible repeat (first | apply Kd.R_alloc | apply Kd.R_drewN | apply Kd.R_drew)); exact HO122.out⟩, ⟨HBa⟩⟩
        rw [if_neg c38] at H
        exact absurd H (by simp)
       rw [if_pos c27] at H
       obtain ⟨c27b0, c27b1⟩ := QTz c27
       clear c27
       by_cases c28 : (x3_2.length : Int) = 0
       ·rw [if_pos c28] at H
        obtain ⟨c28b0, c28b1⟩ := QTz c28
        clear c28
        have H' := Aside0.mk H
        clear H
        obtain ⟨Ao29, co29, eo29⟩ := Kd.R_slice HO_3.out
        subst eo29
        go_wp2
        go_roundg kj10
        case measure => have := HJ1.out; have := HK2.out; have := HJ10.out; omega
        case rel => exact ⟨(x3_2), (wrap64 (x4_2 + 1)), EZc, H', ⟨by have := HJ1.out; have := HK2.out; have := HJ10.out; omega⟩, ⟨by (with_reducible repeat (first | apply Kd.R_alloc | apply Kd.R_drewN | apply Kd.R_drew)); exact HO_3.out⟩, ⟨HBa⟩⟩
       rw [if_neg c28] at H
       obtain ⟨c28b0, c28b1⟩ := QFz c28
       have c28b2 : ¬ (x3_2 = []) := fun h_ => c28 (by rw [h_]; rfl)
       obtain ⟨ji30, hji30⟩ : ∃ j_ : Int, (wrap64 ((x3_2.length : Int) - 1)) = j_ := ⟨_, rfl⟩
       replace H : (if 0 ≤ (ji30) then (if (ji30) < (x3_2.length : Int) then (if (rd x3_2 (ji30)) = 32 then (Qr.l0 kj10 a0 x3_2 (wrap64 (x4_2 + 1))) else (if x3_2.length < 140737488355328 then (Qr.l0 kj10 a0 (x3_2 ++ [(bt a0 x4_2)]) (wrap64 (x4_2 + 1))) else (none))) else (none)) else (none)) = some r := by first | (rw [hji30] at H; exact H) | (simp only [hji30] at H ⊢; exact H)
       have hji30w : (IntKind.i64.wrap ((x3_2.length : Int) - 1)) = ji30 := (i64_w _).trans hji30
       by_cases c31 : 0 ≤ (ji30)
       rotate_left
       ·rw [if_neg c31] at H
        exact absurd H (by simp)
       rw [if_pos c31] at H
       have c31b0 := decide_eq_true c31
       clear c31
       by_cases c32 : (ji30) < (x3_2.length : Int)
       rotate_left
       ·rw [if_neg c32] at H
        exact absurd H (by simp)
       rw [if_pos c32] at H
       have c32b0 := decide_eq_true c32
       clear c32
       by_cases c33 : (rd x3_2 (ji30)) = 32
       ·rw [if_pos c33] at H
        obtain ⟨c33b0, c33b1⟩ := QTz c33
        clear c33
        have H' := Aside0.mk H
        clear H
        obtain ⟨Ao34, co34, eo34⟩ := Kd.R_slice HO_3.out
        subst eo34
        have p116 : 0 ≤ ((ji30) : Int) := ODz
        have q116 : (ji30) < (x3_2.length : Int) := ODz
        obtain ⟨ad116, e116, hx116_0⟩ := Kd.at_int (Kd.R_reads' HO_3.out).2.2 (ji30) p116 q116
        cases e116
        replace p116 := eq_true p116
        replace q116 := eq_true q116
        go_wp2
        go_roundg kj10
        case measure => have := HJ1.out; have := HK2.out; have := HJ10.out; omega
        case rel => exact ⟨(x3_2), (wrap64 (x4_2 + 1)), EZc, H', ⟨by have := HJ1.out; have := HK2.out; have := HJ10.out; omega⟩, ⟨by (with_reducible repeat (first | apply Kd.R_alloc | apply Kd.R_drewN | apply Kd.R_drew)); exact HO_3.out⟩, ⟨HBa⟩⟩
       rw [if_neg c33] at H
       obtain ⟨c33b0, c33b1⟩ := QFz c33
       by_cases c35 : x3_2.length < 140737488355328
       ·rw [if_pos c35] at H
        have LMc35 := Aside0.mk c35
        clear c35
        obtain ⟨y117, hy117⟩ : ∃ y_ : List Int, y_ = (x3_2 ++ [(bt a0 x4_2)]) := ⟨_, rfl⟩
        replace H : (Qr.l0 kj10 a0 y117 (wrap64 (x4_2 + 1))) = some r := by first | (rw [hy117]; with_reducible exact H) | (have H2_ := (Option.bind_some _ _).symm.trans H; rw [hy117]; with_reducible exact H2_) | (have H2_ := (Option.bind_some _ _).symm.trans H; with_reducible exact H2_) | with_reducible exact H | (rw [hy117]; exact H) | exact H
        have Ny117 := Aside0.mk hy117
        clear hy117
        have H' := Aside0.mk H
        clear H
        obtain ⟨Ao36, co36, eo36⟩ := Kd.R_slice HO_3.out
        subst eo36
        have p116 : 0 ≤ ((ji30) : Int) := ODz
        have q116 : (ji30) < (x3_2.length : Int) := ODz
        obtain ⟨ad116, e116, hx116_0⟩ := Kd.at_int (Kd.R_reads' HO_3.out).2.2 (ji30) p116 q116
        cases e116
        replace p116 := eq_true p116
        replace q116 := eq_true q116
        go_wp2_with (first | ((with_reducible refine gate_builtin (b := .append) (xs := #[.tmp 48, .tmp 50]) rfl ?_); (try (refine gate_guard (by rfl) ?_; dsimp only)); at_builtin; refine Kd.R_append (Kd.int .u8) (w0 := w) w.heap.size rfl (.tmp 48) (.tmp 50) 35 5 (.int .u8 0) 1 rfl Tryz.underlying35 info5 rfl (by decide) (by omega) (.slice (some ad116) x3_2.length co36) x3_2 (bt a0 x4_2) [.int .u8 (bt a0 x4_2)] (fun _ => True) (fun _ => False) rfl rfl ?aP (fun _ hk => hk.elim) ?aF ?aO ?aB ?aS ?aL ?_; (case aP => exact rfl); (case aB => exact HBa); (case aF => exact (fun _ _ => trivial)); (case aO => exact (KRz HO_3)); (case aS => exact (below_size HBa)); (case aL => have := LMc35.out; omega); intro v118 w37 ho hb hg hat; rw [← Ny117.out] at ho; have n0_ := Aside0.mk (hb); have n1_ := Aside0.mk (ho); clear HB; clear HO_3; have HB := n0_; have HO119 := n1_; clear n0_ n1_; clear ho hb hg hat))
        go_roundg kj10
        case measure => have := HJ1.out; have := HK2.out; have := HJ10.out; omega
        case rel => exact ⟨(y117), (wrap64 (x4_2 + 1)), EZc, H', ⟨by have := HJ1.out; have := HK2.out; have := HJ10.out; omega⟩, ⟨by (with_reducible repeat (first | apply Kd.R_alloc | apply Kd.R_drewN | apply Kd.R_drew)); exact HO119.out⟩, ⟨HBa⟩⟩
       rw [if_neg c35] at H
       exact absurd H (by simp)
def Y.fls (l : Array Bool) : Nat := l.toList.count false
theorem Y.fls_set (l : Array Bool) (i : Nat) (h : l.getD i true = false) : Y.fls (l.setIfInBounds i true) + 1 = Y.fls l := by
 have hi : i < l.size := by
  rcases Nat.lt_or_ge i l.size with h2 | h2
  ·exact h2
  ·rw [Array.getD_eq_getD_getElem?, Array.getElem?_eq_none h2] at h; cases h
 have hv : l.toList[i]'(by simpa using hi) = false := by
  rw [Array.getD_eq_getD_getElem?, Array.getElem?_eq_getElem hi] at h
  simpa using h
 unfold Y.fls
 have : 0 < l.toList.count false := List.count_pos_iff.2 (by rw [← hv]; exact List.getElem_mem _)
 have hc := List.count_set (l := l.toList) (a := true) (b := false) (i := i) (by simpa using hi)
 rw [hv] at hc
 have e : (true == false) = false := rfl
 have e2 : (false == false) = true := rfl
 rw [e, e2, if_pos rfl, if_neg (by simp)] at hc
 rw [Array.toList_setIfInBounds, hc]
 omega
theorem Y.any_inv {P : Program} {md : Region.Mode} {ops : Array Oper} {Q : Exit → Act → World → Prop} (I : Array Bool → Act → World → Prop)
  (hac : ∀ (i : Nat) (oi : Oper), ops[i]? = some oi → oi.after.all (fun e => !Region.binds md e || decide (e.on < i)) = true)
  (hstep : ∀ (l : Array Bool) (a : Act) (w : World) (i : Nat) (oi : Oper), I l a w → ops[i]? = some oi → l.getD i true = false → (∀ e ∈ oi.after, Region.binds md e = true → l.getD e.on false = true) →
   ∀ K : Act → World → Prop, (∀ a' w', I (l.setIfInBounds i true) a' w' → K a' w') → if Region.wanted oi (yielded ops a.tmps) = true then Oper.wp P oi a w K Q else K (a.put oi.dst undef) w)
  (hfin : ∀ l a w, I l a w → (∀ i < ops.size, l.getD i true = true) → Q .normal a w) :
  ∀ (fuel : Nat) (l : Array Bool) (a : Act) (w : World), l.size = ops.size → Y.fls l ≤ fuel → I l a w → wpAny P md ops Q fuel l a w := by
 have hready : ∀ l : Array Bool, l.size = ops.size → Region.ready md ops l = [] → ∀ i < ops.size, l.getD i true = true := by
  intro l hs hr i
  induction i using Nat.strongRecOn with
  | _ i ih =>
   intro hi
   rcases hb : l.getD i true with _ | _
   ·have : i ∈ Region.ready md ops l := by
     unfold Region.ready
     refine List.mem_filter.2 ⟨List.mem_range.2 hi, ?_⟩
     rw [hb, Array.getElem?_eq_getElem hi]
     simp only [Bool.not_false, Bool.true_and, Option.map_some, Option.getD_some]
     have h1 := hac i ops[i] (Array.getElem?_eq_getElem hi)
     rw [Array.all_eq_true_iff_forall_mem] at h1 ⊢
     intro e he
     cases hbd : Region.binds md e with
     | false => rfl
     | true =>
     have h2 : e.on < i := by simpa [hbd] using h1 e he
     have h3 := ih e.on h2 (by omega)
     have h4 : l.getD e.on false = true := by
      rw [Array.getD_eq_getD_getElem?, Array.getElem?_eq_getElem (by omega)] at h3 ⊢
      exact h3
     rw [h4]; simp
    rw [hr] at this; cases this
   ·rfl
 intro fuel
 induction fuel with
 | zero =>
  intro l a w hs hf hI
  have hall : ∀ i < ops.size, l.getD i true = true := by
   intro i hi
   rcases hb : l.getD i true with _ | _
   ·have := Y.fls_set l i hb; omega
   ·rfl
  refine ⟨?_, hfin l a w hI hall⟩
  unfold Region.ready
  refine List.filter_eq_nil_iff.2 fun i hi => ?_
  rw [hall i (List.mem_range.1 hi)]; simp
 | succ fuel ih =>
  intro l a w hs hf hI
  refine ⟨fun hr => hfin l a w hI (hready l hs hr), fun i hi => ?_⟩
  obtain ⟨hi1, hi2⟩ := List.mem_filter.1 hi
  have hlt := List.mem_range.1 hi1
  simp only [Bool.and_eq_true, Bool.not_eq_true'] at hi2
  obtain ⟨h1, h2⟩ := hi2
  rw [Array.getElem?_eq_getElem hlt] at h2
  simp only [Option.map_some, Option.getD_some] at h2
  rw [Array.all_eq_true_iff_forall_mem] at h2
  have := hstep l a w i ops[i] hI (Array.getElem?_eq_getElem hlt) h1 (fun e he hb => by have := h2 e he; rw [hb] at this; simpa using this)
   (wpAny P md ops Q fuel (l.setIfInBounds i true)) (fun a' w' hI' => ih _ a' w' (by simpa using hs) (by have := Y.fls_set l i h1; omega) hI')
  unfold wpOp
  rw [Array.getElem?_eq_getElem hlt]
  dsimp only
  split
  ·rename_i hw; rw [if_pos hw] at this; exact .inl this
  ·rename_i hw; rw [if_neg hw] at this; exact this
def Y.sl (ops : Array Oper) (p : Nat → Bool) (val : Nat → Value) (base : Nat → Value) (d : Nat) : Value :=
 match (List.range ops.size).find? (fun j => (ops[j]?).bind (·.dst) == some d && p j) with
 | some j => val j
 | none => base d
def Y.AI (ops : Array Oper) (a0 : Act) (p : Nat → Bool) (val : Nat → Value) (a : Act) : Prop :=
 a.defers = a0.defers ∧ a.tmps.size = a0.tmps.size ∧ ∀ d, a.tmps.getD d undef = Y.sl ops p val (fun d => a0.tmps.getD d undef) d
def Y.up (p : Nat → Bool) (i : Nat) : Nat → Bool := fun j => if j = i then true else p j
def Y.upv (val : Nat → Value) (i : Nat) (v : Value) : Nat → Value := fun j => if j = i then v else val j
theorem Y.find_congr {p q : Nat → Bool} : ∀ l : List Nat, (∀ x ∈ l, p x = q x) → l.find? p = l.find? q
 | [], _ => rfl
 | x :: l, h => by
  rw [List.find?_cons, List.find?_cons, h x List.mem_cons_self, Y.find_congr l (fun y hy => h y (List.mem_cons_of_mem _ hy))]
theorem Y.AI_put {ops : Array Oper} {a0 a : Act} {p : Nat → Bool} {val : Nat → Value} {i : Nat} {oi : Oper} (h : Y.AI ops a0 p val a) (hi : ops[i]? = some oi) (hp : p i = false) (v : Value)
  (hnd : ∀ (j : Nat) (oj : Oper) (d : Tmp), ops[j]? = some oj → oj.dst = some d → oi.dst = some d → j = i) (hlt : ∀ d : Tmp, oi.dst = some d → d < a0.tmps.size) :
  Y.AI ops a0 (Y.up p i) (Y.upv val i v) (a.put oi.dst v) := by
 obtain ⟨h1, h2, h3⟩ := h
 have hir : i < ops.size := (Array.getElem?_eq_some_iff.1 hi).1
 have old : ∀ d : Nat, oi.dst ≠ some d → Y.sl ops (Y.up p i) (Y.upv val i v) (fun d => a0.tmps.getD d undef) d = Y.sl ops p val (fun d => a0.tmps.getD d undef) d := by
  intro d hd
  unfold Y.sl
  rw [Y.find_congr (q := fun j => (ops[j]?).bind (·.dst) == some d && p j) _ (fun x _ => by
   by_cases hx : x = i
   ·subst hx
    rw [hi]
    have : ((some oi).bind (·.dst) == some d) = false := beq_eq_false_iff_ne.2 hd
    rw [this]; rfl
   ·unfold Y.up; rw [if_neg hx])]
  cases hf : (List.range ops.size).find? (fun j => (ops[j]?).bind (·.dst) == some d && p j) with
  | none => rfl
  | some j =>
   have := List.find?_some hf
   simp only [Bool.and_eq_true] at this
   have hj : j ≠ i := by rintro rfl; rw [hp] at this; cases this.2
   show Y.upv val i v j = val j
   unfold Y.upv; rw [if_neg hj]
 cases hd : oi.dst with
 | none => exact ⟨h1, h2, fun d => by rw [old d (by rw [hd]; simp)]; exact h3 d⟩
 | some d0 =>
  refine ⟨h1, by show (a.tmps.setIfInBounds d0 v).size = _; rw [Array.size_setIfInBounds, h2], fun d => ?_⟩
  show (a.tmps.setIfInBounds d0 v).getD d undef = _
  rw [Array.getD_eq_getD_getElem?, Array.getElem?_setIfInBounds]
  by_cases e : d0 = d
  rotate_left
  ·rw [if_neg e, old d (by rw [hd]; intro h; injection h with h; exact e h), ← h3 d, Array.getD_eq_getD_getElem?]
  subst e
  have hl : (d0 : Nat) < a0.tmps.size := hlt d0 hd
  rw [if_pos rfl, if_pos (by rw [h2]; exact hl)]
  have hf : (List.range ops.size).find? (fun j => (ops[j]?).bind (·.dst) == some d0 && Y.up p i j) = some i := by
   cases hf : (List.range ops.size).find? (fun j => (ops[j]?).bind (·.dst) == some d0 && Y.up p i j) with
   | none =>
    have := List.find?_eq_none.1 hf i (List.mem_range.2 hir)
    rw [hi] at this
    simp [hd, Y.up] at this
   | some j =>
    have := List.find?_some hf
    simp only [Bool.and_eq_true, beq_iff_eq] at this
    obtain ⟨oj, ho, hdj⟩ := Option.bind_eq_some_iff.1 this.1
    rw [hnd j oj d0 ho hdj hd]
  unfold Y.sl
  rw [hf]
  show v = Y.upv val i v i
  unfold Y.upv; rw [if_pos rfl]
theorem Y.AI_lit {ops : Array Oper} {a0 a : Act} {p : Nat → Bool} {val : Nat → Value} (h : Y.AI ops a0 p val a) (L : List Value) (hL : (List.range a0.tmps.size).map (Y.sl ops p val (fun d => a0.tmps.getD d undef)) = L) : a = ⟨L.toArray, a0.defers⟩ := by
 obtain ⟨h1, h2, h3⟩ := h
 have e : a.tmps = L.toArray := by
  refine Array.ext (by rw [← hL]; simp [h2]) (fun d hd1 hd2 => ?_)
  have := h3 d
  rw [Array.getD_eq_getD_getElem?, Array.getElem?_eq_getElem hd1] at this
  have e2 : L.toArray[d] = Y.sl ops p val (fun d => a0.tmps.getD d undef) d := by subst hL; simp
  rw [e2, ← this]; rfl
 cases a
 simp only at e h1
 rw [e, h1]
theorem Y.any_region {P : Program} {id : Nat} {ops : Array Oper} {Q : Exit → Act → World → Prop} {a0 : Act} {w : World} (hm : P.follows .mixedOrders = true) (J : (Nat → Bool) → (Nat → Value) → World → Prop)
  (hac : ∀ (i : Nat) (oi : Oper), ops[i]? = some oi → oi.after.all (fun e => !Region.binds .any e || decide (e.on < i)) = true)
  (hnd : ∀ (i j : Nat) (oi oj : Oper) (d : Tmp), ops[i]? = some oi → ops[j]? = some oj → oj.dst = some d → oi.dst = some d → j = i) (hlt : ∀ (i : Nat) (oi : Oper) (d : Tmp), ops[i]? = some oi → oi.dst = some d → d < a0.tmps.size)
  (h0 : J (fun _ => false) (fun _ => undef) { w with drawn := w.drawn + 1 })
  (hstep : ∀ (p : Nat → Bool) (val : Nat → Value) (w : World) (a : Act) (i : Nat) (oi : Oper), J p val w → ops[i]? = some oi → p i = false → (∀ e ∈ oi.after, Region.binds .any e = true → p e.on = true) → Y.AI ops a0 p val a →
   ∀ K : Act → World → Prop, (∀ v w', J (Y.up p i) (Y.upv val i v) w' → K (a.put oi.dst v) w') → if Region.wanted oi (yielded ops a.tmps) = true then Oper.wp P oi a w K Q else K (a.put oi.dst undef) w)
  (hfin : ∀ p val w a, J p val w → (∀ i < ops.size, p i = true) → Y.AI ops a0 p val a → Q .normal a w) : (Code.region id ops true).wp P Q a0 w := by
 refine wp_region_any hm (Y.any_inv (fun l a w => ∃ val, J (fun i => l.getD i false) val w ∧ Y.AI ops a0 (fun i => l.getD i false) val a ∧ l.size = ops.size) hac ?_ ?_ _ _ _ _ (by simp) (by unfold Y.fls; simp) ⟨fun _ => undef, ?_, ?_, by simp⟩)
 ·rintro l a w i oi ⟨val, hJ, hA, hs⟩ hi hl hdep K hK
  have hir : i < ops.size := (Array.getElem?_eq_some_iff.1 hi).1
  have hp : l.getD i false = false := by
   rw [Array.getD_eq_getD_getElem?, Array.getElem?_eq_getElem (by omega)] at hl ⊢; exact hl
  have eup : (fun j => (l.setIfInBounds i true).getD j false) = Y.up (fun i => l.getD i false) i := by
   funext j
   unfold Y.up
   rw [Array.getD_eq_getD_getElem?, Array.getElem?_setIfInBounds]
   by_cases e : i = j
   ·subst e; rw [if_pos rfl, if_pos rfl, if_pos (by omega)]; rfl
   ·rw [if_neg e, if_neg (Ne.symm e)]; show _ = l.getD j false; rw [Array.getD_eq_getD_getElem?]
  refine hstep _ val w a i oi hJ hi hp hdep hA K (fun v w' hJ' => hK _ _ ⟨Y.upv val i v, ?_, ?_, by rw [Array.size_setIfInBounds]; exact hs⟩)
  ·rw [eup]; exact hJ'
  ·rw [eup]; exact Y.AI_put hA hi hp v (fun j oj d h1 h2 h3 => hnd i j oi oj d hi h1 h2 h3) (fun d hd => hlt i oi d hi hd)
 ·rintro l a w ⟨val, hJ, hA, hs⟩ hall
  exact hfin _ val w a hJ (fun i hi => by
   have := hall i hi
   rw [Array.getD_eq_getD_getElem?, Array.getElem?_eq_getElem (by omega)] at this ⊢; exact this) hA
 ·have : (fun i => (Array.replicate ops.size false).getD i false) = fun _ => false := by
   funext i
   rw [Array.getD_eq_getD_getElem?]
   by_cases h : i < ops.size
   ·rw [Array.getElem?_replicate, if_pos h]; rfl
   ·rw [Array.getElem?_replicate, if_neg h]; rfl
  rw [this]; exact h0
 ·refine ⟨rfl, rfl, fun d => ?_⟩
  unfold Y.sl
  rw [List.find?_eq_none.2 (fun j hj => by
   have : (Array.replicate ops.size false).getD j false = false := by
    rw [Array.getD_eq_getD_getElem?, Array.getElem?_replicate]; split <;> rfl
   show ¬((((ops[j]?).bind (·.dst) == some d) && (Array.replicate ops.size false).getD j false) = true)
   rw [this]; simp)]
def Y.okB (ops : Array Oper) (n : Nat) : Bool :=
 (List.range ops.size).all fun i => match ops[i]? with
  | none => true
  | some oi => oi.after.all (fun e => !Region.binds .any e || decide (e.on < i)) && (match oi.dst with
   | none => true
   | some d => decide (d < n) && (List.range ops.size).all fun j => j == i || !((ops[j]?).bind (·.dst) == some d))
theorem Y.okB_at {ops : Array Oper} {n i : Nat} {oi : Oper} (h : Y.okB ops n = true) (hi : ops[i]? = some oi) : oi.after.all (fun e => !Region.binds .any e || decide (e.on < i)) = true ∧ ∀ d : Tmp, oi.dst = some d → d < n ∧ ∀ j : Nat, (ops[j]?).bind (·.dst) = some d → j = i := by
 have h1 := List.all_eq_true.1 h i (List.mem_range.2 (Array.getElem?_eq_some_iff.1 hi).1)
 rw [hi] at h1
 simp only [Bool.and_eq_true] at h1
 refine ⟨h1.1, fun d hd => ?_⟩
 have h2 := h1.2
 rw [hd] at h2
 simp only [Bool.and_eq_true, decide_eq_true_eq] at h2
 refine ⟨h2.1, fun j hj => ?_⟩
 have hjs : j < ops.size := by
  rcases Nat.lt_or_ge j ops.size with hlt | hge
  ·exact hlt
  ·rw [Array.getElem?_eq_none hge] at hj; cases hj
 have h3 := List.all_eq_true.1 h2.2 j (List.mem_range.2 hjs)
 rw [hj] at h3
 simpa using h3
theorem Y.AI_new {ops : Array Oper} {n : Nat} {a0 a : Act} {p : Nat → Bool} {val : Nat → Value} (hok : Y.okB ops n = true) (h : Y.AI ops a0 p val a) (j : Nat) {oj : Oper} (d : Tmp) (hj : ops[j]? = some oj) (hd : oj.dst = some d) (hp : p j = true) : a.eval (.tmp d) = val j := by
 show a.tmps.getD d undef = _
 rw [h.2.2 d]
 unfold Y.sl
 have hf : (List.range ops.size).find? (fun k => (ops[k]?).bind (·.dst) == some d && p k) = some j := by
  cases hf : (List.range ops.size).find? (fun k => (ops[k]?).bind (·.dst) == some d && p k) with
  | none =>
   have := List.find?_eq_none.1 hf j (List.mem_range.2 (Array.getElem?_eq_some_iff.1 hj).1)
   rw [hj] at this
   simp [hd, hp] at this
  | some k =>
   have := List.find?_some hf
   simp only [Bool.and_eq_true, beq_iff_eq] at this
   rw [((Y.okB_at hok hj).2 d hd).2 k this.1]
 rw [hf]
theorem Y.AI_old {ops : Array Oper} {a0 a : Act} {p : Nat → Bool} {val : Nat → Value} (h : Y.AI ops a0 p val a) (d : Tmp) (hd : (List.range ops.size).all (fun k => !((ops[k]?).bind (·.dst) == some d)) = true) : a.eval (.tmp d) = a0.eval (.tmp d) := by
 show a.tmps.getD d undef = _
 rw [h.2.2 d]
 unfold Y.sl
 rw [List.find?_eq_none.2 (fun k hk => by
  have := List.all_eq_true.1 hd k hk
  simp only [Bool.not_eq_true', ] at this
  rw [this]; simp)]
 rfl
theorem Y.any_rule {P : Program} {id : Nat} {ops : Array Oper} {Q : Exit → Act → World → Prop} {a0 : Act} {w : World} (hm : P.follows .mixedOrders = true) (J : (Nat → Bool) → (Nat → Value) → World → Prop) (hok : Y.okB ops a0.tmps.size = true)
  (h0 : J (fun _ => false) (fun _ => undef) w.drew)
  (hstep : ∀ (p : Nat → Bool) (val : Nat → Value) (w : World) (a : Act) (i : Nat) (oi : Oper), J p val w → ops[i]? = some oi → p i = false → (∀ e ∈ oi.after, Region.binds .any e = true → p e.on = true) → Y.AI ops a0 p val a →
   ∀ K : Act → World → Prop, (∀ v w', J (Y.up p i) (Y.upv val i v) w' → K (a.put oi.dst v) w') → if Region.wanted oi (yielded ops a.tmps) = true then Oper.wp P oi a w K Q else K (a.put oi.dst undef) w)
  (hfin : ∀ p val w a, J p val w → (∀ i < ops.size, p i = true) → Y.AI ops a0 p val a → Q .normal a w) : (Code.region id ops true).wp P Q a0 w :=
 Y.any_region hm J (fun i oi hi => (Y.okB_at hok hi).1) (fun i j oi oj d hi hj hdj hdi => ((Y.okB_at hok hi).2 d hdi).2 j (by rw [hj]; exact hdj)) (fun i oi d hi hd => ((Y.okB_at hok hi).2 d hd).1) h0 hstep hfin
theorem Y.AI_oldT {ops : Array Oper} {a0 a : Act} {p : Nat → Bool} {val : Nat → Value} (h : Y.AI ops a0 p val a) (d : Nat) (hd : (List.range ops.size).all (fun k => !((ops[k]?).bind (·.dst) == some d)) = true) : a.tmps[d]?.getD undef = a0.eval (.tmp d) := by
 rw [← Array.getD_eq_getD_getElem?]
 exact Y.AI_old h d hd
theorem Y.AI_newT {ops : Array Oper} {n : Nat} {a0 a : Act} {p : Nat → Bool} {val : Nat → Value} (hok : Y.okB ops n = true) (h : Y.AI ops a0 p val a) (j : Nat) {oj : Oper} (d : Nat) (hj : ops[j]? = some oj) (hd : oj.dst = some d) (hp : p j = true) : a.tmps[d]?.getD undef = val j := by
 rw [← Array.getD_eq_getD_getElem?]
 exact Y.AI_new hok h j d hj hd hp
theorem Y.lit_R {α : Type} (d : Kd α) (W : World) (base e : Nat) (xs : List α) (inner : List Value) (hrep : Reps (d.M W base (fun _ => True)) d.sz xs inner) (hbase : base ≤ W.heap.size) (hm : xs.length ≤ 9223372036854775807) : d.R e (W.alloc (.cells inner.toArray e)) base (fun _ => True) (.slice (some ⟨W.heap.size, 0, none⟩) xs.length xs.length) xs := by
 refine ⟨fun _ _ => trivial, inner, ?_, ?_⟩
 ·have h2 := World.ownsRow_lit (base := base) (e := e) (size := d.sz) W inner.toArray xs.length hbase (by simpa [maxLen] using hm) (by simpa using hrep.1)
  simpa using h2
 ·refine hrep.imp_ (fun p c hp => d.M_mono (fun k hk => ⟨trivial, fun he => ?_⟩) (Kd.M_below (d.M_bound hp) (below_alloc (Below.refl _ _) _)))
  have h3 : k = W.heap.size := by simpa [Value.ownBlock] using he
  have := hk.2.2.1
  omega
theorem Y.lit0 (W : World) (base : Nat) (hbase : base ≤ W.heap.size) : Kd.R Kd.string 9 (W.alloc (.cells #[] 9)) base (fun _ => True) (.slice (some ⟨W.heap.size, 0, none⟩) 0 0) [] :=
 Y.lit_R Kd.string W base 9 [] [] (Reps.none _ _) hbase (by simp)
theorem Y.lit1 (W : World) (base : Nat) (v : ByteArray) (hbase : base ≤ W.heap.size) : Kd.R Kd.string 9 (W.alloc (.cells #[.string v] 9)) base (fun _ => True) (.slice (some ⟨W.heap.size, 0, none⟩) 1 1) [v] :=
 Y.lit_R Kd.string W base 9 [v] [.string v] (Reps.one (show Kd.M Kd.string _ _ _ v [.string v] from rfl) (Reps.none _ _)) hbase (by simp)
def Y.dps (o : Oper) : List Nat := (o.after.toList.filter (Region.binds .any)).map (·.on)
def Y.clo (ops : Array Oper) : Nat → List Nat → List Nat
 | 0, l => l
 | k + 1, l => Y.clo ops k (l ++ l.flatMap fun i => match ops[i]? with
  | some o => Y.dps o
  | none => []).eraseDups
def Y.tailB (ops : Array Oper) (pl : Nat → Bool) (tl : List Nat) : Bool :=
 (List.range tl.length).all fun q => match tl[q]? with
  | none => false
  | some i => !pl i && !(tl.take q).contains i && match ops[i]? with
   | none => false
   | some o => (List.range ops.size).all (fun j => pl j || tl.contains j || (Y.clo ops 6 (Y.dps o)).contains j) && (tl.take q).all fun j => (Y.clo ops 6 (Y.dps o)).contains j
def Y.closed (ops : Array Oper) (p : Nat → Bool) : Prop := ∀ (i : Nat) (oi : Oper), ops[i]? = some oi → p i = true → ∀ j ∈ Y.dps oi, p j = true
theorem Y.clo_all {ops : Array Oper} {p : Nat → Bool} (hp : Y.closed ops p) : ∀ (k : Nat) (l : List Nat), (∀ x ∈ l, p x = true) → ∀ x ∈ Y.clo ops k l, p x = true
 | 0, _, hl => hl
 | k + 1, l, hl => by
  refine Y.clo_all hp k _ fun x hx => ?_
  rw [List.mem_eraseDups] at hx
  rcases List.mem_append.1 hx with h | h
  ·exact hl x h
  ·obtain ⟨i, hi, h2⟩ := List.mem_flatMap.1 h
   cases ho : ops[i]? with
   | none => rw [ho] at h2; cases h2
   | some o => rw [ho] at h2; exact hp i o ho (hl i hi) x h2
def Y.msk (pl : Nat → Bool) (val : Nat → Value) : Nat → Value := fun j => if pl j = true then undef else val j
theorem Y.three_rule {P : Program} {id : Nat} {ops : Array Oper} {Q : Exit → Act → World → Prop} {a0 : Act} {w : World} (hm : P.follows .mixedOrders = true) (pl : Nat → Bool) (tl : List Nat) (S : World → World → Prop) (R : World → Prop) (F : Nat → Value → World → Prop) (G : Nat → Value → Prop) (T : Nat → (Nat → Value) → World → Prop)
  (hok : Y.okB ops a0.tmps.size = true) (htl : Y.tailB ops pl tl = true) (hF : ∀ j v W W', F j v W → S W W' → F j v W') (h0 : R w.drew)
  (hpure : ∀ (p : Nat → Bool) (val : Nat → Value) (W : World) (a : Act) (i : Nat) (oi : Oper), pl i = true → ops[i]? = some oi → (∀ j, pl j = true → p j = true → G j (val j)) → (∀ e ∈ oi.after, Region.binds .any e = true → p e.on = true) → Y.AI ops a0 p val a →
   ∀ K : Act → World → Prop, (∀ v, G i v → K (a.put oi.dst v) W) → if Region.wanted oi (yielded ops a.tmps) = true then Oper.wp P oi a W K Q else K (a.put oi.dst undef) W)
  (hstep : ∀ (p : Nat → Bool) (val : Nat → Value) (W : World) (a : Act) (i : Nat) (oi : Oper), pl i = false → i ∉ tl → ops[i]? = some oi → R W → (∀ j, pl j = true → p j = true → G j (val j)) → (∀ j, pl j = false → j ∉ tl → p j = true → F j (val j) W) → (∀ e ∈ oi.after, Region.binds .any e = true → p e.on = true) → Y.AI ops a0 p val a →
   ∀ K : Act → World → Prop, (∀ v W', S W W' → R W' → F i v W' → K (a.put oi.dst v) W') → if Region.wanted oi (yielded ops a.tmps) = true then Oper.wp P oi a W K Q else K (a.put oi.dst undef) W)
  (hmid : ∀ (val : Nat → Value) (W : World), R W → (∀ j, j < ops.size → pl j = false → j ∉ tl → F j (val j) W) → T 0 val W)
  (htail : ∀ (p : Nat → Bool) (val : Nat → Value) (W : World) (a : Act) (q i : Nat) (oi : Oper), tl[q]? = some i → ops[i]? = some oi → T q (Y.msk pl val) W → (∀ j, pl j = true → p j = true → G j (val j)) → (∀ j, j < ops.size → pl j = false → j ∉ tl → p j = true) → (∀ k j, k < q → tl[k]? = some j → p j = true) → (∀ e ∈ oi.after, Region.binds .any e = true → p e.on = true) → Y.AI ops a0 p val a →
   ∀ K : Act → World → Prop, (∀ v W', T (q + 1) (Y.upv (Y.msk pl val) i v) W' → K (a.put oi.dst v) W') → if Region.wanted oi (yielded ops a.tmps) = true then Oper.wp P oi a W K Q else K (a.put oi.dst undef) W)
  (hfin : ∀ (p : Nat → Bool) (val : Nat → Value) (W : World) (a : Act), T tl.length (Y.msk pl val) W → (∀ j, pl j = true → j < ops.size → G j (val j)) → (∀ i < ops.size, p i = true) → Y.AI ops a0 p val a → Q .normal a W) : (Code.region id ops true).wp P Q a0 w := by
 have htl2 : ∀ (q i : Nat) (oi : Oper), tl[q]? = some i → ops[i]? = some oi → pl i = false ∧ (∀ k < q, tl[k]? ≠ some i) ∧ (∀ j < ops.size, pl j = false → j ∉ tl → j ∈ Y.clo ops 6 (Y.dps oi)) ∧ ∀ k j, k < q → tl[k]? = some j → j ∈ Y.clo ops 6 (Y.dps oi) := by
  intro q i oi hq hi
  have h1 := List.all_eq_true.1 htl q (List.mem_range.2 (List.getElem?_eq_some_iff.1 hq).1)
  rw [hq] at h1
  simp only [Bool.and_eq_true, Bool.not_eq_true'] at h1
  obtain ⟨⟨h1, h2⟩, h3⟩ := h1
  rw [hi] at h3
  simp only [Bool.and_eq_true] at h3
  have mem_take : ∀ k j, k < q → tl[k]? = some j → j ∈ tl.take q := fun k j hk hj => List.mem_iff_getElem?.2 ⟨k, by rw [List.getElem?_take, if_pos hk]; exact hj⟩
  refine ⟨h1, fun k hk e => ?_, fun j hj hp hn => ?_, fun k j hk hj => ?_⟩
  ·rw [List.contains_iff_mem.2 (mem_take k i hk e)] at h2; cases h2
  ·have h4 := List.all_eq_true.1 h3.1 j (List.mem_range.2 hj)
   rw [hp, Bool.false_or] at h4
   rcases Bool.or_eq_true _ _ ▸ h4 with h | h
   ·exact absurd (List.contains_iff_mem.1 h) hn
   ·exact List.contains_iff_mem.1 h
  ·exact List.contains_iff_mem.1 (List.all_eq_true.1 h3.2 j (mem_take k j hk hj))
 refine Y.any_rule hm (fun p val W => Y.closed ops p ∧ (∀ i, ops.size ≤ i → p i = false) ∧ (∀ j, pl j = true → p j = true → G j (val j)) ∧ ∃ q, q ≤ tl.length ∧ (∀ k j, tl[k]? = some j → (p j = true ↔ k < q)) ∧
  ((q = 0 ∧ R W ∧ ∀ j, pl j = false → j ∉ tl → p j = true → F j (val j) W) ∨ (0 < q ∧ (∀ j, j < ops.size → pl j = false → j ∉ tl → p j = true) ∧ T q (Y.msk pl val) W))) hok ?_ ?_ ?_
 ·refine ⟨fun i oi _ h => absurd h (by simp), fun _ _ => rfl, fun j _ h => absurd h (by simp), 0, Nat.zero_le _, fun k j _ => ⟨fun h => absurd h (by simp), fun h => absurd h (by omega)⟩, .inl ⟨rfl, h0, fun j _ _ h => absurd h (by simp)⟩⟩
 ·rintro p val W a i oi ⟨hcl, hsz, hG, q, hq, hiff, hJ⟩ hi hp hdep hA K hK
  have hir : i < ops.size := (Array.getElem?_eq_some_iff.1 hi).1
  have hd : ∀ j ∈ Y.dps oi, p j = true := by
   intro j hj
   obtain ⟨e, he, rfl⟩ := List.mem_map.1 hj
   obtain ⟨he1, he2⟩ := List.mem_filter.1 he
   exact hdep e (Array.mem_toList_iff.1 he1) he2
  have hupi : Y.up p i i = true := by unfold Y.up; rw [if_pos rfl]
  have hupn : ∀ j, j ≠ i → Y.up p i j = p j := fun j hj => by unfold Y.up; rw [if_neg hj]
  have huvi : ∀ v, Y.upv val i v i = v := fun v => by unfold Y.upv; rw [if_pos rfl]
  have huvn : ∀ v j, j ≠ i → Y.upv val i v j = val j := fun v j hj => by unfold Y.upv; rw [if_neg hj]
  have hupt : ∀ j, p j = true → Y.up p i j = true := fun j hj => by
   by_cases e : j = i
   ·subst e; exact hupi
   ·rw [hupn j e]; exact hj
  have hcl' : Y.closed ops (Y.up p i) := by
   intro k ok hk hpk j hj
   by_cases e : k = i
   ·subst e; rw [hi] at hk; injection hk with hk; subst hk; exact hupt j (hd j hj)
   ·rw [hupn k e] at hpk; exact hupt j (hcl k ok hk hpk j hj)
  have hsz' : ∀ k, ops.size ≤ k → Y.up p i k = false := fun k hk => by rw [hupn k (by omega)]; exact hsz k hk
  by_cases hpi : pl i = true
  ·refine hpure p val W a i oi hpi hi hG hdep hA K fun v hv => hK v W ⟨hcl', hsz', fun j hj hpj => ?_, q, hq, fun k j hkj => ?_, ?_⟩
   ·by_cases e : j = i
    ·subst e; rw [huvi]; exact hv
    ·rw [hupn j e] at hpj; rw [huvn v j e]; exact hG j hj hpj
   ·have e : j ≠ i := by
     rintro rfl
     have := (htl2 k j oi hkj hi).1
     rw [hpi] at this; cases this
    rw [hupn j e]; exact hiff k j hkj
   ·have em : Y.msk pl (Y.upv val i v) = Y.msk pl val := by
     funext j
     unfold Y.msk
     by_cases e : j = i
     ·subst e; rw [if_pos hpi, if_pos hpi]
     ·rw [huvn v j e]
    rcases hJ with ⟨h1, h2, h3⟩ | ⟨h1, h2, h3⟩
    ·refine .inl ⟨h1, h2, fun j hj hn hpj => ?_⟩
     have e : j ≠ i := by rintro rfl; rw [hpi] at hj; cases hj
     rw [hupn j e] at hpj; rw [huvn v j e]; exact h3 j hj hn hpj
    ·exact .inr ⟨h1, fun j a b c => hupt j (h2 j a b c), by rw [em]; exact h3⟩
  have hpf : pl i = false := by simpa using hpi
  by_cases hit : i ∈ tl
  rotate_left
  ·have hJ1 : q = 0 ∧ R W ∧ ∀ j, pl j = false → j ∉ tl → p j = true → F j (val j) W := by
    rcases hJ with h | ⟨_, h2, _⟩
    ·exact h
    ·rw [h2 i hir hpf hit] at hp; cases hp
   refine hstep p val W a i oi hpf hit hi hJ1.2.1 hG hJ1.2.2 hdep hA K fun v W' hS hR hFi => hK v W' ⟨hcl', hsz', fun j hj hpj => ?_, q, hq, fun k j hkj => ?_, .inl ⟨hJ1.1, hR, fun j hj hn hpj => ?_⟩⟩
   ·have e : j ≠ i := by rintro rfl; rw [hpf] at hj; cases hj
    rw [hupn j e] at hpj; rw [huvn v j e]; exact hG j hj hpj
   ·have e : j ≠ i := by rintro rfl; exact hit (List.mem_iff_getElem?.2 ⟨k, hkj⟩)
    rw [hupn j e]; exact hiff k j hkj
   ·by_cases e : j = i
    ·subst e; rw [huvi]; exact hFi
    ·rw [hupn j e] at hpj; rw [huvn v j e]; exact hF j _ W W' (hJ1.2.2 j hj hn hpj) hS
  obtain ⟨k, hk⟩ := List.mem_iff_getElem?.1 hit
  obtain ⟨_, hnd, hal, htk⟩ := htl2 k i oi hk hi
  have hkq : ¬ k < q := fun h => by rw [(hiff k i hk).2 h] at hp; cases hp
  have hkl := (List.getElem?_eq_some_iff.1 hk).1
  have hke : k = q := by
   rcases Nat.lt_or_ge q k with h | h
   ·have e := List.getElem?_eq_getElem (show q < tl.length by omega)
    have := Y.clo_all hcl 6 _ hd _ (htk q _ h e)
    exact absurd ((hiff q _ e).1 this) (by omega)
   ·omega
  subst hke
  have hall : ∀ j, j < ops.size → pl j = false → j ∉ tl → p j = true := fun j a b c => Y.clo_all hcl 6 _ hd _ (hal j a b c)
  have hT : T k (Y.msk pl val) W := by
   rcases hJ with ⟨h1, h2, h3⟩ | ⟨_, _, h3⟩
   ·subst h1
    refine hmid _ W h2 fun j a b c => ?_
    have e : Y.msk pl val j = val j := by unfold Y.msk; rw [if_neg (by rw [b]; simp)]
    rw [e]; exact h3 j b c (hall j a b c)
   ·exact h3
  refine htail p val W a k i oi hk hi hT hG hall (fun k' j h1 h2 => Y.clo_all hcl 6 _ hd _ (htk k' j h1 h2)) hdep hA K fun v W' hT' => hK v W' ⟨hcl', hsz', fun j hj hpj => ?_, k + 1, by omega, fun k' j hkj => ?_, .inr ⟨by omega, fun j a b c => hupt j (hall j a b c), ?_⟩⟩
  ·have e : j ≠ i := by rintro rfl; rw [hpf] at hj; cases hj
   rw [hupn j e] at hpj; rw [huvn v j e]; exact hG j hj hpj
  ·by_cases e : j = i
   ·subst e
    refine ⟨fun _ => ?_, fun _ => hupi⟩
    rcases Nat.lt_trichotomy k' k with h | h | h
    ·omega
    ·omega
    ·exact absurd hk ((htl2 k' j oi hkj hi).2.1 k h)
   ·rw [hupn j e, hiff k' j hkj]
    have : k' ≠ k := by rintro rfl; rw [hk] at hkj; injection hkj with hkj; exact e hkj.symm
    omega
  ·have em : Y.msk pl (Y.upv val i v) = Y.upv (Y.msk pl val) i v := by
    funext j
    unfold Y.msk Y.upv
    by_cases e : j = i
    ·subst e; rw [if_neg (by rw [hpf]; simp), if_pos rfl, if_pos rfl]
    ·rw [if_neg e, if_neg e]
   rw [em]; exact hT'
 ·rintro p val W a ⟨hcl, hsz, hG, q, hq, hiff, hJ⟩ hall hA
  refine hfin p val W a ?_ (fun j a b => hG j a (hall j b)) hall hA
  rcases hJ with ⟨h1, h2, h3⟩ | ⟨h1, h2, h3⟩
  ·subst h1
   have e : tl = [] := by
    cases tl with
    | nil => rfl
    | cons x t =>
     have h5 := (hiff 0 x rfl)
     rcases Nat.lt_or_ge x ops.size with h | h
     ·exact absurd (h5.1 (hall x h)) (by omega)
     ·have h1 := List.all_eq_true.1 htl 0 (List.mem_range.2 (by simp))
      simp only [List.getElem?_cons_zero, Bool.and_eq_true] at h1
      rw [Array.getElem?_eq_none h] at h1
      exact absurd h1.2 (by simp)
   subst e
   refine hmid _ W h2 fun j a b c => ?_
   have e : Y.msk pl val j = val j := by unfold Y.msk; rw [if_neg (by rw [b]; simp)]
   rw [e]; exact h3 j b c (hall j a)
  ·have e : q = tl.length := by
    rcases Nat.lt_or_ge q tl.length with h | h
    ·have e := List.getElem?_eq_getElem h
     have h6 : tl[q] < ops.size := by
      rcases Nat.lt_or_ge tl[q] ops.size with h7 | h7
      ·exact h7
      ·have h1 := List.all_eq_true.1 htl q (List.mem_range.2 h)
       rw [e] at h1
       simp only [Bool.and_eq_true] at h1
       rw [Array.getElem?_eq_none h7] at h1
       exact absurd h1.2 (by simp)
     exact absurd ((hiff q _ e).1 (hall _ h6)) (by omega)
    ·omega
   rw [← e]; exact h3
theorem Y.AI_frame {ops : Array Oper} {a0 a : Act} {p : Nat → Bool} {val : Nat → Value} (h : Y.AI ops a0 p val a) : a = ⟨((List.range a0.tmps.size).map fun d => if (List.range ops.size).any (fun k => (ops[k]?).bind (·.dst) == some d) = true then a.tmps.getD d undef else a0.tmps.getD d undef).toArray, a0.defers⟩ := by
 have e : a.tmps = ((List.range a0.tmps.size).map fun d => if (List.range ops.size).any (fun k => (ops[k]?).bind (·.dst) == some d) = true then a.tmps.getD d undef else a0.tmps.getD d undef).toArray := by
  refine Array.ext (by simp [h.2.1]) (fun d hd1 hd2 => ?_)
  simp only [List.getElem_toArray, List.getElem_map, List.getElem_range]
  have hg : a.tmps.getD d undef = a.tmps[d] := by rw [Array.getD_eq_getD_getElem?, Array.getElem?_eq_getElem hd1]; rfl
  split
  ·first | exact hg.symm | rfl
  ·rename_i hn
   rw [← hg]
   refine Y.AI_old h d (List.all_eq_true.2 fun k hk => ?_)
   cases hb : (ops[k]?).bind (·.dst) == some d with
   | false => rfl
   | true => exact absurd (List.any_eq_true.2 ⟨k, hk, hb⟩) hn
 have e2 : a = ⟨a.tmps, a.defers⟩ := rfl
 exact e2.trans (by rw [h.1]; exact congrArg (fun t => Act.mk t a0.defers) e)
theorem Y.AI_at {ops : Array Oper} {a0 a : Act} (d : Nat) (hd : (List.range ops.size).any (fun k => (ops[k]?).bind (·.dst) == some d) = true) : (if (List.range ops.size).any (fun k => (ops[k]?).bind (·.dst) == some d) = true then a.tmps.getD d undef else a0.tmps.getD d undef) = a.tmps[d]?.getD undef := by
 rw [if_pos hd, Array.getD_eq_getD_getElem?]
theorem Y.stp {P : Program} {ops : Array Oper} {o : Oper} {a : Act} {W : World} {K : Act → World → Prop} {Q : Exit → Act → World → Prop} (hw : Region.wanted o (yielded ops a.tmps) = true) (h : Oper.upon P o a K Q ((execOp a.eval o).run P W)) :
  if Region.wanted o (yielded ops a.tmps) = true then Oper.wp P o a W K Q else K (a.put o.dst undef) W := by
 rw [if_pos hw]; exact h
theorem Y.below_none {w w1 : World} (h : w.grownBy w1 none) : Below w.heap.size w w1 := ⟨h.os, h.tape, h.output, h.size, fun k hk => h.block k hk (by simp)⟩
theorem Y.wnt {ops : Array Oper} {a : Act} {i : Nat} {oi : Oper} {want b : Bool} (_hi : ops[i]? = some oi) (j : Nat) (d : Nat) (hg : oi.guard = some (j, want)) (hj : (ops[j]?).bind (·.dst) = some d) (hx : a.tmps[d]?.getD undef = .bool b) : Region.wanted oi (yielded ops a.tmps) = (b == want) := by
 unfold Region.wanted
 rw [hg]
 have h : a.tmps[d]? = some (.bool b) := by
  cases hd : a.tmps[d]? with
  | none => rw [hd] at hx; cases hx
  | some v => rw [hd] at hx; rw [show v = .bool b from hx]
 have hy : yielded ops a.tmps j = some b := by
  unfold yielded
  rw [hj, Option.bind_some, h]
 show (yielded ops a.tmps j == some want) = _
 rw [hy]
 cases b <;> cases want <;> rfl
theorem Y.skp {P : Program} {ops : Array Oper} {o : Oper} {a : Act} {W : World} {K : Act → World → Prop} {Q : Exit → Act → World → Prop} (hw : Region.wanted o (yielded ops a.tmps) = false) (h : K (a.put o.dst undef) W) :
  if Region.wanted o (yielded ops a.tmps) = true then Oper.wp P o a W K Q else K (a.put o.dst undef) W := by
 rw [if_neg (by rw [hw]; simp)]; exact h
def Y.SO (w W : World) (l : List ByteArray) (v : Value) (out : List ByteArray) : Prop := Below w.heap.size w W ∧ Kd.R Kd.string 9 W w.heap.size (fun _ => True) v out ∧ ∀ s ∈ out, s ∈ l
theorem Y.SO.below {w W W1 : World} {l : List ByteArray} {v : Value} {out : List ByteArray} (h : Y.SO w W l v out) (hb : Below W.heap.size W W1) : Y.SO w W1 l v out := ⟨below_step h.1 hb, Kd.R_below h.2.1 hb, h.2.2⟩
def Y.SX (w W : World) (l : List ByteArray) (v : Value) (out : List ByteArray) (u : Value) (new : List ByteArray) : Prop := Y.SO w W l v out ∧ Kd.R Kd.string 9 W w.heap.size (fun _ => True) u new ∧ Kd.R Kd.string 9 W w.heap.size (fun k => True ∧ some k ≠ u.ownBlock) v out
theorem Y.SX.app {w W W1 : World} {l out new new1 : List ByteArray} {v u u1 : Value} (h : Y.SX w W l v out u new) (hr : Kd.R Kd.string 9 W1 w.heap.size (fun _ => True) u1 new1) (hb : Below w.heap.size W W1) (hg : W.grownBy W1 u.ownBlock) (hat : u1.ownBlock = u.ownBlock ∨ ∃ b, u1.ownBlock = some b ∧ W.heap.size ≤ b) : Y.SX w W1 l v out u1 new1 := by
 have h3 := Kd.R_after h.2.2 hg hat
 exact ⟨⟨Below.trans h.1.1 hb, Kd.R_mono h3 (fun _ _ => trivial), h.1.2.2⟩, hr, h3⟩
theorem Y.str_at {W : World} {A : Option Addr} {n : Nat} {l : List ByteArray} (h : Kd.C Kd.string W A n l) (i : Nat) (hi : i < n) : ∃ (ad : Addr) (s : ByteArray), A = some ad ∧ l[i]? = some s ∧ W.cell? (ad.add i) = some (.string s) := by
 have hl : i < l.length := by have := h.1; omega
 obtain ⟨ad, e, hc⟩ := h.2.2 (by omega)
 obtain ⟨c, _, hK, hcc⟩ := hc i _ (List.getElem?_eq_getElem hl)
 have hK : c = [.string l[i]] := hK
 subst hK
 exact ⟨ad, l[i], e, List.getElem?_eq_getElem hl, by have := hcc 0 _ rfl; simpa [Kd.string, Kd.scalar] using this⟩
theorem Y.sort_ (HN : ∀ a : ByteArray, a.size ≤ 8000 → ∃ k r, Qr.f k a = some r) (A : Option Addr) (c : Nat) (l : List ByteArray) (w : World) (hC : Kd.C Kd.string w A l.length l) (hc : l.length ≤ c) (hl : l.length ≤ 1000 ∧ ∀ s ∈ l, s.size ≤ 8000) :
  Calls Tryz.prog 192 #[.slice A l.length c] w fun e w' => ∃ (v : Value) (r : List ByteArray), e = .returned v ∧ Kd.R Kd.string 9 w' w.heap.size (fun _ => True) v r ∧ (r.length = l.length ∧ ∀ s ∈ r, s ∈ l) ∧ Below w.heap.size w w' := by
 have HNM := Aside0.mk HN
 have HC := Aside0.mk (And.intro hC hc)
 have HL := Aside0.mk hl
 clear HN hC hc hl
 go_enter Tryz.func192, Tryz.ntmps192
 go_upto_region 2 with ((with_reducible refine gate_dst (N := 7) rfl ?_); refine Kd.R_lit Kd.string (w0 := w) w.heap.size 9 ?hg (N := 7) ?hd (xs := ([] : List ByteArray)) (inner := []) (ok := fun _ => True) (okp := fun _ => False) ?hr ?hp (fun _ hk => hk.elim) trivial (Below.refl _ _) (Nat.le_refl _) (by simp) ?_; (case hd => rfl); (case hg => rfl); (case hr => first | (go_simp; done) | (go_simp; rfl)); (case hp => exact (Reps.none _ _)); intro v7 w1 ho hb hg hnew; generalize hn0 : ([] : List ByteArray) = out at ho; obtain ⟨Ao, co, e7⟩ := Kd.R_slice ho; subst e7; have HL0 := Aside0.mk (show out = [] from hn0.symm); have HS := Aside0.mk (show Y.SO w w1 l (.slice Ao out.length co) out from ⟨hb, ho, by rw [← hn0]; simp⟩); clear ho hb hg hnew hn0)
 go_wp2
 go_loopg [3, 4] l.length (fun kq v3 v4 w' => ∃ (i : Nat) (out : List ByteArray) (Ao : Option Addr) (co : Nat), v3 = .slice Ao out.length co ∧ v4 = .int .i64 (i : Int) ∧ Aside0 (out.length = i ∧ i ≤ l.length ∧ l.length ≤ i + kq) ∧ Aside0 (Y.SO w w' l (.slice Ao out.length co) out))
 case atStart => exact ⟨0, out, Ao, co, rfl, rfl, ⟨by rw [HL0.out]; simp⟩, HS⟩
 case round =>
  clear HS HL0
  obtain ⟨i, out, Ao, co, rfl, rfl, HI, HS⟩ := hrel
  by_cases il : (i : Int) < (l.length : Int)
  case neg =>
   have ilb : decide ((i : Int) < (l.length : Int)) = false := decide_eq_false il
   have ilc : decide (i < l.length) = false := decide_eq_false (by omega)
   have HIE := Aside0.mk (show i = l.length from by have := HI.out; omega)
   clear il
   go_wp2
   go_ret
   exact ⟨_, out, rfl, HS.out.2.1, ⟨by have := HI.out; have := HIE.out; omega, HS.out.2.2⟩, HS.out.1⟩
  have ilb : decide ((i : Int) < (l.length : Int)) = true := decide_eq_true il
  have ilc : decide (i < l.length) = true := decide_eq_true (by omega)
  have HIL := Aside0.mk (show i < l.length from by omega)
  clear il
  obtain ⟨gq, rfl⟩ : ∃ z, gk = z + 1 := ⟨gk - 1, by have := HI.out; have := HIL.out; omega⟩
  have HW := Aside0.mk (show wrap64 ((i : Int) + 1) = ((i + 1 : Nat) : Int) from by have := HL.out.1; have := HIL.out; unfold wrap64; omega)
  go_wp2
  go_loopg [5] out.length (fun kq v5 w' => ∃ j : Nat, v5 = .int .i64 (j : Int) ∧ Aside0 (j ≤ out.length ∧ out.length ≤ j + kq) ∧ Aside0 (Y.SO w w' l (.slice Ao out.length co) out))
  case atStart => exact ⟨0, rfl, ⟨by omega, by omega⟩, HS⟩
  case round =>
   clear HS
   obtain ⟨j, rfl, HJ, HS⟩ := hrel
   clear ilb ilc
   go_upto_region 6 with fail
   go_cut [30] (fun v30 wc => ∃ b : Bool, v30 = .bool b ∧ Aside0 (b = true → j < out.length) ∧ Aside0 (Y.SO w wc l (.slice Ao out.length co) out))
   case first =>
    by_cases jl : j < out.length
    case neg =>
     have jl1 : decide ((j : Int) < (out.length : Int)) = false := decide_eq_false (by omega)
     have jl2 : decide (j < out.length) = false := decide_eq_false jl
     clear jl
     refine Y.three_rule (by kernel_rfl) (fun j => true) [] (fun W W' => Below W.heap.size W W') (fun W => Y.SO w W l (.slice Ao out.length co) out)
      (fun q v W => match q with
       | _ => True)
      (fun q v => match q with
       | 0 => v = .int .i64 (j : Int)
       | 1 => v = .slice Ao out.length co
       | 2 => v = .int .i64 (out.length : Int)
       | 3 => v = .bool false
       | 4 => v = .bool false
       | 16 => v = .bool false
       | _ => True)
      (fun q val W => (Y.SO w W l (.slice Ao out.length co) out) ∧ True)
      (by kernel_rfl) (by kernel_rfl) ?hF ?h0 ?hpure ?hstep ?hmid ?htail ?hfin
     case hF => exact fun j v W W' hj _ => hj
     case h0 => exact Y.SO.below HS.out (below_drew (Below.refl _ _))
     case hpure =>
      intro p val W a i' oi hpl hi hG hdep hA K hK
      rcases i' with _ | _ | _ | _ | _ | _ | _ | _ | _ | _ | _ | _ | _ | _ | _ | _ | _ | i'
      ·obtain rfl := Option.some.inj hi
       have e0 : a.tmps[5]?.getD undef = .int .i64 (j : Int) := Y.AI_oldT hA 5 (by kernel_rfl)
       have hK' := hK _ rfl
       refine Y.stp rfl ?_
       go_simp
       exact hK'
      ·obtain rfl := Option.some.inj hi
       have e0 : a.tmps[3]?.getD undef = .slice Ao out.length co := Y.AI_oldT hA 3 (by kernel_rfl)
       have hK' := hK _ rfl
       refine Y.stp rfl ?_
       go_simp
       exact hK'
      ·obtain rfl := Option.some.inj hi
       have p1 : p 1 = true := hdep ⟨1, .data⟩ (by simp) rfl
       have x1 : a.tmps[15]?.getD undef = .slice Ao out.length co := (Y.AI_newT (n := 51) (by kernel_rfl) hA 1 15 rfl rfl p1).trans (hG 1 rfl p1)
       have hK' := hK _ rfl
       refine Y.stp rfl ?_
       go_simp
       exact hK'
      ·obtain rfl := Option.some.inj hi
       have p0 : p 0 = true := hdep ⟨0, .data⟩ (by simp) rfl
       have x0 : a.tmps[14]?.getD undef = .int .i64 (j : Int) := (Y.AI_newT (n := 51) (by kernel_rfl) hA 0 14 rfl rfl p0).trans (hG 0 rfl p0)
       have p2 : p 2 = true := hdep ⟨2, .data⟩ (by simp) rfl
       have x2 : a.tmps[16]?.getD undef = .int .i64 (out.length : Int) := (Y.AI_newT (n := 51) (by kernel_rfl) hA 2 16 rfl rfl p2).trans (hG 2 rfl p2)
       have hK' := hK _ rfl
       refine Y.stp rfl ?_
       go_simp
       exact hK'
      ·obtain rfl := Option.some.inj hi
       have p3 : p 3 = true := hdep ⟨3, .data⟩ (by simp) rfl
       have x3 : a.tmps[17]?.getD undef = .bool false := (Y.AI_newT (n := 51) (by kernel_rfl) hA 3 17 rfl rfl p3).trans (hG 3 rfl p3)
       have hK' := hK _ rfl
       refine Y.stp rfl ?_
       go_simp
       exact hK'
      ·obtain rfl := Option.some.inj hi
       have p4 : p 4 = true := hdep ⟨4, .guard⟩ (by simp) rfl
       have x18 : a.tmps[18]?.getD undef = .bool false := (Y.AI_newT (n := 51) (by kernel_rfl) hA 4 18 rfl rfl p4).trans (hG 4 rfl p4)
       have hwn : Region.wanted _ (yielded _ a.tmps) = false := Y.wnt (i := 5) (want := true) (b := false) hi 4 18 rfl rfl x18
       exact Y.skp hwn (hK undef trivial)
      ·obtain rfl := Option.some.inj hi
       have p4 : p 4 = true := hdep ⟨4, .guard⟩ (by simp) rfl
       have x18 : a.tmps[18]?.getD undef = .bool false := (Y.AI_newT (n := 51) (by kernel_rfl) hA 4 18 rfl rfl p4).trans (hG 4 rfl p4)
       have hwn : Region.wanted _ (yielded _ a.tmps) = false := Y.wnt (i := 6) (want := true) (b := false) hi 4 18 rfl rfl x18
       exact Y.skp hwn (hK undef trivial)
      ·obtain rfl := Option.some.inj hi
       have p4 : p 4 = true := hdep ⟨4, .guard⟩ (by simp) rfl
       have x18 : a.tmps[18]?.getD undef = .bool false := (Y.AI_newT (n := 51) (by kernel_rfl) hA 4 18 rfl rfl p4).trans (hG 4 rfl p4)
       have hwn : Region.wanted _ (yielded _ a.tmps) = false := Y.wnt (i := 7) (want := true) (b := false) hi 4 18 rfl rfl x18
       exact Y.skp hwn (hK undef trivial)
      ·obtain rfl := Option.some.inj hi
       have p4 : p 4 = true := hdep ⟨4, .guard⟩ (by simp) rfl
       have x18 : a.tmps[18]?.getD undef = .bool false := (Y.AI_newT (n := 51) (by kernel_rfl) hA 4 18 rfl rfl p4).trans (hG 4 rfl p4)
       have hwn : Region.wanted _ (yielded _ a.tmps) = false := Y.wnt (i := 8) (want := true) (b := false) hi 4 18 rfl rfl x18
       exact Y.skp hwn (hK undef trivial)
      ·obtain rfl := Option.some.inj hi
       have p4 : p 4 = true := hdep ⟨4, .guard⟩ (by simp) rfl
       have x18 : a.tmps[18]?.getD undef = .bool false := (Y.AI_newT (n := 51) (by kernel_rfl) hA 4 18 rfl rfl p4).trans (hG 4 rfl p4)
       have hwn : Region.wanted _ (yielded _ a.tmps) = false := Y.wnt (i := 9) (want := true) (b := false) hi 4 18 rfl rfl x18
       exact Y.skp hwn (hK undef trivial)
      ·obtain rfl := Option.some.inj hi
       have p4 : p 4 = true := hdep ⟨4, .guard⟩ (by simp) rfl
       have x18 : a.tmps[18]?.getD undef = .bool false := (Y.AI_newT (n := 51) (by kernel_rfl) hA 4 18 rfl rfl p4).trans (hG 4 rfl p4)
       have hwn : Region.wanted _ (yielded _ a.tmps) = false := Y.wnt (i := 10) (want := true) (b := false) hi 4 18 rfl rfl x18
       exact Y.skp hwn (hK undef trivial)
      ·obtain rfl := Option.some.inj hi
       have p4 : p 4 = true := hdep ⟨4, .guard⟩ (by simp) rfl
       have x18 : a.tmps[18]?.getD undef = .bool false := (Y.AI_newT (n := 51) (by kernel_rfl) hA 4 18 rfl rfl p4).trans (hG 4 rfl p4)
       have hwn : Region.wanted _ (yielded _ a.tmps) = false := Y.wnt (i := 11) (want := true) (b := false) hi 4 18 rfl rfl x18
       exact Y.skp hwn (hK undef trivial)
      ·obtain rfl := Option.some.inj hi
       have p4 : p 4 = true := hdep ⟨4, .guard⟩ (by simp) rfl
       have x18 : a.tmps[18]?.getD undef = .bool false := (Y.AI_newT (n := 51) (by kernel_rfl) hA 4 18 rfl rfl p4).trans (hG 4 rfl p4)
       have hwn : Region.wanted _ (yielded _ a.tmps) = false := Y.wnt (i := 12) (want := true) (b := false) hi 4 18 rfl rfl x18
       exact Y.skp hwn (hK undef trivial)
      ·obtain rfl := Option.some.inj hi
       have p4 : p 4 = true := hdep ⟨4, .guard⟩ (by simp) rfl
       have x18 : a.tmps[18]?.getD undef = .bool false := (Y.AI_newT (n := 51) (by kernel_rfl) hA 4 18 rfl rfl p4).trans (hG 4 rfl p4)
       have hwn : Region.wanted _ (yielded _ a.tmps) = false := Y.wnt (i := 13) (want := true) (b := false) hi 4 18 rfl rfl x18
       exact Y.skp hwn (hK undef trivial)
      ·obtain rfl := Option.some.inj hi
       have p4 : p 4 = true := hdep ⟨4, .guard⟩ (by simp) rfl
       have x18 : a.tmps[18]?.getD undef = .bool false := (Y.AI_newT (n := 51) (by kernel_rfl) hA 4 18 rfl rfl p4).trans (hG 4 rfl p4)
       have hwn : Region.wanted _ (yielded _ a.tmps) = false := Y.wnt (i := 14) (want := true) (b := false) hi 4 18 rfl rfl x18
       exact Y.skp hwn (hK undef trivial)
      ·obtain rfl := Option.some.inj hi
       have p4 : p 4 = true := hdep ⟨4, .guard⟩ (by simp) rfl
       have x18 : a.tmps[18]?.getD undef = .bool false := (Y.AI_newT (n := 51) (by kernel_rfl) hA 4 18 rfl rfl p4).trans (hG 4 rfl p4)
       have hwn : Region.wanted _ (yielded _ a.tmps) = false := Y.wnt (i := 15) (want := true) (b := false) hi 4 18 rfl rfl x18
       exact Y.skp hwn (hK undef trivial)
      ·obtain rfl := Option.some.inj hi
       have p4 : p 4 = true := hdep ⟨4, .data⟩ (by simp) rfl
       have x4 : a.tmps[18]?.getD undef = .bool false := (Y.AI_newT (n := 51) (by kernel_rfl) hA 4 18 rfl rfl p4).trans (hG 4 rfl p4)
       have hK' := hK _ rfl
       refine Y.stp rfl ?_
       go_simp
       exact hK'
      ·exact absurd hi (by simp)
     case hstep =>
      intro p val W a i' oi hpl hit hi hR hG hFF hdep hA K hK
      exact absurd hpl (by simp)
     case hmid =>
      intro val W hR hFF
      exact ⟨hR, trivial⟩
     case htail =>
      intro p val W a q i' oi hq hi hT hG hal htl hdep hA K hK
      exact absurd hq (by simp)
     case hfin =>
      intro p val W a hT hG hall hA
      obtain ⟨hR, _⟩ := hT
      have x30 : a.tmps[30]?.getD undef = .bool false := (Y.AI_newT (n := 51) (by kernel_rfl) hA 16 30 rfl rfl (hall 16 (by decide))).trans (hG 16 rfl (by decide))
      go_wp2
      refine Met.intro ?_
      go_step
      (repeat apply Exists.intro)
      refine ⟨?rel, Y.AI_frame hA⟩
      case rel => exact ⟨false, (Y.AI_at 30 (by kernel_rfl)).trans x30, ⟨nofun⟩, ⟨hR⟩⟩
    have HJL := Aside0.mk jl
    have jl1 : decide ((j : Int) < (out.length : Int)) = true := decide_eq_true (by omega)
    have jl2 : decide (j < out.length) = true := decide_eq_true jl
    obtain ⟨ao, _, eo, _, _⟩ := Y.str_at (Kd.R_reads' HS.out.2.1).2.2 j jl
    subst eo
    obtain ⟨al, _, el, _, _⟩ := Y.str_at (Kd.C_below HC.out.1 HS.out.1) i HIL.out
    subst el
    have q1 := eq_true (show (0 : Int) ≤ (i : Int) from by omega)
    have q2 := eq_true (show (i : Int) < (l.length : Int) from by have := HIL.out; omega)
    have q3 := eq_true HIL.out
    have q4 := eq_true (show (0 : Int) ≤ (j : Int) from by omega)
    have q5 := eq_true (show (j : Int) < (out.length : Int) from by omega)
    have q6 := eq_true jl
    clear jl
    refine Y.three_rule (by kernel_rfl) (fun j => j == 0 || j == 1 || j == 2 || j == 3 || j == 4 || j == 5 || j == 6 || j == 7 || j == 10 || j == 11 || j == 12) [] (fun W W' => Below W.heap.size W W') (fun W => Y.SO w W l (.slice (some ao) out.length co) out)
     (fun q v W => match q with
      | 8 | 13 => ∃ t : ByteArray, v = .string t ∧ t.size ≤ 8000
      | 9 | 14 => ∃ t : ByteArray, v = .string t
      | 15 | 16 => ∃ b : Bool, v = .bool b
      | _ => True)
     (fun q v => match q with
      | 0 => v = .int .i64 (j : Int)
      | 1 => v = .slice (some ao) out.length co
      | 2 => v = .int .i64 (out.length : Int)
      | 3 => v = .bool true
      | 4 => v = .bool true
      | 5 => v = .slice (some ao) out.length co
      | 6 => v = .int .i64 (j : Int)
      | 7 => v = .pointer (some (ao.add j))
      | 10 => v = .slice (some al) l.length c
      | 11 => v = .int .i64 (i : Int)
      | 12 => v = .pointer (some (al.add i))
      | _ => True)
     (fun q val W => (Y.SO w W l (.slice (some ao) out.length co) out) ∧ (∃ b : Bool, val 16 = .bool b))
     (by kernel_rfl) (by kernel_rfl) ?hF ?h0 ?hpure ?hstep ?hmid ?htail ?hfin
    case hF => exact fun j v W W' hj _ => hj
    case h0 => exact Y.SO.below HS.out (below_drew (Below.refl _ _))
    case hpure =>
     intro p val W a i' oi hpl hi hG hdep hA K hK
     have hi1 : i' = 0 ∨ i' = 1 ∨ i' = 2 ∨ i' = 3 ∨ i' = 4 ∨ i' = 5 ∨ i' = 6 ∨ i' = 7 ∨ i' = 10 ∨ i' = 11 ∨ i' = 12 := by simpa [or_assoc] using hpl
     rcases hi1 with rfl | rfl | rfl | rfl | rfl | rfl | rfl | rfl | rfl | rfl | rfl
     ·obtain rfl := Option.some.inj hi
      have e0 : a.tmps[5]?.getD undef = .int .i64 (j : Int) := Y.AI_oldT hA 5 (by kernel_rfl)
      have hK' := hK _ rfl
      refine Y.stp rfl ?_
      go_simp
      exact hK'
     ·obtain rfl := Option.some.inj hi
      have e0 : a.tmps[3]?.getD undef = .slice (some ao) out.length co := Y.AI_oldT hA 3 (by kernel_rfl)
      have hK' := hK _ rfl
      refine Y.stp rfl ?_
      go_simp
      exact hK'
     ·obtain rfl := Option.some.inj hi
      have p1 : p 1 = true := hdep ⟨1, .data⟩ (by simp) rfl
      have x1 : a.tmps[15]?.getD undef = .slice (some ao) out.length co := (Y.AI_newT (n := 51) (by kernel_rfl) hA 1 15 rfl rfl p1).trans (hG 1 rfl p1)
      have hK' := hK _ rfl
      refine Y.stp rfl ?_
      go_simp
      exact hK'
     ·obtain rfl := Option.some.inj hi
      have p0 : p 0 = true := hdep ⟨0, .data⟩ (by simp) rfl
      have x0 : a.tmps[14]?.getD undef = .int .i64 (j : Int) := (Y.AI_newT (n := 51) (by kernel_rfl) hA 0 14 rfl rfl p0).trans (hG 0 rfl p0)
      have p2 : p 2 = true := hdep ⟨2, .data⟩ (by simp) rfl
      have x2 : a.tmps[16]?.getD undef = .int .i64 (out.length : Int) := (Y.AI_newT (n := 51) (by kernel_rfl) hA 2 16 rfl rfl p2).trans (hG 2 rfl p2)
      have hK' := hK _ rfl
      refine Y.stp rfl ?_
      go_simp
      exact hK'
     ·obtain rfl := Option.some.inj hi
      have p3 : p 3 = true := hdep ⟨3, .data⟩ (by simp) rfl
      have x3 : a.tmps[17]?.getD undef = .bool true := (Y.AI_newT (n := 51) (by kernel_rfl) hA 3 17 rfl rfl p3).trans (hG 3 rfl p3)
      have hK' := hK _ rfl
      refine Y.stp rfl ?_
      go_simp
      exact hK'
     ·obtain rfl := Option.some.inj hi
      have p4 : p 4 = true := hdep ⟨4, .guard⟩ (by simp) rfl
      have x18 : a.tmps[18]?.getD undef = .bool true := (Y.AI_newT (n := 51) (by kernel_rfl) hA 4 18 rfl rfl p4).trans (hG 4 rfl p4)
      have hwn : Region.wanted _ (yielded _ a.tmps) = true := Y.wnt (i := 5) (want := true) (b := true) hi 4 18 rfl rfl x18
      have e0 : a.tmps[3]?.getD undef = .slice (some ao) out.length co := Y.AI_oldT hA 3 (by kernel_rfl)
      have hK' := hK _ rfl
      refine Y.stp hwn ?_
      go_simp
      exact hK'
     ·obtain rfl := Option.some.inj hi
      have p4 : p 4 = true := hdep ⟨4, .guard⟩ (by simp) rfl
      have x18 : a.tmps[18]?.getD undef = .bool true := (Y.AI_newT (n := 51) (by kernel_rfl) hA 4 18 rfl rfl p4).trans (hG 4 rfl p4)
      have hwn : Region.wanted _ (yielded _ a.tmps) = true := Y.wnt (i := 6) (want := true) (b := true) hi 4 18 rfl rfl x18
      have e0 : a.tmps[5]?.getD undef = .int .i64 (j : Int) := Y.AI_oldT hA 5 (by kernel_rfl)
      have hK' := hK _ rfl
      refine Y.stp hwn ?_
      go_simp
      exact hK'
     ·obtain rfl := Option.some.inj hi
      have p4 : p 4 = true := hdep ⟨4, .guard⟩ (by simp) rfl
      have x18 : a.tmps[18]?.getD undef = .bool true := (Y.AI_newT (n := 51) (by kernel_rfl) hA 4 18 rfl rfl p4).trans (hG 4 rfl p4)
      have hwn : Region.wanted _ (yielded _ a.tmps) = true := Y.wnt (i := 7) (want := true) (b := true) hi 4 18 rfl rfl x18
      have p5 : p 5 = true := hdep ⟨5, .data⟩ (by simp) rfl
      have x5 : a.tmps[19]?.getD undef = .slice (some ao) out.length co := (Y.AI_newT (n := 51) (by kernel_rfl) hA 5 19 rfl rfl p5).trans (hG 5 rfl p5)
      have p6 : p 6 = true := hdep ⟨6, .data⟩ (by simp) rfl
      have x6 : a.tmps[20]?.getD undef = .int .i64 (j : Int) := (Y.AI_newT (n := 51) (by kernel_rfl) hA 6 20 rfl rfl p6).trans (hG 6 rfl p6)
      have hK' := hK _ rfl
      refine Y.stp hwn ?_
      go_simp
      exact hK'
     ·obtain rfl := Option.some.inj hi
      have p4 : p 4 = true := hdep ⟨4, .guard⟩ (by simp) rfl
      have x18 : a.tmps[18]?.getD undef = .bool true := (Y.AI_newT (n := 51) (by kernel_rfl) hA 4 18 rfl rfl p4).trans (hG 4 rfl p4)
      have hwn : Region.wanted _ (yielded _ a.tmps) = true := Y.wnt (i := 10) (want := true) (b := true) hi 4 18 rfl rfl x18
      have e0 : a.tmps[0]?.getD undef = .slice (some al) l.length c := Y.AI_oldT hA 0 (by kernel_rfl)
      have hK' := hK _ rfl
      refine Y.stp hwn ?_
      go_simp
      exact hK'
     ·obtain rfl := Option.some.inj hi
      have p4 : p 4 = true := hdep ⟨4, .guard⟩ (by simp) rfl
      have x18 : a.tmps[18]?.getD undef = .bool true := (Y.AI_newT (n := 51) (by kernel_rfl) hA 4 18 rfl rfl p4).trans (hG 4 rfl p4)
      have hwn : Region.wanted _ (yielded _ a.tmps) = true := Y.wnt (i := 11) (want := true) (b := true) hi 4 18 rfl rfl x18
      have e0 : a.tmps[4]?.getD undef = .int .i64 (i : Int) := Y.AI_oldT hA 4 (by kernel_rfl)
      have hK' := hK _ rfl
      refine Y.stp hwn ?_
      go_simp
      exact hK'
     ·obtain rfl := Option.some.inj hi
      have p4 : p 4 = true := hdep ⟨4, .guard⟩ (by simp) rfl
      have x18 : a.tmps[18]?.getD undef = .bool true := (Y.AI_newT (n := 51) (by kernel_rfl) hA 4 18 rfl rfl p4).trans (hG 4 rfl p4)
      have hwn : Region.wanted _ (yielded _ a.tmps) = true := Y.wnt (i := 12) (want := true) (b := true) hi 4 18 rfl rfl x18
      have p10 : p 10 = true := hdep ⟨10, .data⟩ (by simp) rfl
      have x10 : a.tmps[24]?.getD undef = .slice (some al) l.length c := (Y.AI_newT (n := 51) (by kernel_rfl) hA 10 24 rfl rfl p10).trans (hG 10 rfl p10)
      have p11 : p 11 = true := hdep ⟨11, .data⟩ (by simp) rfl
      have x11 : a.tmps[25]?.getD undef = .int .i64 (i : Int) := (Y.AI_newT (n := 51) (by kernel_rfl) hA 11 25 rfl rfl p11).trans (hG 11 rfl p11)
      have hK' := hK _ rfl
      refine Y.stp hwn ?_
      go_simp
      exact hK'
    case hstep =>
     intro p val W a i' oi hpl hit hi hR hG hFF hdep hA K hK
     rcases i' with _ | _ | _ | _ | _ | _ | _ | _ | _ | _ | _ | _ | _ | _ | _ | _ | _ | i'
     ·exact absurd hpl (by decide)
     ·exact absurd hpl (by decide)
     ·exact absurd hpl (by decide)
     ·exact absurd hpl (by decide)
     ·exact absurd hpl (by decide)
     ·exact absurd hpl (by decide)
     ·exact absurd hpl (by decide)
     ·exact absurd hpl (by decide)
     ·obtain rfl := Option.some.inj hi
      have p4 : p 4 = true := hdep ⟨4, .guard⟩ (by simp) rfl
      have x18 : a.tmps[18]?.getD undef = .bool true := (Y.AI_newT (n := 51) (by kernel_rfl) hA 4 18 rfl rfl p4).trans (hG 4 rfl p4)
      have hwn : Region.wanted _ (yielded _ a.tmps) = true := Y.wnt (i := 8) (want := true) (b := true) hi 4 18 rfl rfl x18
      have p7 : p 7 = true := hdep ⟨7, .data⟩ (by simp) rfl
      have xp : a.tmps[21]?.getD undef = .pointer (some (ao.add j)) := (Y.AI_newT (n := 51) (by kernel_rfl) hA 7 21 rfl rfl p7).trans (hG 7 rfl p7)
      obtain ⟨ad, s, es, els, cs⟩ := Y.str_at (Kd.R_reads' hR.2.1).2.2 j HJL.out
      obtain rfl := Option.some.inj es
      have hz : s.size ≤ 8000 := HL.out.2 s (hR.2.2 s (List.mem_of_getElem? els))
      have hK' := hK _ W (Below.refl _ _) hR ⟨s, rfl, hz⟩
      refine Y.stp hwn ?_
      go_simp
      exact hK'
     ·obtain rfl := Option.some.inj hi
      have p4 : p 4 = true := hdep ⟨4, .guard⟩ (by simp) rfl
      have x18 : a.tmps[18]?.getD undef = .bool true := (Y.AI_newT (n := 51) (by kernel_rfl) hA 4 18 rfl rfl p4).trans (hG 4 rfl p4)
      have hwn : Region.wanted _ (yielded _ a.tmps) = true := Y.wnt (i := 9) (want := true) (b := true) hi 4 18 rfl rfl x18
      have p8 : p 8 = true := hdep ⟨8, .data⟩ (by simp) rfl
      obtain ⟨s, es, hz⟩ := hFF 8 rfl (by decide) p8
      have xs : a.tmps[22]?.getD undef = .string s := (Y.AI_newT (n := 51) (by kernel_rfl) hA 8 22 rfl rfl p8).trans (es)
      obtain ⟨kn, rn, hn⟩ := HNM.out s hz
      refine call_ 110 #[.string s] hwn rfl ?hrun ((Qr.calls kn s rn W hn).mono ?hpost)
      case hrun => go_simp
      case hpost =>
       rintro e w2 ⟨rfl, hb⟩
       exact ⟨_, rfl, hK _ w2 hb (Y.SO.below hR hb) ⟨rn, rfl⟩⟩
     ·exact absurd hpl (by decide)
     ·exact absurd hpl (by decide)
     ·exact absurd hpl (by decide)
     ·obtain rfl := Option.some.inj hi
      have p4 : p 4 = true := hdep ⟨4, .guard⟩ (by simp) rfl
      have x18 : a.tmps[18]?.getD undef = .bool true := (Y.AI_newT (n := 51) (by kernel_rfl) hA 4 18 rfl rfl p4).trans (hG 4 rfl p4)
      have hwn : Region.wanted _ (yielded _ a.tmps) = true := Y.wnt (i := 13) (want := true) (b := true) hi 4 18 rfl rfl x18
      have p12 : p 12 = true := hdep ⟨12, .data⟩ (by simp) rfl
      have xp : a.tmps[26]?.getD undef = .pointer (some (al.add i)) := (Y.AI_newT (n := 51) (by kernel_rfl) hA 12 26 rfl rfl p12).trans (hG 12 rfl p12)
      obtain ⟨ad, s, es, els, cs⟩ := Y.str_at (Kd.C_below HC.out.1 hR.1) i HIL.out
      obtain rfl := Option.some.inj es
      have hz : s.size ≤ 8000 := HL.out.2 s (List.mem_of_getElem? els)
      have hK' := hK _ W (Below.refl _ _) hR ⟨s, rfl, hz⟩
      refine Y.stp hwn ?_
      go_simp
      exact hK'
     ·obtain rfl := Option.some.inj hi
      have p4 : p 4 = true := hdep ⟨4, .guard⟩ (by simp) rfl
      have x18 : a.tmps[18]?.getD undef = .bool true := (Y.AI_newT (n := 51) (by kernel_rfl) hA 4 18 rfl rfl p4).trans (hG 4 rfl p4)
      have hwn : Region.wanted _ (yielded _ a.tmps) = true := Y.wnt (i := 14) (want := true) (b := true) hi 4 18 rfl rfl x18
      have p13 : p 13 = true := hdep ⟨13, .data⟩ (by simp) rfl
      obtain ⟨s, es, hz⟩ := hFF 13 rfl (by decide) p13
      have xs : a.tmps[27]?.getD undef = .string s := (Y.AI_newT (n := 51) (by kernel_rfl) hA 13 27 rfl rfl p13).trans (es)
      obtain ⟨kn, rn, hn⟩ := HNM.out s hz
      refine call_ 110 #[.string s] hwn rfl ?hrun ((Qr.calls kn s rn W hn).mono ?hpost)
      case hrun => go_simp
      case hpost =>
       rintro e w2 ⟨rfl, hb⟩
       exact ⟨_, rfl, hK _ w2 hb (Y.SO.below hR hb) ⟨rn, rfl⟩⟩
     ·obtain rfl := Option.some.inj hi
      have p4 : p 4 = true := hdep ⟨4, .guard⟩ (by simp) rfl
      have x18 : a.tmps[18]?.getD undef = .bool true := (Y.AI_newT (n := 51) (by kernel_rfl) hA 4 18 rfl rfl p4).trans (hG 4 rfl p4)
      have hwn : Region.wanted _ (yielded _ a.tmps) = true := Y.wnt (i := 15) (want := true) (b := true) hi 4 18 rfl rfl x18
      have p9 : p 9 = true := hdep ⟨9, .data⟩ (by simp) rfl
      have p14 : p 14 = true := hdep ⟨14, .data⟩ (by simp) rfl
      obtain ⟨s1, e1⟩ := hFF 9 rfl (by decide) p9
      obtain ⟨s2, e2⟩ := hFF 14 rfl (by decide) p14
      have x1 : a.tmps[23]?.getD undef = .string s1 := (Y.AI_newT (n := 51) (by kernel_rfl) hA 9 23 rfl rfl p9).trans (e1)
      have x2 : a.tmps[28]?.getD undef = .string s2 := (Y.AI_newT (n := 51) (by kernel_rfl) hA 14 28 rfl rfl p14).trans (e2)
      have hK' := hK (.bool (Op.bytesLess s1.toList s2.toList)) W (Below.refl _ _) hR ⟨_, rfl⟩
      refine Y.stp hwn ?_
      go_simp
      exact hK'
     ·obtain rfl := Option.some.inj hi
      have p4 : p 4 = true := hdep ⟨4, .data⟩ (by simp) rfl
      have p15 : p 15 = true := hdep ⟨15, .data⟩ (by simp) rfl
      obtain ⟨b, eb⟩ := hFF 15 rfl (by decide) p15
      have x4 : a.tmps[18]?.getD undef = .bool true := (Y.AI_newT (n := 51) (by kernel_rfl) hA 4 18 rfl rfl p4).trans (hG 4 rfl p4)
      have x15 : a.tmps[29]?.getD undef = .bool b := (Y.AI_newT (n := 51) (by kernel_rfl) hA 15 29 rfl rfl p15).trans (eb)
      have hK' := hK (.bool b) W (Below.refl _ _) hR ⟨b, rfl⟩
      refine Y.stp rfl ?_
      go_simp
      exact hK'
     ·exact absurd hi (by simp)
    case hmid =>
     intro val W hR hFF
     exact ⟨hR, hFF 16 (by decide) rfl (by decide)⟩
    case htail =>
     intro p val W a q i' oi hq hi hT hG hal htl hdep hA K hK
     exact absurd hq (by simp)
    case hfin =>
     intro p val W a hT hG hall hA
     obtain ⟨hR, b, e16⟩ := hT
     have x30 : a.tmps[30]?.getD undef = .bool b := (Y.AI_newT (n := 51) (by kernel_rfl) hA 16 30 rfl rfl (hall 16 (by decide))).trans e16
     go_wp2
     refine Met.intro ?_
     go_step
     (repeat apply Exists.intro)
     refine ⟨?rel, Y.AI_frame hA⟩
     case rel => exact ⟨b, (Y.AI_at 30 (by kernel_rfl)).trans x30, ⟨fun _ => HJL.out⟩, ⟨hR⟩⟩
   case rest =>
    obtain ⟨b, rfl, HB, HS2⟩ := hcut
    clear HS
    cases b
    case true =>
     have HJL := Aside0.mk (HB.out rfl)
     clear HB
     obtain ⟨gk, rfl⟩ : ∃ z, gk = z + 1 := ⟨gk - 1, by have := HJ.out; have := HJL.out; omega⟩
     have HW2 := Aside0.mk (show wrap64 ((j : Int) + 1) = ((j + 1 : Nat) : Int) from by have := HL.out.1; have := HI.out; have := HJL.out; unfold wrap64; omega)
     go_wp2
     go_roundg gk
     case measure => omega
     case rel => exact ⟨j + 1, by rw [HW2.out], ⟨by have := HJ.out; have := HJL.out; omega⟩, HS2⟩
    case false =>
     clear HB
     have p1 := eq_true (show (0 : Int) ≤ (j : Int) from by omega)
     have p2 := eq_true (show (j : Int) ≤ (out.length : Int) from by have := HJ.out; omega)
     have hco : out.length ≤ co := (Kd.R_reads' HS2.out.2.1).2.1
     have p3 := eq_true (show (j : Int) ≤ (co : Int) from by have := HJ.out; omega)
     have p4 := eq_true (show j ≤ co from by have := HJ.out; omega)
     have p5 := eq_true (show j ≤ out.length from HJ.out.1)
     clear hco
     have htj : (out.take j).length = j := by rw [List.length_take]; have := HJ.out; omega
     have HTJ := Aside0.mk htj
     clear htj
     go_upto_region 9 with (first | ((with_reducible refine gate_dst (N := 33) rfl ?_); refine Kd.R_lit Kd.string (w0 := wc) w.heap.size 9 ?hg (N := 33) ?hd (xs := ([] : List ByteArray)) (inner := []) (ok := fun _ => True) (okp := fun _ => False) ?hr ?hp (fun _ hk => hk.elim) trivial (Below.refl _ _) (below_size HS2.out.1) (by simp) ?_; (case hd => rfl); (case hg => rfl); (case hr => first | (go_simp; done) | (go_simp; rfl)); (case hp => exact (Reps.none _ _)); intro v33 w2 ho hb hg hnew; generalize hn0 : ([] : List ByteArray) = n0 at ho; obtain ⟨An, cn, e33⟩ := Kd.R_slice ho; subst e33; have hbn := Y.below_none hg; have HX := Aside0.mk (show Y.SX w w2 l (.slice Ao out.length co) out (.slice An n0.length cn) n0 from ⟨Y.SO.below HS2.out hbn, ho, Kd.R_elder' (v := .slice An n0.length cn) HS2.out.2.1 (fun k hk => by obtain ⟨b, e, h⟩ := hnew; rw [e] at hk; injection hk with hk; omega) hbn⟩); have HN0 := Aside0.mk (show n0 = [] from hn0.symm); clear ho hb hg hnew hn0 hbn HS2) | (at_builtin; refine Kd.R_append_rows Kd.string (w0 := w2) w.heap.size rfl (.tmp 33) (.tmp 36) 39 9 (.string ⟨#[]⟩) 16 rfl Tryz.underlying39 info9 rfl (by decide) (by omega) _ n0 (out.take j) _ _ _ (fun _ => True) (fun _ => False) rfl rfl HX.out.2.1 (show Kd.C Kd.string w2 Ao j (out.take j) from by have h := Kd.C_take (m := j) (Kd.R_reads' HX.out.1.2.1).2.2 HJ.out.1; rwa [HTJ.out] at h) (fun _ _ h => h) (fun _ h => h.elim) (fun _ _ => trivial) (Below.refl _ _) (below_size HX.out.1.1) (by have := HL.out.1; have := HI.out; have := HJ.out; have : n0.length = 0 := congrArg List.length HN0.out; omega) ?_; intro vA w3 ho hb hg hat; generalize hl2 : n0 ++ (out.take j) = n1 at ho; obtain ⟨A1, d1, eA⟩ := Kd.R_slice ho; subst eA; have HN1 := Aside0.mk hl2; have HX2 := Aside0.mk (Y.SX.app HX.out ho hb hg hat); clear ho hb hg hat hl2 HX))
     have HLN1 := Aside0.mk (show n1.length = j from by rw [← HN1.out, HN0.out, List.nil_append]; exact HTJ.out)
     obtain ⟨al, s, eA, els, cs⟩ := Y.str_at (Kd.C_below HC.out.1 HX2.out.1.1) i HIL.out
     subst eA
     have HES := Aside0.mk els
     clear els
     have q1 := eq_true (show (0 : Int) ≤ (i : Int) from by omega)
     have q2 := eq_true (show (i : Int) < (l.length : Int) from by have := HIL.out; omega)
     have q3 := eq_true HIL.out
     go_upto_region 10 with (at_builtin; refine Kd.R_append Kd.string (w0 := w3) w.heap.size rfl (.tmp 38) (.tmp 43) 39 9 (.string ⟨#[]⟩) 16 rfl Tryz.underlying39 info9 rfl (by decide) (by omega) (.slice A1 n1.length d1) n1 s [.string s] (fun _ => True) (fun _ => False) rfl rfl rfl (fun _ h => h.elim) (fun _ _ => trivial) HX2.out.2.1 (Below.refl _ _) (below_size HX2.out.1.1) (by have := HLN1.out; have := HL.out.1; have := HI.out; have := HJ.out; omega) ?_; intro vA w4 ho hb hg hat; generalize hl2 : n1 ++ [s] = n2 at ho; obtain ⟨A2, d2, eA⟩ := Kd.R_slice ho; subst eA; have HN2 := Aside0.mk hl2; have HX3 := Aside0.mk (Y.SX.app HX2.out ho hb hg hat); clear ho hb hg hat hl2 HX2)
     have HLN2 := Aside0.mk (show n2.length = j + 1 from by rw [← HN2.out, List.length_append]; have := HLN1.out; simp; omega)
     by_cases hcj : co = j
     case pos =>
      obtain rfl := hcj.symm
      go_wp2_with (at_builtin; refine Kd.R_append_rows Kd.string (w0 := w4) w.heap.size rfl (.tmp 45) (.tmp 48) 39 9 (.string ⟨#[]⟩) 16 rfl Tryz.underlying39 info9 rfl (by decide) (by omega) _ n2 (out.drop j) _ _ _ (fun _ => True) (fun _ => False) rfl rfl HX3.out.2.1 (show Kd.C Kd.string w4 Ao (out.length - j) (out.drop j) from by have h := Kd.C_drop (m := j) (c := j) (Kd.R_reads' HX3.out.1.2.1).2.2 HJ.out.1 (Kd.R_reads' HX3.out.1.2.1).2.1; rw [List.length_drop] at h; rw [if_pos rfl] at h; exact h) (fun _ _ h => h) (fun _ h => h.elim) (fun _ _ => trivial) (Below.refl _ _) (below_size HX3.out.1.1) (by have := HLN2.out; have := HL.out.1; have := HI.out; have := HJ.out; omega) ?_; intro vA w5 ho hb hg hat; generalize hl2 : n2 ++ (out.drop j) = n3 at ho; obtain ⟨A3, d3, eA⟩ := Kd.R_slice ho; subst eA; have HN3 := Aside0.mk hl2; have HX4 := Aside0.mk (Y.SX.app HX3.out ho hb hg hat); clear ho hb hg hat hl2 HX3)
      have HLN3 := Aside0.mk (show n3.length = n2.length + (out.length - j) from by rw [← HN3.out, List.length_append, List.length_drop])
      go_roundg gq
      case measure => omega
      case rel => exact ⟨i + 1, n3, A3, d3, rfl, by rw [HW.out], ⟨by have := HI.out; have := HIL.out; have := HJ.out; have := HLN2.out; have := HLN3.out; omega⟩, ⟨HX4.out.1.1, HX4.out.2.1, fun x hx => by rw [← HN3.out, ← HN2.out, ← HN1.out, HN0.out] at hx; simp only [List.nil_append, List.mem_append, List.mem_singleton] at hx; rcases hx with (h | h) | h; exact HX4.out.1.2.2 x (List.mem_of_mem_take h); rw [h]; exact List.mem_of_getElem? HES.out; exact HX4.out.1.2.2 x (List.mem_of_mem_drop h)⟩⟩
     have hcj2 : ¬ ((co : Int) = (j : Int)) := fun e => hcj (by omega)
     rcases Ao with _ | ao
     ·go_wp2_with (at_builtin; refine Kd.R_append_rows Kd.string (w0 := w4) w.heap.size rfl (.tmp 45) (.tmp 48) 39 9 (.string ⟨#[]⟩) 16 rfl Tryz.underlying39 info9 rfl (by decide) (by omega) _ n2 (out.drop j) _ _ _ (fun _ => True) (fun _ => False) rfl rfl HX3.out.2.1 (show Kd.C Kd.string w4 none (out.length - j) (out.drop j) from by have h := Kd.C_drop (m := j) (c := co) (Kd.R_reads' HX3.out.1.2.1).2.2 HJ.out.1 (Kd.R_reads' HX3.out.1.2.1).2.1; rw [List.length_drop] at h; simpa [hcj] using h) (fun _ _ h => h) (fun _ h => h.elim) (fun _ _ => trivial) (Below.refl _ _) (below_size HX3.out.1.1) (by have := HLN2.out; have := HL.out.1; have := HI.out; have := HJ.out; omega) ?_; intro vA w5 ho hb hg hat; generalize hl2 : n2 ++ (out.drop j) = n3 at ho; obtain ⟨A3, d3, eA⟩ := Kd.R_slice ho; subst eA; have HN3 := Aside0.mk hl2; have HX4 := Aside0.mk (Y.SX.app HX3.out ho hb hg hat); clear ho hb hg hat hl2 HX3)
      have HLN3 := Aside0.mk (show n3.length = n2.length + (out.length - j) from by rw [← HN3.out, List.length_append, List.length_drop])
      go_roundg gq
      case measure => omega
      case rel => exact ⟨i + 1, n3, A3, d3, rfl, by rw [HW.out], ⟨by have := HI.out; have := HIL.out; have := HJ.out; have := HLN2.out; have := HLN3.out; omega⟩, ⟨HX4.out.1.1, HX4.out.2.1, fun x hx => by rw [← HN3.out, ← HN2.out, ← HN1.out, HN0.out] at hx; simp only [List.nil_append, List.mem_append, List.mem_singleton] at hx; rcases hx with (h | h) | h; exact HX4.out.1.2.2 x (List.mem_of_mem_take h); rw [h]; exact List.mem_of_getElem? HES.out; exact HX4.out.1.2.2 x (List.mem_of_mem_drop h)⟩⟩
     go_wp2_with (at_builtin; refine Kd.R_append_rows Kd.string (w0 := w4) w.heap.size rfl (.tmp 45) (.tmp 48) 39 9 (.string ⟨#[]⟩) 16 rfl Tryz.underlying39 info9 rfl (by decide) (by omega) _ n2 (out.drop j) _ _ _ (fun _ => True) (fun _ => False) rfl rfl HX3.out.2.1 (show Kd.C Kd.string w4 (some (ao.add j)) (out.length - j) (out.drop j) from by have h := Kd.C_drop (m := j) (c := co) (Kd.R_reads' HX3.out.1.2.1).2.2 HJ.out.1 (Kd.R_reads' HX3.out.1.2.1).2.1; rw [List.length_drop] at h; simpa [hcj, Kd.string, Kd.scalar] using h) (fun _ _ h => h) (fun _ h => h.elim) (fun _ _ => trivial) (Below.refl _ _) (below_size HX3.out.1.1) (by have := HLN2.out; have := HL.out.1; have := HI.out; have := HJ.out; omega) ?_; intro vA w5 ho hb hg hat; generalize hl2 : n2 ++ (out.drop j) = n3 at ho; obtain ⟨A3, d3, eA⟩ := Kd.R_slice ho; subst eA; have HN3 := Aside0.mk hl2; have HX4 := Aside0.mk (Y.SX.app HX3.out ho hb hg hat); clear ho hb hg hat hl2 HX3)
     have HLN3 := Aside0.mk (show n3.length = n2.length + (out.length - j) from by rw [← HN3.out, List.length_append, List.length_drop])
     go_roundg gq
     case measure => omega
     case rel => exact ⟨i + 1, n3, A3, d3, rfl, by rw [HW.out], ⟨by have := HI.out; have := HIL.out; have := HJ.out; have := HLN2.out; have := HLN3.out; omega⟩, ⟨HX4.out.1.1, HX4.out.2.1, fun x hx => by rw [← HN3.out, ← HN2.out, ← HN1.out, HN0.out] at hx; simp only [List.nil_append, List.mem_append, List.mem_singleton] at hx; rcases hx with (h | h) | h; exact HX4.out.1.2.2 x (List.mem_of_mem_take h); rw [h]; exact List.mem_of_getElem? HES.out; exact HX4.out.1.2.2 x (List.mem_of_mem_drop h)⟩⟩
def IsS112 (w0 W : World) (g : Nat) (f0 : List Int) (f1 : Int) (f2 : Int) (f3 : Int) : Prop := ∃ A0 c0, W.heap[g]? = some (.cells #[.slice A0 f0.length c0, .int .i64 f1, .int .u64 f2, .int .i64 f3] 112 (0, 0)) ∧ w0.heap.size ≤ g ∧ Kd.C (Kd.int .u8) w0 A0 f0.length f0
theorem IsS112.grown {w0 W : World} {g : Nat} {f0 : List Int} {f1 : Int} {f2 : Int} {f3 : Int} {W1 : World} {row : Option Nat} (h : IsS112 w0 W g f0 f1 f2 f3) (hw : W.grownBy W1 row) (hne : some g ≠ row) : IsS112 w0 W1 g f0 f1 f2 f3 := by
 obtain ⟨A0, c0, hb, hg, hr0⟩ := h
 exact ⟨A0, c0, blk_grown hb hw hne, hg, hr0⟩
theorem IsS112.own_neN {w0 W : World} {g : Nat} {f0 : List Int} {f1 : Int} {f2 : Int} {f3 : Int} {α : Type} {d : Kd α} {e : Nat} {base : Nat} {ok : Nat → Prop} {v : Value} {xs : List α} (h : IsS112 w0 W g f0 f1 f2 f3) (ho : Kd.N d e W base ok v xs) (ht : e ≠ 112) : some g ≠ v.ownBlock := by
 obtain ⟨A0, c0, hb, hg, hr0⟩ := h
 exact Kd.N_ne ho hb ht
theorem IsS112.fresh {w0 W : World} {g : Nat} {f0 : List Int} {f1 : Int} {f2 : Int} {f3 : Int} (h : IsS112 w0 W g f0 f1 f2 f3) : ∀ k, W.heap.size ≤ k → k ≠ g := by
 obtain ⟨A0, c0, hb, hg, hr0⟩ := h
 exact Kd.freshB hb
theorem IsS112.kept {w0 W : World} {g : Nat} {f0 : List Int} {f1 : Int} {f2 : Int} {f3 : Int} {W1 : World} {S : Nat → Prop} (h : IsS112 w0 W g f0 f1 f2 f3) (hk : Kept W W1 S) (hne : ¬ S g) : IsS112 w0 W1 g f0 f1 f2 f3 := by
 obtain ⟨A0, c0, hb, hg, hr0⟩ := h
 exact ⟨A0, c0, blk_kept hb hk hne, hg, hr0⟩
theorem IsS112.below {w0 W : World} {g : Nat} {f0 : List Int} {f1 : Int} {f2 : Int} {f3 : Int} {W1 : World} (h : IsS112 w0 W g f0 f1 f2 f3) (hw : Below W.heap.size W W1) : IsS112 w0 W1 g f0 f1 f2 f3 := h.grown (grown_of_below hw none) (by simp)
theorem IsS112.alloc {w0 W : World} {g : Nat} {f0 : List Int} {f1 : Int} {f2 : Int} {f3 : Int} (h : IsS112 w0 W g f0 f1 f2 f3) (o : Obj) : IsS112 w0 (W.alloc o) g f0 f1 f2 f3 := h.below (below_alloc (Below.refl _ _) o)
theorem IsS112.drewN {w0 W : World} {g : Nat} {f0 : List Int} {f1 : Int} {f2 : Int} {f3 : Int} (h : IsS112 w0 W g f0 f1 f2 f3) (m : Nat) : IsS112 w0 (W.drewN m) g f0 f1 f2 f3 := h
theorem IsS112.drew {w0 W : World} {g : Nat} {f0 : List Int} {f1 : Int} {f2 : Int} {f3 : Int} (h : IsS112 w0 W g f0 f1 f2 f3) : IsS112 w0 W.drew g f0 f1 f2 f3 := h
theorem IsS112.at_ {w0 W : World} {g : Nat} {f0 : List Int} {f1 : Int} {f2 : Int} {f3 : Int} {w' : World} {m : Nat} (hq : W.drewN m = w') (h : IsS112 w0 W g f0 f1 f2 f3) : IsS112 w0 w' g f0 f1 f2 f3 := by subst hq; exact IsS112.drewN h m
theorem IsS112.apart {w0 W : World} {g : Nat} {f0 : List Int} {f1 : Int} {f2 : Int} {f3 : Int} {α : Type} {d : Kd α} {e : Nat} {base : Nat} {ok : Nat → Prop} {v : Value} {xs : List α} (h : IsS112 w0 W g f0 f1 f2 f3) (ho : d.R e W base ok v xs) (ht : ∀ q, q ∈ e :: d.E → q ≠ 112) : d.R e W base (fun k => ok k ∧ k ≠ g) v xs := by
 obtain ⟨A0, c0, hb, hg, hr0⟩ := h
 exact Kd.R_types ho hb ht
theorem IsS112.own_ne {w0 W : World} {g : Nat} {f0 : List Int} {f1 : Int} {f2 : Int} {f3 : Int} {α : Type} {d : Kd α} {e : Nat} {base : Nat} {ok : Nat → Prop} {v : Value} {xs : List α} (h : IsS112 w0 W g f0 f1 f2 f3) (ho : d.R e W base ok v xs) (ht : e ≠ 112) : some g ≠ v.ownBlock := by
 obtain ⟨A0, c0, hb, hg, hr0⟩ := h
 exact Kd.R_ne ho hb ht
theorem IsS112.apartQ {w0 W : World} {g : Nat} {f0 : List Int} {f1 : Int} {f2 : Int} {f3 : Int} {α : Type} {d : Kd α} {e : Nat} {base : Nat} {ok : Nat → Prop} {v : Value} {xs : List α} (h : IsS112 w0 W g f0 f1 f2 f3) (ho : d.Q e W base ok v xs) (ht : ∀ q, q ∈ e :: d.E → q ≠ 112) : d.Q e W base (fun k => ok k ∧ k ≠ g) v xs := by
 obtain ⟨A0, c0, hb, hg, hr0⟩ := h
 exact Kd.Q_types ho hb ht
theorem IsS112.own_neQ {w0 W : World} {g : Nat} {f0 : List Int} {f1 : Int} {f2 : Int} {f3 : Int} {α : Type} {d : Kd α} {e : Nat} {base : Nat} {ok : Nat → Prop} {v : Value} {xs : List α} (h : IsS112 w0 W g f0 f1 f2 f3) (ho : d.Q e W base ok v xs) (ht : e ≠ 112) : some g ≠ v.ownBlock := by
 obtain ⟨A0, c0, hb, hg, hr0⟩ := h
 exact Kd.Q_ne ho hb ht
theorem IsS112.apartS {w0 W : World} {g : Nat} {f0 : List Int} {f1 : Int} {f2 : Int} {f3 : Int} {α : Type} {d : Kd α} {e : Nat} {base : Nat} {ok : Nat → Prop} {v : Value} {xs : List α} (h : IsS112 w0 W g f0 f1 f2 f3) (ho : d.S e W base ok v xs) (ht : ∀ q, q ∈ e :: d.E → q ≠ 112) : d.S e W base (fun k => ok k ∧ k ≠ g) v xs := by
 obtain ⟨A0, c0, hb, hg, hr0⟩ := h
 exact Kd.S_types ho hb ht
theorem IsS112.own_neS {w0 W : World} {g : Nat} {f0 : List Int} {f1 : Int} {f2 : Int} {f3 : Int} {α : Type} {d : Kd α} {e : Nat} {base : Nat} {ok : Nat → Prop} {v : Value} {xs : List α} (h : IsS112 w0 W g f0 f1 f2 f3) (ho : d.S e W base ok v xs) (ht : e ≠ 112) : some g ≠ v.ownBlock := by
 obtain ⟨A0, c0, hb, hg, hr0⟩ := h
 exact Kd.S_ne ho hb ht
theorem IsS112.lt {w0 W : World} {g : Nat} {f0 : List Int} {f1 : Int} {f2 : Int} {f3 : Int} (h : IsS112 w0 W g f0 f1 f2 f3) : g < W.heap.size := by
 obtain ⟨A0, c0, hb, hg, hr0⟩ := h
 exact blk_lt hb
theorem IsS112.ge {w0 W : World} {g : Nat} {f0 : List Int} {f1 : Int} {f2 : Int} {f3 : Int} (h : IsS112 w0 W g f0 f1 f2 f3) : w0.heap.size ≤ g := by
 obtain ⟨A0, c0, hb, hg, hr0⟩ := h
 exact hg
theorem IsS112.ne_blk {w0 W : World} {g : Nat} {f0 : List Int} {f1 : Int} {f2 : Int} {f3 : Int} {a : Nat} {cs : Array Value} {t : TypeId} {fr : Nat × Nat} (h : IsS112 w0 W g f0 f1 f2 f3) (hb2 : W.heap[a]? = some (.cells cs t fr)) (ht : t ≠ 112) : g ≠ a := by
 obtain ⟨A0, c0, hb, hg, hr0⟩ := h
 rintro rfl
 rw [hb] at hb2
 injection hb2 with hb2
 injection hb2 with _ ht2
 exact ht ht2.symm
theorem IsS112.far {w0 W : World} {g : Nat} {f0 : List Int} {f1 : Int} {f2 : Int} {f3 : Int} {p : Addr} (h : IsS112 w0 W g f0 f1 f2 f3) (hne : g ≠ p.block) (u : Value) : IsS112 w0 (W.setCell p u) g f0 f1 f2 f3 := by
 obtain ⟨A0, c0, hb, hg, hr0⟩ := h
 exact ⟨A0, c0, blk_far hb hne u, hg, hr0⟩
theorem cellS112_0 {W : World} {g : Nat} {A0 : Option Addr} {c0 : Nat} {f0 : List Int} {f1 : Int} {f2 : Int} {f3 : Int} (h : W.heap[g]? = some (.cells #[.slice A0 f0.length c0, .int .i64 f1, .int .u64 f2, .int .i64 f3] 112 (0, 0))) : W.cell? ⟨g, 0, none⟩ = some (.slice A0 f0.length c0) := (blk_cell h 0).trans rfl
theorem cellS112_1 {W : World} {g : Nat} {A0 : Option Addr} {c0 : Nat} {f0 : List Int} {f1 : Int} {f2 : Int} {f3 : Int} (h : W.heap[g]? = some (.cells #[.slice A0 f0.length c0, .int .i64 f1, .int .u64 f2, .int .i64 f3] 112 (0, 0))) : W.cell? ⟨g, 1, none⟩ = some (.int .i64 f1) := (blk_cell h 1).trans rfl
theorem IsS112.set_1 {w0 W : World} {g : Nat} {f0 : List Int} {f1 : Int} {f2 : Int} {f3 : Int} (h : IsS112 w0 W g f0 f1 f2 f3) (x : Int) : IsS112 w0 (W.setCell ⟨g, 1, none⟩ (.int .i64 x)) g f0 x f2 f3 := by
 obtain ⟨A0, c0, hb, hg, hr0⟩ := h
 exact ⟨A0, c0, by simpa using blk_set hb 1 (.int .i64 x), hg, hr0⟩
theorem cellS112_2 {W : World} {g : Nat} {A0 : Option Addr} {c0 : Nat} {f0 : List Int} {f1 : Int} {f2 : Int} {f3 : Int} (h : W.heap[g]? = some (.cells #[.slice A0 f0.length c0, .int .i64 f1, .int .u64 f2, .int .i64 f3] 112 (0, 0))) : W.cell? ⟨g, 2, none⟩ = some (.int .u64 f2) := (blk_cell h 2).trans rfl
theorem IsS112.set_2 {w0 W : World} {g : Nat} {f0 : List Int} {f1 : Int} {f2 : Int} {f3 : Int} (h : IsS112 w0 W g f0 f1 f2 f3) (x : Int) : IsS112 w0 (W.setCell ⟨g, 2, none⟩ (.int .u64 x)) g f0 f1 x f3 := by
 obtain ⟨A0, c0, hb, hg, hr0⟩ := h
 exact ⟨A0, c0, by simpa using blk_set hb 2 (.int .u64 x), hg, hr0⟩
theorem cellS112_3 {W : World} {g : Nat} {A0 : Option Addr} {c0 : Nat} {f0 : List Int} {f1 : Int} {f2 : Int} {f3 : Int} (h : W.heap[g]? = some (.cells #[.slice A0 f0.length c0, .int .i64 f1, .int .u64 f2, .int .i64 f3] 112 (0, 0))) : W.cell? ⟨g, 3, none⟩ = some (.int .i64 f3) := (blk_cell h 3).trans rfl
theorem IsS112.set_3 {w0 W : World} {g : Nat} {f0 : List Int} {f1 : Int} {f2 : Int} {f3 : Int} (h : IsS112 w0 W g f0 f1 f2 f3) (x : Int) : IsS112 w0 (W.setCell ⟨g, 3, none⟩ (.int .i64 x)) g f0 f1 f2 x := by
 obtain ⟨A0, c0, hb, hg, hr0⟩ := h
 exact ⟨A0, c0, by simpa using blk_set hb 3 (.int .i64 x), hg, hr0⟩
theorem IsS112.new (w0 W : World) (A0 : Option Addr) (c0 : Nat) (f0 : List Int) (f1 : Int) (f2 : Int) (f3 : Int) (hB : Below w0.heap.size w0 W) (hr0 : Kd.C (Kd.int .u8) w0 A0 f0.length f0) : IsS112 w0 (W.alloc (.cells #[.slice A0 f0.length c0, .int .i64 f1, .int .u64 f2, .int .i64 f3] 112)) W.heap.size f0 f1 f2 f3 := ⟨A0, c0, by simpa using heap_alloc_new W _, hB.size, hr0⟩
def Qu.f (s0_0 : List Int) (s0_1 : Int) (s0_2 : Int) (s0_3 : Int) (a1 : Int) : Option (Int × Int × Int × Int) := if a1 ≤ 1 then (some (0, s0_1, s0_2, s0_3)) else (if s0_1 < (s0_0.length : Int) then (if 0 ≤ s0_1 then (if (IntKind.u64.wrap (a1)) = 0 then (none) else (some (wrap64 (Int.tmod (IntKind.u64.wrap ((IntKind.u64.wrap (rd s0_0 s0_1)) + ((Go.bits .xor .u64 (Go.bits .xor .u64 (Go.bits .xor .u64 s0_2 (IntKind.u64.wrap (s0_2 * 8192))) ((Go.bits .xor .u64 s0_2 (IntKind.u64.wrap (s0_2 * 8192))) / 128)) (IntKind.u64.wrap ((Go.bits .xor .u64 (Go.bits .xor .u64 s0_2 (IntKind.u64.wrap (s0_2 * 8192))) ((Go.bits .xor .u64 s0_2 (IntKind.u64.wrap (s0_2 * 8192))) / 128)) * 131072))) / 1048576))) (IntKind.u64.wrap (a1))), wrap64 (s0_1 + 1), Go.bits .xor .u64 (Go.bits .xor .u64 (Go.bits .xor .u64 s0_2 (IntKind.u64.wrap (s0_2 * 8192))) ((Go.bits .xor .u64 s0_2 (IntKind.u64.wrap (s0_2 * 8192))) / 128)) (IntKind.u64.wrap ((Go.bits .xor .u64 (Go.bits .xor .u64 s0_2 (IntKind.u64.wrap (s0_2 * 8192))) ((Go.bits .xor .u64 s0_2 (IntKind.u64.wrap (s0_2 * 8192))) / 128)) * 131072)), s0_3))) else (none)) else (if (IntKind.u64.wrap (a1)) = 0 then (none) else (some (wrap64 (Int.tmod (IntKind.u64.wrap (0 + ((Go.bits .xor .u64 (Go.bits .xor .u64 (Go.bits .xor .u64 s0_2 (IntKind.u64.wrap (s0_2 * 8192))) ((Go.bits .xor .u64 s0_2 (IntKind.u64.wrap (s0_2 * 8192))) / 128)) (IntKind.u64.wrap ((Go.bits .xor .u64 (Go.bits .xor .u64 s0_2 (IntKind.u64.wrap (s0_2 * 8192))) ((Go.bits .xor .u64 s0_2 (IntKind.u64.wrap (s0_2 * 8192))) / 128)) * 131072))) / 1048576))) (IntKind.u64.wrap (a1))), s0_1, Go.bits .xor .u64 (Go.bits .xor .u64 (Go.bits .xor .u64 s0_2 (IntKind.u64.wrap (s0_2 * 8192))) ((Go.bits .xor .u64 s0_2 (IntKind.u64.wrap (s0_2 * 8192))) / 128)) (IntKind.u64.wrap ((Go.bits .xor .u64 (Go.bits .xor .u64 s0_2 (IntKind.u64.wrap (s0_2 * 8192))) ((Go.bits .xor .u64 s0_2 (IntKind.u64.wrap (s0_2 * 8192))) / 128)) * 131072)), s0_3))))
theorem Qu.calls (g : Nat) (s0_0 : List Int) (s0_1 : Int) (s0_2 : Int) (s0_3 : Int) (a1 : Int) (r1 : Int) (r2 : Int) (r3 : Int) (r4 : Int) (w0 w : World) (hI : IsS112 w0 w g s0_0 s0_1 s0_2 s0_3) (hB : Below w0.heap.size w0 w) (h : Qu.f s0_0 s0_1 s0_2 s0_3 a1 = some (r1, r2, r3, r4)) :
  Calls Tryz.prog 51 #[.pointer (some ⟨g, 0, none⟩), .int .i64 a1] w fun e w' => e = .returned (.int .i64 r1) ∧ IsS112 w0 w' g s0_0 r2 r3 r4 ∧ Below w0.heap.size w0 w' ∧ KeepBut w w' g none := by
 obtain ⟨A0, c0, hb, hg, hC⟩ := hI
 unfold Qu.f at h
 have hI : IsS112 w0 w g s0_0 s0_1 s0_2 s0_3 := ⟨A0, c0, hb, hg, hC⟩
 have hu := Tryz.underlying112
 by_cases hm : a1 ≤ 1
 ·rw [if_pos hm] at h; simp only [Option.some.injEq, Prod.mk.injEq] at h; obtain ⟨rfl, rfl, rfl, rfl⟩ := h
  have hd : decide (a1 ≤ 1) = true := decide_eq_true hm
  go_enter Tryz.func51, Tryz.ntmps51
  go_wp2
  go_ret
  exact ⟨rfl, hI, hB, KeepBut.refl _ _ _⟩
 rw [if_neg hm] at h
 have hd : decide (a1 ≤ 1) = false := decide_eq_false hm
 have hc0 : w.cell? ⟨g, 0, none⟩ = some (.slice A0 s0_0.length c0) := (blk_cell hb 0).trans rfl
 have hc1 : w.cell? ⟨g, 1, none⟩ = some (.int .i64 s0_1) := (blk_cell hb 1).trans rfl
 have hc2 : w.cell? ⟨g, 2, none⟩ = some (.int .u64 s0_2) := (blk_cell hb 2).trans rfl
 have hf1 := blk_frozen hb 1
 have hf2 := blk_frozen hb 2
 by_cases hl : s0_1 < (s0_0.length : Int)
 rotate_left
 ·rw [if_neg hl] at h
  have hdl : decide (s0_1 < (s0_0.length : Int)) = false := decide_eq_false hl
  by_cases hz : IntKind.u64.wrap a1 = 0
  ·rw [if_pos hz] at h; cases h
  rw [if_neg hz] at h
  have hzb : (IntKind.u64.wrap a1 == 0) = false := beq_eq_false_iff_ne.2 hz
  go_enter Tryz.func51, Tryz.ntmps51
  go_wp2
  go_quiet (fail)
  go_wp2
  go_region
  go_wp2
  have hI7 := IsS112.set_2 (IsS112.drewN hI (nq + 1)) (Go.bits .xor .u64 s0_2 (IntKind.u64.wrap (s0_2 * 8192)))
  have hB7 := below_set (j := 2) (v := .int .u64 (Go.bits .xor .u64 s0_2 (IntKind.u64.wrap (s0_2 * 8192)))) (pw_below_drewN hB (nq + 1)) hg
  have hK7 := KeepBut.set_ (keep_drewN (KeepBut.refl w g none) (nq + 1)) 2 (.int .u64 (Go.bits .xor .u64 s0_2 (IntKind.u64.wrap (s0_2 * 8192))))
  generalize Go.bits .xor .u64 s0_2 (IntKind.u64.wrap (s0_2 * 8192)) = m1 at h hI7 hB7 hK7 ⊢
  generalize (w.drewN (nq + 1)).setCell ⟨g, 2, none⟩ (.int .u64 m1) = w1 at hI7 hB7 hK7 ⊢
  obtain ⟨A7, d7, b7, _, _⟩ := id hI7
  have hz7 : w1.cell? ⟨g, 2, none⟩ = some (.int .u64 m1) := (blk_cell b7 2).trans rfl
  have hf7 := blk_frozen b7 2
  go_region
  go_wp2
  have hI8 := IsS112.drew (IsS112.set_2 hI7 (Go.bits .xor .u64 m1 (m1 / 128)))
  have hB8 := below_drew1 (below_set (j := 2) (v := .int .u64 (Go.bits .xor .u64 m1 (m1 / 128))) hB7 hg)
  have hK8 := keep_drew (KeepBut.set_ hK7 2 (.int .u64 (Go.bits .xor .u64 m1 (m1 / 128))))
  generalize Go.bits .xor .u64 m1 (m1 / 128) = m2 at h hI8 hB8 hK8 ⊢
  generalize (w1.setCell ⟨g, 2, none⟩ (.int .u64 m2)).drew = w2 at hI8 hB8 hK8 ⊢
  obtain ⟨A8, d8, b8, _, _⟩ := id hI8
  have hz8 : w2.cell? ⟨g, 2, none⟩ = some (.int .u64 m2) := (blk_cell b8 2).trans rfl
  have hf8 := blk_frozen b8 2
  go_region
  go_wp2
  have hI9 := IsS112.drew (IsS112.set_2 hI8 (Go.bits .xor .u64 m2 (IntKind.u64.wrap (m2 * 131072))))
  have hB9 := below_drew1 (below_set (j := 2) (v := .int .u64 (Go.bits .xor .u64 m2 (IntKind.u64.wrap (m2 * 131072)))) hB8 hg)
  have hK9 := keep_drew (KeepBut.set_ hK8 2 (.int .u64 (Go.bits .xor .u64 m2 (IntKind.u64.wrap (m2 * 131072)))))
  generalize Go.bits .xor .u64 m2 (IntKind.u64.wrap (m2 * 131072)) = m3 at h hI9 hB9 hK9 ⊢
  generalize (w2.setCell ⟨g, 2, none⟩ (.int .u64 m3)).drew = w3 at hI9 hB9 hK9 ⊢
  obtain ⟨A9, d9, b9, _, _⟩ := id hI9
  have hz9 : w3.cell? ⟨g, 2, none⟩ = some (.int .u64 m3) := (blk_cell b9 2).trans rfl
  have hf9 := blk_frozen b9 2
  simp only [Option.some.injEq, Prod.mk.injEq] at h
  obtain ⟨hr, rfl, rfl, rfl⟩ := h
  go_wp2
  go_ret
  rw [Int.zero_add] at hr
  exact ⟨by rw [← hr]; rfl, hI9, hB9, hK9⟩
 rw [if_pos hl] at h
 have hdl : decide (s0_1 < (s0_0.length : Int)) = true := decide_eq_true hl
 by_cases hp : 0 ≤ s0_1
 case neg => rw [if_neg hp] at h; cases h
 rw [if_pos hp] at h
 by_cases hz : IntKind.u64.wrap a1 = 0
 ·rw [if_pos hz] at h; cases h
 rw [if_neg hz] at h
 have hzb : (IntKind.u64.wrap a1 == 0) = false := beq_eq_false_iff_ne.2 hz
 obtain ⟨ad, rfl, hx0⟩ := Kd.at_int hC s0_1 hp hl
 have hx : w.cell? (ad.add s0_1.toNat) = some (.int .u8 (rd s0_0 s0_1)) := pw_cell_below hB hx0
 have hpt := eq_true hp
 have hlt := eq_true hl
 go_enter Tryz.func51, Tryz.ntmps51
 go_wp2
 go_quiet (fail)
 go_wp2
 go_quiet (fail)
 go_wp2
 generalize hq_ : World.drewN w _ = w5
 have hI5 : IsS112 w0 w5 g s0_0 s0_1 s0_2 s0_3 := by rw [← hq_]; exact IsS112.drewN hI _
 have hB5 : Below w0.heap.size w0 w5 := by rw [← hq_]; exact pw_below_drewN hB _
 have hK5 : KeepBut w w5 g none := by rw [← hq_]; exact keep_drewN (KeepBut.refl w g none) _
 clear hq_
 have hI6 := IsS112.set_1 hI5 (wrap64 (s0_1 + 1))
 have hB6 := below_set (j := 1) (v := .int .i64 (wrap64 (s0_1 + 1))) hB5 hg
 have hK6 := KeepBut.set_ hK5 1 (.int .i64 (wrap64 (s0_1 + 1)))
 generalize w5.setCell ⟨g, 1, none⟩ (.int .i64 (wrap64 (s0_1 + 1))) = w6 at hI6 hB6 hK6 ⊢
 obtain ⟨A6, d6, b6, _, _⟩ := id hI6
 have hz6 : w6.cell? ⟨g, 2, none⟩ = some (.int .u64 s0_2) := (blk_cell b6 2).trans rfl
 have hf6 := blk_frozen b6 2
 go_region
 go_wp2
 have hI7 := IsS112.drew (IsS112.set_2 hI6 (Go.bits .xor .u64 s0_2 (IntKind.u64.wrap (s0_2 * 8192))))
 have hB7 := below_drew1 (below_set (j := 2) (v := .int .u64 (Go.bits .xor .u64 s0_2 (IntKind.u64.wrap (s0_2 * 8192)))) hB6 hg)
 have hK7 := keep_drew (KeepBut.set_ hK6 2 (.int .u64 (Go.bits .xor .u64 s0_2 (IntKind.u64.wrap (s0_2 * 8192)))))
 generalize Go.bits .xor .u64 s0_2 (IntKind.u64.wrap (s0_2 * 8192)) = m1 at h hI7 hB7 hK7 ⊢
 generalize (w6.setCell ⟨g, 2, none⟩ (.int .u64 m1)).drew = w1 at hI7 hB7 hK7 ⊢
 obtain ⟨A7, d7, b7, _, _⟩ := id hI7
 have hz7 : w1.cell? ⟨g, 2, none⟩ = some (.int .u64 m1) := (blk_cell b7 2).trans rfl
 have hf7 := blk_frozen b7 2
 go_region
 go_wp2
 have hI8 := IsS112.drew (IsS112.set_2 hI7 (Go.bits .xor .u64 m1 (m1 / 128)))
 have hB8 := below_drew1 (below_set (j := 2) (v := .int .u64 (Go.bits .xor .u64 m1 (m1 / 128))) hB7 hg)
 have hK8 := keep_drew (KeepBut.set_ hK7 2 (.int .u64 (Go.bits .xor .u64 m1 (m1 / 128))))
 generalize Go.bits .xor .u64 m1 (m1 / 128) = m2 at h hI8 hB8 hK8 ⊢
 generalize (w1.setCell ⟨g, 2, none⟩ (.int .u64 m2)).drew = w2 at hI8 hB8 hK8 ⊢
 obtain ⟨A8, d8, b8, _, _⟩ := id hI8
 have hz8 : w2.cell? ⟨g, 2, none⟩ = some (.int .u64 m2) := (blk_cell b8 2).trans rfl
 have hf8 := blk_frozen b8 2
 go_region
 go_wp2
 have hI9 := IsS112.drew (IsS112.set_2 hI8 (Go.bits .xor .u64 m2 (IntKind.u64.wrap (m2 * 131072))))
 have hB9 := below_drew1 (below_set (j := 2) (v := .int .u64 (Go.bits .xor .u64 m2 (IntKind.u64.wrap (m2 * 131072)))) hB8 hg)
 have hK9 := keep_drew (KeepBut.set_ hK8 2 (.int .u64 (Go.bits .xor .u64 m2 (IntKind.u64.wrap (m2 * 131072)))))
 generalize Go.bits .xor .u64 m2 (IntKind.u64.wrap (m2 * 131072)) = m3 at h hI9 hB9 hK9 ⊢
 generalize (w2.setCell ⟨g, 2, none⟩ (.int .u64 m3)).drew = w3 at hI9 hB9 hK9 ⊢
 obtain ⟨A9, d9, b9, _, _⟩ := id hI9
 have hz9 : w3.cell? ⟨g, 2, none⟩ = some (.int .u64 m3) := (blk_cell b9 2).trans rfl
 have hf9 := blk_frozen b9 2
 simp only [Option.some.injEq, Prod.mk.injEq] at h
 obtain ⟨hr, rfl, rfl, rfl⟩ := h
 go_wp2
 go_ret
 exact ⟨by rw [← hr]; rfl, hI9, hB9, hK9⟩
def Qw.f (s0_0 : List Int) (s0_1 : Int) (s0_2 : Int) (s0_3 : Int) (l1 : List ByteArray) : Option (ByteArray × Int × Int × Int) := (Qu.f s0_0 s0_1 s0_2 s0_3 (l1.length : Int)).bind fun bt124 => (if 0 ≤ bt124.1 then (if bt124.1 < (l1.length : Int) then (some (rdOf ByteArray.empty l1 bt124.1, bt124.2.1, bt124.2.2.1, bt124.2.2.2)) else (none)) else (none))
theorem Qw.calls (g : Nat) (s0_0 : List Int) (s0_1 : Int) (s0_2 : Int) (s0_3 : Int) (A1 : Option Addr) (c1 : Nat) (l1 : List ByteArray) (r1 : ByteArray) (r2 : Int) (r3 : Int) (r4 : Int) (w0 w : World) (hI : IsS112 w0 w g s0_0 s0_1 s0_2 s0_3) (hB : Below w0.heap.size w0 w) (hr1 : Kd.C Kd.string w A1 l1.length l1) (hc1 : l1.length ≤ c1) (hf1 : ∀ ad, A1 = some ad → 0 < l1.length → ad.block ≠ g) (h : Qw.f s0_0 s0_1 s0_2 s0_3 l1 = some (r1, r2, r3, r4)) :
  Calls Tryz.prog 53 #[.pointer (some ⟨g, 0, none⟩), .slice A1 l1.length c1] w fun e w' => e = .returned (.string r1) ∧ IsS112 w0 w' g s0_0 r2 r3 r4 ∧ Below w0.heap.size w0 w' ∧ KeepBut w w' g none := by
 have HR1 := Aside0.mk hr1
 have HC1 := Aside0.mk hc1
 clear hr1 hc1
 have HI0 := Aside0.mk hI
 have HK := Aside0.mk (KeepBut.refl w g none)
 have HL := Aside0.mk hB.size
 clear hI
 have HW0 := Aside0.mk hB.size
 have HB := Aside0.mk hB
 clear hB
 have H : ((Qu.f s0_0 s0_1 s0_2 s0_3 (l1.length : Int)).bind fun bt124 => (if 0 ≤ bt124.1 then (if bt124.1 < (l1.length : Int) then (some (rdOf ByteArray.empty l1 bt124.1, bt124.2.1, bt124.2.2.1, bt124.2.2.2)) else (none)) else (none))) = some (r1, r2, r3, r4) := h
 clear h
 replace H := Option.bind_eq_some_iff.mp H
 obtain ⟨⟨t124, t125, t126, t127⟩, A30, H⟩ := H
 replace H : (if 0 ≤ t124 then (if t124 < (l1.length : Int) then (some (rdOf ByteArray.empty l1 t124, t125, t126, t127)) else (none)) else (none)) = some (r1, r2, r3, r4) := H
 have A3 := Aside0.mk A30
 clear A30
 by_cases c4 : 0 ≤ t124
 rotate_left
 ·rw [if_neg c4] at H
  exact absurd H (by simp)
 rw [if_pos c4] at H
 have c4b0 := decide_eq_true c4
 clear c4
 by_cases c5 : t124 < (l1.length : Int)
 ·rw [if_pos c5] at H
  have c5b0 := decide_eq_true c5
  clear c5
  obtain ⟨rfl, rfl, rfl, rfl⟩ := SQz H
  go_enter Tryz.func53, Tryz.ntmps53
  go_wp2_with (first | ((with_reducible refine gate_callee (f := 51) rfl ?_); refine goesL_ (some 9) rfl rfl Tryz.func51 (by kernel_rfl) rfl #[.pointer (some ⟨g, 0, none⟩), .int .i64 (l1.length : Int)] rfl MPz ?_; (with_reducible refine (Qu.calls g s0_0 s0_1 s0_2 s0_3 (l1.length : Int) t124 t125 t126 t127 w0 _ ?side1 ?side2 A3.out).mono ?_); (case side1 => repeat (first | (with_reducible first | exact HI0.out | apply IsS112.alloc | apply IsS112.drewN | apply IsS112.drew | apply IsS112.set_1 | apply IsS112.set_2 | apply IsS112.set_3) | exact HI0.out)); (case side2 => repeat (first | (with_reducible first | exact HB.out | apply below_alloc | apply pw_below_drewN | apply below_drew1 | refine below_set ?_ (IsS112.ge HI0.out)) | exact HB.out)); rintro e w6 ⟨rfl, hi, hb, hk⟩; refine ⟨_, rfl, ?_⟩; have n0_ := Aside0.mk (KeepBut.trans (by repeat (first | (with_reducible first | exact HK.out | apply KeepBut.set_ | apply keep_drewN | apply keep_drew | apply keep_alloc) | exact HK.out)) hk (.inl rfl)); have n1_ := Aside0.mk (hb); have n2_ := Aside0.mk (hi); clear HK; clear HB; clear HI0; have HK := n0_; have HB := n1_; have HI0 := n2_; clear n0_ n1_ n2_; (try clear hb); (try clear hb2); (try clear hk); (try clear hi); have p128 : 0 ≤ (t124 : Int) := ODz; have q128 : t124 < (l1.length : Int) := ODz; obtain ⟨ad128, e128, hx128_0⟩ := Kd.at_string HR1.out t124 p128 q128; cases e128; replace hx128_0 := keep_cell HK.out hx128_0 (by first | (rw [add_block]; exact hf1 _ rfl (by omega)) | exact hf1 _ rfl (by omega) | exact hf1 ad128 rfl (by omega)); replace p128 := eq_true p128; replace q128 := eq_true q128))
  go_ret
  exact ⟨EZa, by repeat (first | (with_reducible first | exact HI0.out | apply IsS112.alloc | apply IsS112.drewN | apply IsS112.drew | apply IsS112.set_1 | apply IsS112.set_2 | apply IsS112.set_3) | exact HI0.out), by repeat (first | (with_reducible first | exact HB.out | apply below_alloc | apply pw_below_drewN | apply below_drew1 | refine below_set ?_ (IsS112.ge HI0.out)) | exact HB.out), by repeat (first | (with_reducible first | exact HK.out | apply KeepBut.set_ | apply keep_drewN | apply keep_drew | apply keep_alloc) | exact HK.out)⟩
 rw [if_neg c5] at H
 exact absurd H (by simp)
def Qv.f (s0_0 : List Int) (s0_1 : Int) (s0_2 : Int) (s0_3 : Int) (a1 : Int) : Option (Bool × Int × Int × Int) := (Qu.f s0_0 s0_1 s0_2 s0_3 a1).bind fun bt129 => (some ((bt129.1 == 0), bt129.2.1, bt129.2.2.1, bt129.2.2.2))
theorem Qv.calls (g : Nat) (s0_0 : List Int) (s0_1 : Int) (s0_2 : Int) (s0_3 : Int) (a1 : Int) (r1 : Bool) (r2 : Int) (r3 : Int) (r4 : Int) (w0 w : World) (hI : IsS112 w0 w g s0_0 s0_1 s0_2 s0_3) (hB : Below w0.heap.size w0 w) (h : Qv.f s0_0 s0_1 s0_2 s0_3 a1 = some (r1, r2, r3, r4)) :
  Calls Tryz.prog 87 #[.pointer (some ⟨g, 0, none⟩), .int .i64 a1] w fun e w' => e = .returned (.bool r1) ∧ IsS112 w0 w' g s0_0 r2 r3 r4 ∧ Below w0.heap.size w0 w' ∧ KeepBut w w' g none := by
 have HI0 := Aside0.mk hI
 have HK := Aside0.mk (KeepBut.refl w g none)
 have HL := Aside0.mk hB.size
 clear hI
 have HW0 := Aside0.mk hB.size
 have HB := Aside0.mk hB
 clear hB
 have H : ((Qu.f s0_0 s0_1 s0_2 s0_3 a1).bind fun bt129 => (some ((bt129.1 == 0), bt129.2.1, bt129.2.2.1, bt129.2.2.2))) = some (r1, r2, r3, r4) := h
 clear h
 replace H := Option.bind_eq_some_iff.mp H
 obtain ⟨⟨t129, t130, t131, t132⟩, A30, H⟩ := H
 replace H : (some ((t129 == 0), t130, t131, t132)) = some (r1, r2, r3, r4) := H
 have A3 := Aside0.mk A30
 clear A30
 obtain ⟨rfl, rfl, rfl, rfl⟩ := SQz H
 go_enter Tryz.func87, Tryz.ntmps87
 go_wp2_with (first | ((with_reducible refine gate_callee (f := 51) rfl ?_); refine goesL_ (some 7) rfl rfl Tryz.func51 (by kernel_rfl) rfl #[.pointer (some ⟨g, 0, none⟩), .int .i64 a1] rfl MPz ?_; (with_reducible refine (Qu.calls g s0_0 s0_1 s0_2 s0_3 a1 t129 t130 t131 t132 w0 _ ?side1 ?side2 A3.out).mono ?_); (case side1 => repeat (first | (with_reducible first | exact HI0.out | apply IsS112.alloc | apply IsS112.drewN | apply IsS112.drew | apply IsS112.set_1 | apply IsS112.set_2 | apply IsS112.set_3) | exact HI0.out)); (case side2 => repeat (first | (with_reducible first | exact HB.out | apply below_alloc | apply pw_below_drewN | apply below_drew1 | refine below_set ?_ (IsS112.ge HI0.out)) | exact HB.out)); rintro e w4 ⟨rfl, hi, hb, hk⟩; refine ⟨_, rfl, ?_⟩; have n0_ := Aside0.mk (KeepBut.trans (by repeat (first | (with_reducible first | exact HK.out | apply KeepBut.set_ | apply keep_drewN | apply keep_drew | apply keep_alloc) | exact HK.out)) hk (.inl rfl)); have n1_ := Aside0.mk (hb); have n2_ := Aside0.mk (hi); clear HK; clear HB; clear HI0; have HK := n0_; have HB := n1_; have HI0 := n2_; clear n0_ n1_ n2_; (try clear hb); (try clear hb2); (try clear hk); (try clear hi)))
 go_ret
 exact ⟨EZa, by repeat (first | (with_reducible first | exact HI0.out | apply IsS112.alloc | apply IsS112.drewN | apply IsS112.drew | apply IsS112.set_1 | apply IsS112.set_2 | apply IsS112.set_3) | exact HI0.out), by repeat (first | (with_reducible first | exact HB.out | apply below_alloc | apply pw_below_drewN | apply below_drew1 | refine below_set ?_ (IsS112.ge HI0.out)) | exact HB.out), by repeat (first | (with_reducible first | exact HK.out | apply KeepBut.set_ | apply keep_drewN | apply keep_drew | apply keep_alloc) | exact HK.out)⟩
end Go.Proofs.YtmkeigielncpjaaGreatDoor.PFnAcl
