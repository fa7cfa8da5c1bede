-- Laid by this session's own program out of the translation; Lean checks it.
import Derived.Test.YtmkeigielncpjaaGreatDoorQFnFilterx0
import Derived.Test.YtmkeigielncpjaaGreatDoorQFnFilterx8
namespace Go.Proofs.YtmkeigielncpjaaGreatDoor.PFnFilter
open Go.RowKit Go.Proofs.YtmkeigielncpjaaGreatDoorW.PrintWords Go.Proofs.YtmkeigielncpjaaGreatDoorW.PrintLast Go.Proofs.YtmkeigielncpjaaGreatDoorW.PrintMore
attribute [local go_sem] max2_int min2_int max_two min_two max_three min_three max_four min_four   -- for this text's walks alone
set_option linter.unusedVariables false
set_option linter.unusedSimpArgs false
mutual
def Gf.j0 : Nat → ByteArray → Bool → Option (ByteArray)
 | 0, _, _ => none
 | k + 1, x0, x13 => if x13 = true then (some (⟨#[]⟩ : ByteArray)) else (Gf.l0 k x0 (([] : List Int)) (x0.size : Int) 0)
def Gf.l0 : Nat → ByteArray → List Int → Int → Int → Option (ByteArray)
 | 0, _, _, _, _ => none
 | k + 1, x0, x3, x16, x17 => if x17 < x16 then (if 0 ≤ x17 then (if x17 < (x0.size : Int) then (if (bt x0 x17) ≥ 65 then (Gf.j2 k x0 x3 (bt x0 x17) x16 x17 (decide ((bt x0 x17) ≤ 90))) else (Gf.j2 k x0 x3 (bt x0 x17) x16 x17 false)) else (none)) else (none)) else ((Qz.f (strOfNums x3) (⟨#[32]⟩ : ByteArray)).bind fun t179 => (some t179))
def Gf.j2 : Nat → ByteArray → List Int → Int → Int → Int → Bool → Option (ByteArray)
 | 0, _, _, _, _, _, _ => none
 | k + 1, x0, x3, x5, x16, x17, x28 => if x28 = true then (if ((x5 + 32) % 256) = 32 then (if (x3.length : Int) > 0 then (if 0 ≤ (wrap64 ((x3.length : Int) - 1)) then (if (wrap64 ((x3.length : Int) - 1)) < (x3.length : Int) then (if (rd x3 (wrap64 ((x3.length : Int) - 1))) = 32 then (Gf.l0 k x0 x3 x16 (wrap64 (x17 + 1))) else (if x3.length < 140737488355328 then (Gf.l0 k x0 (x3 ++ [(x5 + 32) % 256]) x16 (wrap64 (x17 + 1))) else (none))) else (none)) else (none)) else (Gf.l0 k x0 x3 x16 (wrap64 (x17 + 1)))) else (if x3.length < 140737488355328 then (Gf.l0 k x0 (x3 ++ [(x5 + 32) % 256]) x16 (wrap64 (x17 + 1))) else (none))) else (if x5 = 32 then (if (x3.length : Int) > 0 then (if 0 ≤ (wrap64 ((x3.length : Int) - 1)) then (if (wrap64 ((x3.length : Int) - 1)) < (x3.length : Int) then (if (rd x3 (wrap64 ((x3.length : Int) - 1))) = 32 then (Gf.l0 k x0 x3 x16 (wrap64 (x17 + 1))) else (if x3.length < 140737488355328 then (Gf.l0 k x0 (x3 ++ [x5]) x16 (wrap64 (x17 + 1))) else (none))) else (none)) else (none)) else (Gf.l0 k x0 x3 x16 (wrap64 (x17 + 1)))) else (if x3.length < 140737488355328 then (Gf.l0 k x0 (x3 ++ [x5]) x16 (wrap64 (x17 + 1))) else (none)))
end
def Gf.f (k : Nat) (a0 : ByteArray) : Option (ByteArray) := if (a0.size : Int) > 100 then (Gf.j0 k a0 true) else ((Gk.f k a0).bind fun t175 => (Gf.j0 k a0 (!t175)))
theorem Gf.mono_l : ∀ k, (∀ y0 y1, LeO (Gf.j0 k y0 y1) (Gf.j0 (k + 1) y0 y1)) ∧ (∀ y0 y1 y2 y3, LeO (Gf.l0 k y0 y1 y2 y3) (Gf.l0 (k + 1) y0 y1 y2 y3)) ∧ (∀ y0 y1 y2 y3 y4 y5, LeO (Gf.j2 k y0 y1 y2 y3 y4 y5) (Gf.j2 (k + 1) y0 y1 y2 y3 y4 y5))
 | 0 => ⟨fun _ _ r h => by simp [Gf.j0] at h, fun _ _ _ _ r h => by simp [Gf.l0] at h, fun _ _ _ _ _ _ r h => by simp [Gf.j2] at h⟩
 | k + 1 => by
  obtain ⟨ih0, ih1, ih2⟩ := Gf.mono_l k
  refine ⟨?_, ?_, ?_⟩
  ·intro y0 y1
   unfold Gf.j0
   with_reducible repeat' first | exact ih0 _ _ | exact ih1 _ _ _ _ | exact ih2 _ _ _ _ _ _ | exact Gk.mono _ _ | exact LeO.refl _ | exact LeO.none _ | refine LeO.ite ?_ ?_ | refine LeO.bind ?_ (fun _ => ?_)
  ·intro y0 y1 y2 y3
   unfold Gf.l0
   with_reducible repeat' first | exact ih0 _ _ | exact ih1 _ _ _ _ | exact ih2 _ _ _ _ _ _ | exact Gk.mono _ _ | exact LeO.refl _ | exact LeO.none _ | refine LeO.ite ?_ ?_ | refine LeO.bind ?_ (fun _ => ?_)
  ·intro y0 y1 y2 y3 y4 y5
   unfold Gf.j2
   with_reducible repeat' first | exact ih0 _ _ | exact ih1 _ _ _ _ | exact ih2 _ _ _ _ _ _ | exact Gk.mono _ _ | exact LeO.refl _ | exact LeO.none _ | refine LeO.ite ?_ ?_ | refine LeO.bind ?_ (fun _ => ?_)
theorem Gf.mono : ∀ a0 k, LeO (Gf.f k a0) (Gf.f (k + 1) a0) := by
 intro a0 k
 obtain ⟨ih0, ih1, ih2⟩ := Gf.mono_l k
 unfold Gf.f
 with_reducible repeat' first | exact ih0 _ _ | exact ih1 _ _ _ _ | exact ih2 _ _ _ _ _ _ | exact Gk.mono _ _ | exact LeO.refl _ | exact LeO.none _ | refine LeO.ite ?_ ?_ | refine LeO.bind ?_ (fun _ => ?_)
set_option maxHeartbeats 8000000 in
set_option maxRecDepth 100000 in
theorem Gf.calls (k : Nat) (a0 : ByteArray) (r : ByteArray) (w : World) (h : Gf.f k a0 = some r) :
  Calls Tryz.prog 122 #[.string a0] w fun e w' => e = .returned (.string r) ∧ Below w.heap.size w w' := by
 have HB := Aside0.mk (Below.refl w.heap.size w)
 have H : (if (a0.size : Int) > 100 then (Gf.j0 k a0 true) else ((Gk.f k a0).bind fun t175 => (Gf.j0 k a0 (!t175)))) = some r := h
 clear h
 have HC2 := Aside0.mk H
 clear H
 go_enter Tryz.func122, Tryz.ntmps122
 go_upto_region 1 with (fail)
 go_cut [13] (fun v13 wc => ∃ (kq : Nat) (x13_1 : Bool), v13 = .bool x13_1 ∧ Aside0 (Gf.j0 kq a0 x13_1 = some r) ∧ Aside0 (kq ≤ k) ∧ Aside0 (Below w.heap.size w wc))
 case first =>
  have H := HC2.out
  clear HC2
  by_cases c3 : (a0.size : Int) > 100
  ·rw [if_pos c3] at H
   have c3b0 : decide (100 < (a0.size : Int)) = true := decide_eq_true c3
   have c3b1 : decide (100 < a0.size) = true := decide_eq_true (by omega)
   clear c3
   (first | rw [c3b0] | rw [c3v0] | (simp only [i64_w, i32_w]; rw [c3b0]) | (simp only [i64_w, i32_w]; rw [c3v0]) | skip)
   have H' := Aside0.mk H
   clear H
   go_wp2
   go_meet
   case rel => exact ⟨_, (true), EZc, H', ⟨by first | omega | exact Nat.le_refl _⟩, ⟨HBa⟩⟩
  rw [if_neg c3] at H
  have c3b0 : decide (100 < (a0.size : Int)) = false := decide_eq_false c3
  have c3b1 : decide (100 < a0.size) = false := decide_eq_false (by omega)
  clear c3
  (first | rw [c3b0] | rw [c3v0] | (simp only [i64_w, i32_w]; rw [c3b0]) | (simp only [i64_w, i32_w]; rw [c3v0]) | skip)
  replace H := Option.bind_eq_some_iff.mp H
  obtain ⟨t175, A40, H⟩ := H
  replace H : (Gf.j0 k a0 (!t175)) = some r := H
  have A4 := Aside0.mk A40
  clear A40
  have H' := Aside0.mk H
  clear H
  go_wp2_with (first | (go_at_call 156; (with_reducible refine (Gk.calls k a0 t175 _ A4.out).mono ?_); rintro e w' ⟨rfl, ⟨nd, rfl⟩⟩))
  go_meet
  case rel => exact ⟨_, (!t175), EZc, H', ⟨by first | omega | exact Nat.le_refl _⟩, ⟨HBa⟩⟩
 case rest =>
  clear HC2
  obtain ⟨kq, x13_1, rfl, HA, HJ1, HB⟩ := hcut
  cases kq with
  | zero => exact absurd HA.out (by simp [Gf.j0])
  | succ kj1 =>
   have H := HA.out
   clear HA
   simp only [Gf.j0] at H
   by_cases c5 : x13_1 = true
   ·subst c5
    have H1 : (some (⟨#[]⟩ : ByteArray)) = some r := by rw [if_pos rfl] at H; exact H
    clear H
    have H := H1
    clear H1
    obtain rfl := Option.some.inj H
    clear H
    go_wp2
    go_ret
    exact ⟨EZa, HBa⟩
   replace c5 := Bool.eq_false_iff.mpr c5
   subst c5
   have H1 : (Gf.l0 kj1 a0 (([] : List Int)) (a0.size : Int) 0) = some r := by rw [if_neg (show ¬ (false = true) by decide)] at H; exact H
   clear H
   have H := H1
   clear H1
   obtain ⟨y176, hy176⟩ : ∃ y_ : List Int, y_ = (([] : List Int)) := ⟨_, rfl⟩
   replace H : (Gf.l0 kj1 a0 y176 (a0.size : Int) 0) = some r := by first | (rw [hy176]; with_reducible exact H) | (have H2_ := (Option.bind_some _ _).symm.trans H; rw [hy176]; with_reducible exact H2_) | (have H2_ := (Option.bind_some _ _).symm.trans H; with_reducible exact H2_) | with_reducible exact H | (rw [hy176]; exact H) | exact H
   have Ny176 := Aside0.mk hy176
   clear hy176
   have H' := Aside0.mk H
   clear H
   go_wp2_with (first | ((with_reducible refine gate_dst (N := 14) rfl ?_); (try (refine gate_guard (by rfl) ?_; dsimp only)); refine Kd.R_lit (Kd.int .u8) _ 5 ?hg (N := 14) ?hd (xs := ([] : List Int)) (inner := []) (ok := fun _ => True) (okp := fun _ => True) ?hr ?hp (fun _ hk => hk) trivial (Below.refl _ _) (Nat.le_refl _) (by simp) ?_; (case hd => rfl); (case hg => rfl); (case hr => first | (go_simp; done) | (go_simp; rfl)); (case hp => exact (Reps.none _ _)); intro v177 w6 ho7 hb hg_ hnew_; clear hg_ hnew_; (first | rw [← Ny176.out] at ho7 | (simp only [Int.reduceToNat] at ho7; rw [← Ny176.out] at ho7)); have n0_ := Aside0.mk (Kd.R_lower ho7 (below_size HBa)); have n1_ := Aside0.mk (below_step HBa hb); clear HB; have HO178 := n0_; have HB := n1_; clear n0_ n1_; clear hb ho7))
   go_loopg [3, 17] kj1 (fun kq v3 v17 w' => ∃ (x3_2 : List Int) (x17_2 : Int), v17 = .int .i64 x17_2 ∧ Aside0 (Gf.l0 kq a0 x3_2 (a0.size : Int) x17_2 = some r) ∧ Aside0 (kq ≤ kj1) ∧ Aside0 (Kd.R (Kd.int .u8) 5 w' w.heap.size (fun _ => True) v3 x3_2) ∧ Aside0 (Below w.heap.size w w'))
   case atStart => exact ⟨(y176), (0), EZc, H', ⟨Nat.le_refl _⟩, ⟨by (with_reducible repeat (first | apply Kd.R_alloc | apply Kd.R_drewN | apply Kd.R_drew)); exact HO178.out⟩, ⟨HBa⟩⟩
   case round =>
    clear H'
    try clear c5
    obtain ⟨x3_2, x17_2, rfl, HA, HK2, HO_3, HB⟩ := hrel
    cases gk with
    | zero => exact absurd HA.out (by simp [Gf.l0])
    | succ k2 =>
     have H := HA.out
     clear HA
     simp only [Gf.l0] at H
     by_cases c8 : x17_2 < (a0.size : Int)
     rotate_left
     ·rw [if_neg c8] at H
      have c8b0 := decide_eq_false c8
      clear c8
      replace H := Option.bind_eq_some_iff.mp H
      obtain ⟨t179, A410, H⟩ := H
      replace H : (some t179) = some r := H
      have A41 := Aside0.mk A410
      clear A410
      obtain rfl := Option.some.inj H
      clear H
      have hcv42 := own_string (P := Tryz.prog) Tryz.underlying35 Tryz.underlying5 Tryz.underlying9 (Kd.own_of_R HO_3.out)
      go_wp2_with (first | ((with_reducible refine gate_callee (f := 119) rfl ?_); refine goesL_ (some 54) rfl rfl Tryz.func119 (by kernel_rfl) rfl #[.string (strOfNums x3_2), .string (⟨#[32]⟩ : ByteArray)] rfl MPz ?_; (with_reducible refine (Qz.calls (strOfNums x3_2) (⟨#[32]⟩ : ByteArray) t179 _ A41.out).mono ?_); rintro e w' ⟨rfl, ⟨nd, rfl⟩⟩; refine ⟨_, rfl, ?_⟩))
      go_ret
      exact ⟨EZa, HBa⟩
     rw [if_pos c8] at H
     have c8b0 := decide_eq_true c8
     clear c8
     by_cases c9 : 0 ≤ x17_2
     rotate_left
     ·rw [if_neg c9] at H
      exact absurd H (by simp)
     rw [if_pos c9] at H
     have c9b0 := decide_eq_true c9
     clear c9
     by_cases c10 : x17_2 < (a0.size : Int)
     rotate_left
     ·rw [if_neg c10] at H
      exact absurd H (by simp)
     rw [if_pos c10] at H
     have c10b0 := decide_eq_true c10
     clear c10
     have HC12 := Aside0.mk H
     clear H
     have p11 : 0 ≤ (x17_2 : Int) := ODz
     have q11 : x17_2 < (a0.size : Int) := ODz
     have hx11 := bt_at a0 x17_2
     replace p11 := eq_true p11
     replace q11 := eq_true q11
     go_upto_region 8 with (fail)
     go_cut [28] (fun v28 wc => ∃ (kq : Nat) (x28_11 : Bool), v28 = .bool x28_11 ∧ Aside0 (Gf.j2 kq a0 x3_2 (bt a0 x17_2) (a0.size : Int) x17_2 x28_11 = some r) ∧ Aside0 (kq ≤ k2) ∧ Aside0 (Kd.R (Kd.int .u8) 5 wc w.heap.size (fun _ => True) u3 x3_2) ∧ Aside0 (Below w.heap.size w wc))
     case first =>
      have H := HC12.out
      clear HC12
      by_cases c13 : (bt a0 x17_2) ≥ 65
      ·rw [if_pos c13] at H
       have c13b0 : decide (65 ≤ (bt a0 x17_2)) = true := decide_eq_true c13
       clear c13
       (first | rw [c13b0] | rw [c13v0] | (simp only [i64_w, i32_w]; rw [c13b0]) | (simp only [i64_w, i32_w]; rw [c13v0]) | skip)
       have H' := Aside0.mk H
       clear H
       go_wp2
       go_meet
       case rel => exact ⟨_, (decide ((bt a0 x17_2) ≤ 90)), EZc, H', ⟨by have := HJ1.out; have := HK2.out; first | omega | exact Nat.le_refl _⟩, ⟨by (with_reducible repeat (first | apply Kd.R_alloc | apply Kd.R_drewN | apply Kd.R_drew)); exact HO_3.out⟩, ⟨HBa⟩⟩
      rw [if_neg c13] at H
      have c13b0 : decide (65 ≤ (bt a0 x17_2)) = false := decide_eq_false c13
      clear c13
      (first | rw [c13b0] | rw [c13v0] | (simp only [i64_w, i32_w]; rw [c13b0]) | (simp only [i64_w, i32_w]; rw [c13v0]) | skip)
      have H' := Aside0.mk H
      clear H
      go_wp2
      go_meet
      case rel => exact ⟨_, (false), EZc, H', ⟨by have := HJ1.out; have := HK2.out; first | omega | exact Nat.le_refl _⟩, ⟨by (with_reducible repeat (first | apply Kd.R_alloc | apply Kd.R_drewN | apply Kd.R_drew)); exact HO_3.out⟩, ⟨HBa⟩⟩
     case rest =>
      clear HC12
      try clear c5
      try clear c8
      try clear c8b0
      try clear c9
      try clear c9b0
      try clear c10
      try clear c10b0
      try clear p11
      try clear q11
      try clear hx11
      try clear p11
      try clear q11
      obtain ⟨kq, x28_11, rfl, HA, HJ11, HO_3, HB⟩ := hcut
      cases kq with
      | zero => exact absurd HA.out (by simp [Gf.j2])
      | succ kj11 =>
       have H := HA.out
       clear HA
       simp only [Gf.j2] at H
       by_cases c14 : x28_11 = true
       ·subst c14
        have H1 : (if (((bt a0 x17_2) + 32) % 256) = 32 then (if (x3_2.length : Int) > 0 then (if 0 ≤ (wrap64 ((x3_2.length : Int) - 1)) then (if (wrap64 ((x3_2.length : Int) - 1)) < (x3_2.length : Int) then (if (rd x3_2 (wrap64 ((x3_2.length : Int) - 1))) = 32 then (Gf.l0 kj11 a0 x3_2 (a0.size : Int) (wrap64 (x17_2 + 1))) else (if x3_2.length < 140737488355328 then (Gf.l0 kj11 a0 (x3_2 ++ [((bt a0 x17_2) + 32) % 256]) (a0.size : Int) (wrap64 (x17_2 + 1))) else (none))) else (none)) else (none)) else (Gf.l0 kj11 a0 x3_2 (a0.size : Int) (wrap64 (x17_2 + 1)))) else (if x3_2.length < 140737488355328 then (Gf.l0 kj11 a0 (x3_2 ++ [((bt a0 x17_2) + 32) % 256]) (a0.size : Int) (wrap64 (x17_2 + 1))) else (none))) = some r := by rw [if_pos rfl] at H; exact H
        clear H
        have H := H1
        clear H1
        by_cases c15 : (((bt a0 x17_2) + 32) % 256) = 32
        rotate_left
        ·rw [if_neg c15] at H
         obtain ⟨c15b0, c15b1⟩ := QFz c15
         by_cases c26 : x3_2.length < 140737488355328
         ·rw [if_pos c26] at H
          have LMc26 := Aside0.mk c26
          clear c26
          obtain ⟨y184, hy184⟩ : ∃ y_ : List Int, y_ = (x3_2 ++ [((bt a0 x17_2) + 32) % 256]) := ⟨_, rfl⟩
          replace H : (Gf.l0 kj11 a0 y184 (a0.size : Int) (wrap64 (x17_2 + 1))) = some r := by first | (rw [hy184]; with_reducible exact H) | (have H2_ := (Option.bind_some _ _).symm.trans H; rw [hy184]; with_reducible exact H2_) | (have H2_ := (Option.bind_some _ _).symm.trans H; with_reducible exact H2_) | with_reducible exact H | (rw [hy184]; exact H) | exact H
          have Ny184 := Aside0.mk hy184
          clear hy184
          have H' := Aside0.mk H
          clear H
          go_wp2_with (first | ((with_reducible refine gate_builtin (b := .append) (xs := #[.tmp 47, .tmp 49]) rfl ?_); (try (refine gate_guard (by rfl) ?_; dsimp only)); at_builtin; refine Kd.R_append (Kd.int .u8) (w0 := w) w.heap.size rfl (.tmp 47) (.tmp 49) 35 5 (.int .u8 0) 1 rfl Tryz.underlying35 info5 rfl (by decide) (by omega) u3 x3_2 (((bt a0 x17_2) + 32) % 256) [.int .u8 (((bt a0 x17_2) + 32) % 256)] (fun _ => True) (fun _ => False) rfl rfl ?aP (fun _ hk => hk.elim) ?aF ?aO ?aB ?aS ?aL ?_; (case aP => exact rfl); (case aB => exact HBa); (case aF => exact (fun _ _ => trivial)); (case aO => exact (KRz HO_3)); (case aS => exact (below_size HBa)); (case aL => have := LMc26.out; omega); intro v185 w27 ho hb hg hat; rw [← Ny184.out] at ho; have n0_ := Aside0.mk (hb); have n1_ := Aside0.mk (ho); clear HB; clear HO_3; have HB := n0_; have HO186 := n1_; clear n0_ n1_; clear ho hb hg hat))
          go_roundg kj11
          case measure => have := HJ1.out; have := HK2.out; have := HJ11.out; omega
          case rel => exact ⟨(y184), (wrap64 (x17_2 + 1)), EZc, H', ⟨by have := HJ1.out; have := HK2.out; have := HJ11.out; omega⟩, ⟨by (with_reducible repeat (first | apply Kd.R_alloc | apply Kd.R_drewN | apply Kd.R_drew)); exact HO186.out⟩, ⟨HBa⟩⟩
         rw [if_neg c26] at H
         exact absurd H (by simp)
        rw [if_pos c15] at H
        obtain ⟨c15b0, c15b1⟩ := QTz c15
        clear c15
        by_cases c16 : (x3_2.length : Int) > 0
        rotate_left
        ·rw [if_neg c16] at H
         have c16b0 : decide (0 < (x3_2.length : Int)) = false := decide_eq_false c16
         have c16b1 : decide (0 < x3_2.length) = false := decide_eq_false (by omega)
         clear c16
         have H' := Aside0.mk H
         clear H
         obtain ⟨Ao25, co25, eo25⟩ := Kd.R_slice HO_3.out
         subst eo25
         go_wp2
         go_roundg kj11
         case measure => have := HJ1.out; have := HK2.out; have := HJ11.out; omega
         case rel => exact ⟨(x3_2), (wrap64 (x17_2 + 1)), EZc, H', ⟨by have := HJ1.out; have := HK2.out; have := HJ11.out; omega⟩, ⟨by (with_reducible repeat (first | apply Kd.R_alloc | apply Kd.R_drewN | apply Kd.R_drew)); exact HO_3.out⟩, ⟨HBa⟩⟩
        rw [if_pos c16] at H
        have c16b0 : decide (0 < (x3_2.length : Int)) = true := decide_eq_true c16
        have c16b1 : decide (0 < x3_2.length) = true := decide_eq_true (by omega)
        clear c16
        obtain ⟨ji17, hji17⟩ : ∃ j_ : Int, (wrap64 ((x3_2.length : Int) - 1)) = j_ := ⟨_, rfl⟩
        replace H : (if 0 ≤ (ji17) then (if (ji17) < (x3_2.length : Int) then (if (rd x3_2 (ji17)) = 32 then (Gf.l0 kj11 a0 x3_2 (a0.size : Int) (wrap64 (x17_2 + 1))) else (if x3_2.length < 140737488355328 then (Gf.l0 kj11 a0 (x3_2 ++ [((bt a0 x17_2) + 32) % 256]) (a0.size : Int) (wrap64 (x17_2 + 1))) else (none))) else (none)) else (none)) = some r := by first | (rw [hji17] at H; exact H) | (simp only [hji17] at H ⊢; exact H)
        have hji17w : (IntKind.i64.wrap ((x3_2.length : Int) - 1)) = ji17 := (i64_w _).trans hji17
        by_cases c18 : 0 ≤ (ji17)
        rotate_left
        ·rw [if_neg c18] at H
         exact absurd H (by simp)
        rw [if_pos c18] at H
        have c18b0 := decide_eq_true c18
        clear c18
        by_cases c19 : (ji17) < (x3_2.length : Int)
        rotate_left
        ·rw [if_neg c19] at H
         exact absurd H (by simp)
        rw [if_pos c19] at H
        have c19b0 := decide_eq_true c19
        clear c19
        by_cases c20 : (rd x3_2 (ji17)) = 32
        ·rw [if_pos c20] at H
         obtain ⟨c20b0, c20b1⟩ := QTz c20
         clear c20
         have H' := Aside0.mk H
         clear H
         obtain ⟨Ao21, co21, eo21⟩ := Kd.R_slice HO_3.out
         subst eo21
         have p180 : 0 ≤ ((ji17) : Int) := ODz
         have q180 : (ji17) < (x3_2.length : Int) := ODz
         obtain ⟨ad180, e180, hx180_0⟩ := Kd.at_int (Kd.R_reads' HO_3.out).2.2 (ji17) p180 q180
         cases e180
         replace p180 := eq_true p180
         replace q180 := eq_true q180
         go_wp2
         go_roundg kj11
         case measure => have := HJ1.out; have := HK2.out; have := HJ11.out; omega
         case rel => exact ⟨(x3_2), (wrap64 (x17_2 + 1)), EZc, H', ⟨by have := HJ1.out; have := HK2.out; have := HJ11.out; omega⟩, ⟨by (with_reducible repeat (first | apply Kd.R_alloc | apply Kd.R_drewN | apply Kd.R_drew)); exact HO_3.out⟩, ⟨HBa⟩⟩
        rw [if_neg c20] at H
        obtain ⟨c20b0, c20b1⟩ := QFz c20
        by_cases c22 : x3_2.length < 140737488355328
        ·rw [if_pos c22] at H
         have LMc22 := Aside0.mk c22
         clear c22
         obtain ⟨y181, hy181⟩ : ∃ y_ : List Int, y_ = (x3_2 ++ [((bt a0 x17_2) + 32) % 256]) := ⟨_, rfl⟩
         replace H : (Gf.l0 kj11 a0 y181 (a0.size : Int) (wrap64 (x17_2 + 1))) = some r := by first | (rw [hy181]; with_reducible exact H) | (have H2_ := (Option.bind_some _ _).symm.trans H; rw [hy181]; with_reducible exact H2_) | (have H2_ := (Option.bind_some _ _).symm.trans H; with_reducible exact H2_) | with_reducible exact H | (rw [hy181]; exact H) | exact H
         have Ny181 := Aside0.mk hy181
         clear hy181
         have H' := Aside0.mk H
         clear H
         obtain ⟨Ao23, co23, eo23⟩ := Kd.R_slice HO_3.out
         subst eo23
         have p180 : 0 ≤ ((ji17) : Int) := ODz
         have q180 : (ji17) < (x3_2.length : Int) := ODz
         obtain ⟨ad180, e180, hx180_0⟩ := Kd.at_int (Kd.R_reads' HO_3.out).2.2 (ji17) p180 q180
         cases e180
         replace p180 := eq_true p180
         replace q180 := eq_true q180
         go_wp2_with (first | ((with_reducible refine gate_builtin (b := .append) (xs := #[.tmp 47, .tmp 49]) rfl ?_); (try (refine gate_guard (by rfl) ?_; dsimp only)); at_builtin; refine Kd.R_append (Kd.int .u8) (w0 := w) w.heap.size rfl (.tmp 47) (.tmp 49) 35 5 (.int .u8 0) 1 rfl Tryz.underlying35 info5 rfl (by decide) (by omega) (.slice (some ad180) x3_2.length co23) x3_2 (((bt a0 x17_2) + 32) % 256) [.int .u8 (((bt a0 x17_2) + 32) % 256)] (fun _ => True) (fun _ => False) rfl rfl ?aP (fun _ hk => hk.elim) ?aF ?aO ?aB ?aS ?aL ?_; (case aP => exact rfl); (case aB => exact HBa); (case aF => exact (fun _ _ => trivial)); (case aO => exact (KRz HO_3)); (case aS => exact (below_size HBa)); (case aL => have := LMc22.out; omega); intro v182 w24 ho hb hg hat; rw [← Ny181.out] at ho; have n0_ := Aside0.mk (hb); have n1_ := Aside0.mk (ho); clear HB; clear HO_3; have HB := n0_; have HO183 := n1_; clear n0_ n1_; clear ho hb hg hat))
         go_roundg kj11
         case measure => have := HJ1.out; have := HK2.out; have := HJ11.out; omega
         case rel => exact ⟨(y181), (wrap64 (x17_2 + 1)), EZc, H', ⟨by have := HJ1.out; have := HK2.out; have := HJ11.out; omega⟩, ⟨by (with_reducible repeat (first | apply Kd.R_alloc | apply Kd.R_drewN | apply Kd.R_drew)); exact HO183.out⟩, ⟨HBa⟩⟩
        rw [if_neg c22] at H
        exact absurd H (by simp)
       replace c14 := Bool.eq_false_iff.mpr c14
       subst c14
       have H1 : (if (bt a0 x17_2) = 32 then (if (x3_2.length : Int) > 0 then (if 0 ≤ (wrap64 ((x3_2.length : Int) - 1)) then (if (wrap64 ((x3_2.length : Int) - 1)) < (x3_2.length : Int) then (if (rd x3_2 (wrap64 ((x3_2.length : Int) - 1))) = 32 then (Gf.l0 kj11 a0 x3_2 (a0.size : Int) (wrap64 (x17_2 + 1))) else (if x3_2.length < 140737488355328 then (Gf.l0 kj11 a0 (x3_2 ++ [(bt a0 x17_2)]) (a0.size : Int) (wrap64 (x17_2 + 1))) else (none))) else (none)) else (none)) else (Gf.l0 kj11 a0 x3_2 (a0.size : Int) (wrap64 (x17_2 + 1)))) else (if x3_2.length < 140737488355328 then (Gf.l0 kj11 a0 (x3_2 ++ [(bt a0 x17_2)]) (a0.size : Int) (wrap64 (x17_2 + 1))) else (none))) = some r := by rw [if_neg (show ¬ (false = true) by decide)] at H; exact H
       clear H
       have H := H1
       clear H1
       by_cases c28 : (bt a0 x17_2) = 32
       rotate_left
       ·rw [if_neg c28] at H
        obtain ⟨c28b0, c28b1⟩ := QFz c28
        by_cases c39 : x3_2.length < 140737488355328
        ·rw [if_pos c39] at H
         have LMc39 := Aside0.mk c39
         clear c39
         obtain ⟨y191, hy191⟩ : ∃ y_ : List Int, y_ = (x3_2 ++ [(bt a0 x17_2)]) := ⟨_, rfl⟩
         replace H : (Gf.l0 kj11 a0 y191 (a0.size : Int) (wrap64 (x17_2 + 1))) = some r := by first | (rw [hy191]; with_reducible exact H) | (have H2_ := (Option.bind_some _ _).symm.trans H; rw [hy191]; with_reducible exact H2_) | (have H2_ := (Option.bind_some _ _).symm.trans H; with_reducible exact H2_) | with_reducible exact H | (rw [hy191]; exact H) | exact H
         have Ny191 := Aside0.mk hy191
         clear hy191
         have H' := Aside0.mk H
         clear H
         go_wp2_with (first | ((with_reducible refine gate_builtin (b := .append) (xs := #[.tmp 47, .tmp 49]) rfl ?_); (try (refine gate_guard (by rfl) ?_; dsimp only)); at_builtin; refine Kd.R_append (Kd.int .u8) (w0 := w) w.heap.size rfl (.tmp 47) (.tmp 49) 35 5 (.int .u8 0) 1 rfl Tryz.underlying35 info5 rfl (by decide) (by omega) u3 x3_2 (bt a0 x17_2) [.int .u8 (bt a0 x17_2)] (fun _ => True) (fun _ => False) rfl rfl ?aP (fun _ hk => hk.elim) ?aF ?aO ?aB ?aS ?aL ?_; (case aP => exact rfl); (case aB => exact HBa); (case aF => exact (fun _ _ => trivial)); (case aO => exact (KRz HO_3)); (case aS => exact (below_size HBa)); (case aL => have := LMc39.out; omega); intro v192 w40 ho hb hg hat; rw [← Ny191.out] at ho; have n0_ := Aside0.mk (hb); have n1_ := Aside0.mk (ho); clear HB; clear HO_3; have HB := n0_; have HO193 := n1_; clear n0_ n1_; clear ho hb hg hat))
         go_roundg kj11
         case measure => have := HJ1.out; have := HK2.out; have := HJ11.out; omega
         case rel => exact ⟨(y191), (wrap64 (x17_2 + 1)), EZc, H', ⟨by have := HJ1.out; have := HK2.out; have := HJ11.out; omega⟩, ⟨by (with_reducible repeat (first | apply Kd.R_alloc | apply Kd.R_drewN | apply Kd.R_drew)); exact HO193.out⟩, ⟨HBa⟩⟩
        rw [if_neg c39] at H
        exact absurd H (by simp)
       rw [if_pos c28] at H
       obtain ⟨c28b0, c28b1⟩ := QTz c28
       clear c28
       by_cases c29 : (x3_2.length : Int) > 0
       rotate_left
       ·rw [if_neg c29] at H
        have c29b0 : decide (0 < (x3_2.length : Int)) = false := decide_eq_false c29
        have c29b1 : decide (0 < x3_2.length) = false := decide_eq_false (by omega)
        clear c29
        have H' := Aside0.mk H
        clear H
        obtain ⟨Ao38, co38, eo38⟩ := Kd.R_slice HO_3.out
        subst eo38
        go_wp2
        go_roundg kj11
        case measure => have := HJ1.out; have := HK2.out; have := HJ11.out; omega
        case rel => exact ⟨(x3_2), (wrap64 (x17_2 + 1)), EZc, H', ⟨by have := HJ1.out; have := HK2.out; have := HJ11.out; omega⟩, ⟨by (with_reducible repeat (first | apply Kd.R_alloc | apply Kd.R_drewN | apply Kd.R_drew)); exact HO_3.out⟩, ⟨HBa⟩⟩
       rw [if_pos c29] at H
       have c29b0 : decide (0 < (x3_2.length : Int)) = true := decide_eq_true c29
       have c29b1 : decide (0 < x3_2.length) = true := decide_eq_true (by omega)
       clear c29
       obtain ⟨ji30, hji30⟩ : ∃ j_ : Int, (wrap64 ((x3_2.length : Int) - 1)) = j_ := ⟨_, rfl⟩
       replace H : (if 0 ≤ (ji30) then (if (ji30) < (x3_2.length : Int) then (if (rd x3_2 (ji30)) = 32 then (Gf.l0 kj11 a0 x3_2 (a0.size : Int) (wrap64 (x17_2 + 1))) else (if x3_2.length < 140737488355328 then (Gf.l0 kj11 a0 (x3_2 ++ [(bt a0 x17_2)]) (a0.size : Int) (wrap64 (x17_2 + 1))) else (none))) else (none)) else (none)) = some r := by first | (rw [hji30] at H; exact H) | (simp only [hji30] at H ⊢; exact H)
       have hji30w : (IntKind.i64.wrap ((x3_2.length : Int) - 1)) = ji30 := (i64_w _).trans hji30
       by_cases c31 : 0 ≤ (ji30)
       rotate_left
       ·rw [if_neg c31] at H
        exact absurd H (by simp)
       rw [if_pos c31] at H
       have c31b0 := decide_eq_true c31
       clear c31
       by_cases c32 : (ji30) < (x3_2.length : Int)
       rotate_left
       ·rw [if_neg c32] at H
        exact absurd H (by simp)
       rw [if_pos c32] at H
       have c32b0 := decide_eq_true c32
       clear c32
       by_cases c33 : (rd x3_2 (ji30)) = 32
       ·rw [if_pos c33] at H
        obtain ⟨c33b0, c33b1⟩ := QTz c33
        clear c33
        have H' := Aside0.mk H
        clear H
        obtain ⟨Ao34, co34, eo34⟩ := Kd.R_slice HO_3.out
        subst eo34
        have p187 : 0 ≤ ((ji30) : Int) := ODz
        have q187 : (ji30) < (x3_2.length : Int) := ODz
        obtain ⟨ad187, e187, hx187_0⟩ := Kd.at_int (Kd.R_reads' HO_3.out).2.2 (ji30) p187 q187
        cases e187
        replace p187 := eq_true p187
        replace q187 := eq_true q187
        go_wp2
        go_roundg kj11
        case measure => have := HJ1.out; have := HK2.out; have := HJ11.out; omega
        case rel => exact ⟨(x3_2), (wrap64 (x17_2 + 1)), EZc, H', ⟨by have := HJ1.out; have := HK2.out; have := HJ11.out; omega⟩, ⟨by (with_reducible repeat (first | apply Kd.R_alloc | apply Kd.R_drewN | apply Kd.R_drew)); exact HO_3.out⟩, ⟨HBa⟩⟩
       rw [if_neg c33] at H
       obtain ⟨c33b0, c33b1⟩ := QFz c33
       by_cases c35 : x3_2.length < 140737488355328
       ·rw [if_pos c35] at H
        have LMc35 := Aside0.mk c35
        clear c35
        obtain ⟨y188, hy188⟩ : ∃ y_ : List Int, y_ = (x3_2 ++ [(bt a0 x17_2)]) := ⟨_, rfl⟩
        replace H : (Gf.l0 kj11 a0 y188 (a0.size : Int) (wrap64 (x17_2 + 1))) = some r := by first | (rw [hy188]; with_reducible exact H) | (have H2_ := (Option.bind_some _ _).symm.trans H; rw [hy188]; with_reducible exact H2_) | (have H2_ := (Option.bind_some _ _).symm.trans H; with_reducible exact H2_) | with_reducible exact H | (rw [hy188]; exact H) | exact H
        have Ny188 := Aside0.mk hy188
        clear hy188
        have H' := Aside0.mk H
        clear H
        obtain ⟨Ao36, co36, eo36⟩ := Kd.R_slice HO_3.out
        subst eo36
        have p187 : 0 ≤ ((ji30) : Int) := ODz
        have q187 : (ji30) < (x3_2.length : Int) := ODz
        obtain ⟨ad187, e187, hx187_0⟩ := Kd.at_int (Kd.R_reads' HO_3.out).2.2 (ji30) p187 q187
        cases e187
        replace p187 := eq_true p187
        replace q187 := eq_true q187
        go_wp2_with (first | ((with_reducible refine gate_builtin (b := .append) (xs := #[.tmp 47, .tmp 49]) rfl ?_); (try (refine gate_guard (by rfl) ?_; dsimp only)); at_builtin; refine Kd.R_append (Kd.int .u8) (w0 := w) w.heap.size rfl (.tmp 47) (.tmp 49) 35 5 (.int .u8 0) 1 rfl Tryz.underlying35 info5 rfl (by decide) (by omega) (.slice (some ad187) x3_2.length co36) x3_2 (bt a0 x17_2) [.int .u8 (bt a0 x17_2)] (fun _ => True) (fun _ => False) rfl rfl ?aP (fun _ hk => hk.elim) ?aF ?aO ?aB ?aS ?aL ?_; (case aP => exact rfl); (case aB => exact HBa); (case aF => exact (fun _ _ => trivial)); (case aO => exact (KRz HO_3)); (case aS => exact (below_size HBa)); (case aL => have := LMc35.out; omega); intro v189 w37 ho hb hg hat; rw [← Ny188.out] at ho; have n0_ := Aside0.mk (hb); have n1_ := Aside0.mk (ho); clear HB; clear HO_3; have HB := n0_; have HO190 := n1_; clear n0_ n1_; clear ho hb hg hat))
        go_roundg kj11
        case measure => have := HJ1.out; have := HK2.out; have := HJ11.out; omega
        case rel => exact ⟨(y188), (wrap64 (x17_2 + 1)), EZc, H', ⟨by have := HJ1.out; have := HK2.out; have := HJ11.out; omega⟩, ⟨by (with_reducible repeat (first | apply Kd.R_alloc | apply Kd.R_drewN | apply Kd.R_drew)); exact HO190.out⟩, ⟨HBa⟩⟩
       rw [if_neg c35] at H
       exact absurd H (by simp)
def Gm.f (k : Nat) (a0 : ByteArray) : Option (Bool) := if (a0.size : Int) ≥ 1 then (if (a0.size : Int) ≤ 40 then ((Gf.f k a0).bind fun t194 => (some (t194.toList != ([] : List UInt8)))) else (some false)) else (some false)
theorem Gm.mono : ∀ a0 k, LeO (Gm.f k a0) (Gm.f (k + 1) a0) := by
 intro a0 k
 unfold Gm.f
 with_reducible repeat' first | exact Gf.mono _ _ | exact LeO.refl _ | exact LeO.none _ | refine LeO.ite ?_ ?_ | refine LeO.bind ?_ (fun _ => ?_)
set_option maxHeartbeats 8000000 in
set_option maxRecDepth 100000 in
theorem Gm.calls (k : Nat) (a0 : ByteArray) (r : Bool) (w : World) (h : Gm.f k a0 = some r) :
  Calls Tryz.prog 88 #[.string a0] w fun e w' => e = .returned (.bool r) ∧ Below w.heap.size w w' := by
 have HB := Aside0.mk (Below.refl w.heap.size w)
 have H : (if (a0.size : Int) ≥ 1 then (if (a0.size : Int) ≤ 40 then ((Gf.f k a0).bind fun t194 => (some (t194.toList != ([] : List UInt8)))) else (some false)) else (some false)) = some r := h
 clear h
 by_cases c2 : (a0.size : Int) ≥ 1
 rotate_left
 ·rw [if_neg c2] at H
  have c2b0 : decide (1 ≤ (a0.size : Int)) = false := decide_eq_false c2
  have c2b1 : decide (1 ≤ a0.size) = false := decide_eq_false (by omega)
  clear c2
  obtain rfl := Option.some.inj H
  clear H
  go_enter Tryz.func88, Tryz.ntmps88
  go_wp2
  go_ret
  exact ⟨EZa, HBa⟩
 rw [if_pos c2] at H
 have c2b0 : decide (1 ≤ (a0.size : Int)) = true := decide_eq_true c2
 have c2b1 : decide (1 ≤ a0.size) = true := decide_eq_true (by omega)
 clear c2
 by_cases c3 : (a0.size : Int) ≤ 40
 rotate_left
 ·rw [if_neg c3] at H
  have c3b0 := decide_eq_false c3
  have c3b1 : decide (a0.size ≤ 40) = false := decide_eq_false (by omega)
  clear c3
  obtain rfl := Option.some.inj H
  clear H
  go_enter Tryz.func88, Tryz.ntmps88
  go_wp2
  go_ret
  exact ⟨EZa, HBa⟩
 rw [if_pos c3] at H
 have c3b0 := decide_eq_true c3
 have c3b1 : decide (a0.size ≤ 40) = true := decide_eq_true (by omega)
 clear c3
 replace H := Option.bind_eq_some_iff.mp H
 obtain ⟨t194, A40, H⟩ := H
 replace H : (some (t194.toList != ([] : List UInt8))) = some r := H
 have A4 := Aside0.mk A40
 clear A40
 obtain rfl := Option.some.inj H
 clear H
 go_enter Tryz.func88, Tryz.ntmps88
 go_wp2_with (first | (go_at_call 122; (with_reducible refine (Gf.calls k a0 t194 _ A4.out).mono ?_); rintro e w5 ⟨rfl, hb⟩; have n0_ := Aside0.mk (below_step HBa hb); clear HB; have HB := n0_; clear n0_; (try clear hb); (try clear hb2); (try clear hk); (try clear hi)))
 go_ret
 exact ⟨EZa, HBa⟩
end Go.Proofs.YtmkeigielncpjaaGreatDoor.PFnFilter
