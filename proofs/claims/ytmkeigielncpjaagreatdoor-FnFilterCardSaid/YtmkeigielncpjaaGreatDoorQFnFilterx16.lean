-- Laid by this session's own program out of the translation; Lean checks it.
import Derived.Test.YtmkeigielncpjaaGreatDoorQFnFilterx0
namespace Go.Proofs.YtmkeigielncpjaaGreatDoor.PFnFilter
open Go.RowKit Go.Proofs.YtmkeigielncpjaaGreatDoorW.PrintWords Go.Proofs.YtmkeigielncpjaaGreatDoorW.PrintLast Go.Proofs.YtmkeigielncpjaaGreatDoorW.PrintMore
attribute [local go_sem] max2_int min2_int max_two min_two max_three min_three max_four min_four   -- for this text's walks alone
set_option linter.unusedVariables false
set_option linter.unusedSimpArgs false
mutual
def Qq.l0 : Nat → ByteArray → List Int → Int → Option (ByteArray)
 | 0, _, _, _ => none
 | k + 1, x0, x3, x4 => if x4 < (x0.size : Int) then (if 0 ≤ x4 then (if (bt x0 x4) = 92 then (Qq.j1 k x0 x3 x4 (bt x0 x4) (decide ((wrap64 (x4 + 2)) < (x0.size : Int)))) else (Qq.j1 k x0 x3 x4 (bt x0 x4) false)) else (none)) else (some (strOfNums x3))
def Qq.j1 : Nat → ByteArray → List Int → Int → Int → Bool → Option (ByteArray)
 | 0, _, _, _, _, _ => none
 | k + 1, x0, x3, x4, x5, x24 => if x24 = true then (if 0 ≤ (wrap64 (x4 + 1)) then (if (wrap64 (x4 + 1)) ≤ (wrap64 (x4 + 3)) then (if (wrap64 (x4 + 3)) ≤ (x0.size : Int) then (if (x0.extract ((wrap64 (x4 + 1)) : Int).toNat ((wrap64 (x4 + 3)) : Int).toNat).toList = ([50, 97] : List UInt8) then (if x3.length < 140737488355328 then (Qq.l0 k x0 (x3 ++ [42]) (wrap64 ((wrap64 (x4 + 2)) + 1))) else (none)) else (if (x0.extract ((wrap64 (x4 + 1)) : Int).toNat ((wrap64 (x4 + 3)) : Int).toNat).toList = ([50, 56] : List UInt8) then (if x3.length < 140737488355328 then (Qq.l0 k x0 (x3 ++ [40]) (wrap64 ((wrap64 (x4 + 2)) + 1))) else (none)) else (if (x0.extract ((wrap64 (x4 + 1)) : Int).toNat ((wrap64 (x4 + 3)) : Int).toNat).toList = ([50, 57] : List UInt8) then (if x3.length < 140737488355328 then (Qq.l0 k x0 (x3 ++ [41]) (wrap64 ((wrap64 (x4 + 2)) + 1))) else (none)) else (if x3.length < 140737488355328 then (Qq.l0 k x0 (x3 ++ [x5]) (wrap64 ((wrap64 (x4 + 2)) + 1))) else (none))))) else (none)) else (none)) else (none)) else (if x3.length < 140737488355328 then (Qq.l0 k x0 (x3 ++ [x5]) (wrap64 (x4 + 1))) else (none))
end
def Qq.f (k : Nat) (a0 : ByteArray) : Option (ByteArray) := Qq.l0 k a0 (([] : List Int)) 0
theorem Qq.mono_l : ∀ k, (∀ y0 y1 y2, LeO (Qq.l0 k y0 y1 y2) (Qq.l0 (k + 1) y0 y1 y2)) ∧ (∀ y0 y1 y2 y3 y4, LeO (Qq.j1 k y0 y1 y2 y3 y4) (Qq.j1 (k + 1) y0 y1 y2 y3 y4))
 | 0 => ⟨fun _ _ _ r h => by simp [Qq.l0] at h, fun _ _ _ _ _ r h => by simp [Qq.j1] at h⟩
 | k + 1 => by
  obtain ⟨ih0, ih1⟩ := Qq.mono_l k
  refine ⟨?_, ?_⟩
  ·intro y0 y1 y2
   unfold Qq.l0
   with_reducible repeat' first | exact ih0 _ _ _ | exact ih1 _ _ _ _ _ | exact LeO.refl _ | exact LeO.none _ | refine LeO.ite ?_ ?_ | refine LeO.bind ?_ (fun _ => ?_)
  ·intro y0 y1 y2 y3 y4
   unfold Qq.j1
   with_reducible repeat' first | exact ih0 _ _ _ | exact ih1 _ _ _ _ _ | exact LeO.refl _ | exact LeO.none _ | refine LeO.ite ?_ ?_ | refine LeO.bind ?_ (fun _ => ?_)
theorem Qq.mono : ∀ a0 k, LeO (Qq.f k a0) (Qq.f (k + 1) a0) := by
 intro a0 k
 obtain ⟨ih0, ih1⟩ := Qq.mono_l k
 unfold Qq.f
 with_reducible repeat' first | exact ih0 _ _ _ | exact ih1 _ _ _ _ _ | exact LeO.refl _ | exact LeO.none _ | refine LeO.ite ?_ ?_ | refine LeO.bind ?_ (fun _ => ?_)
set_option maxHeartbeats 8000000 in
set_option maxRecDepth 100000 in
theorem Qq.calls (k : Nat) (a0 : ByteArray) (r : ByteArray) (w : World) (h : Qq.f k a0 = some r) :
  Calls Tryz.prog 151 #[.string a0] w fun e w' => e = .returned (.string r) ∧ Below w.heap.size w w' := by
 have HB := Aside0.mk (Below.refl w.heap.size w)
 have H : (Qq.l0 k a0 (([] : List Int)) 0) = some r := h
 clear h
 obtain ⟨y266, hy266⟩ : ∃ y_ : List Int, y_ = (([] : List Int)) := ⟨_, rfl⟩
 replace H : (Qq.l0 k a0 y266 0) = some r := by first | (rw [hy266]; with_reducible exact H) | (have H2_ := (Option.bind_some _ _).symm.trans H; rw [hy266]; with_reducible exact H2_) | (have H2_ := (Option.bind_some _ _).symm.trans H; with_reducible exact H2_) | with_reducible exact H | (rw [hy266]; exact H) | exact H
 have Ny266 := Aside0.mk hy266
 clear hy266
 have H' := Aside0.mk H
 clear H
 go_enter Tryz.func151, Tryz.ntmps151
 go_wp2_with (first | ((with_reducible refine gate_dst (N := 6) rfl ?_); (try (refine gate_guard (by rfl) ?_; dsimp only)); refine Kd.R_lit (Kd.int .u8) _ 5 ?hg (N := 6) ?hd (xs := ([] : List Int)) (inner := []) (ok := fun _ => True) (okp := fun _ => True) ?hr ?hp (fun _ hk => hk) trivial (Below.refl _ _) (Nat.le_refl _) (by simp) ?_; (case hd => rfl); (case hg => rfl); (case hr => first | (go_simp; done) | (go_simp; rfl)); (case hp => exact (Reps.none _ _)); intro v267 w2 ho3 hb hg_ hnew_; clear hg_ hnew_; (first | rw [← Ny266.out] at ho3 | (simp only [Int.reduceToNat] at ho3; rw [← Ny266.out] at ho3)); have n0_ := Aside0.mk (Kd.R_lower ho3 (below_size HBa)); have n1_ := Aside0.mk (below_step HBa hb); clear HB; have HO268 := n0_; have HB := n1_; clear n0_ n1_; clear hb ho3))
 go_loopg [3, 4] k (fun kq v3 v4 w' => ∃ (x3_1 : List Int) (x4_1 : Int), v4 = .int .i64 x4_1 ∧ Aside0 (Qq.l0 kq a0 x3_1 x4_1 = some r) ∧ Aside0 (kq ≤ k) ∧ Aside0 (Kd.R (Kd.int .u8) 5 w' w.heap.size (fun _ => True) v3 x3_1) ∧ Aside0 (Below w.heap.size w w'))
 case atStart => exact ⟨(y266), (0), EZc, H', ⟨Nat.le_refl _⟩, ⟨by (with_reducible repeat (first | apply Kd.R_alloc | apply Kd.R_drewN | apply Kd.R_drew)); exact HO268.out⟩, ⟨HBa⟩⟩
 case round =>
  clear H'
  obtain ⟨x3_1, x4_1, rfl, HA, HK1, HO_3, HB⟩ := hrel
  cases gk with
  | zero => exact absurd HA.out (by simp [Qq.l0])
  | succ k1 =>
   have H := HA.out
   clear HA
   simp only [Qq.l0] at H
   by_cases c4 : x4_1 < (a0.size : Int)
   rotate_left
   ·rw [if_neg c4] at H
    have c4b0 := decide_eq_false c4
    clear c4
    obtain rfl := Option.some.inj H
    clear H
    have hcv27 := own_string (P := Tryz.prog) Tryz.underlying35 Tryz.underlying5 Tryz.underlying9 (Kd.own_of_R HO_3.out)
    go_wp2
    go_ret
    exact ⟨EZa, HBa⟩
   rw [if_pos c4] at H
   have c4b0 := decide_eq_true c4
   clear c4
   by_cases c5 : 0 ≤ x4_1
   rotate_left
   ·rw [if_neg c5] at H
    exact absurd H (by simp)
   rw [if_pos c5] at H
   have c5b0 := decide_eq_true c5
   clear c5
   have HC7 := Aside0.mk H
   clear H
   have p6 : 0 ≤ (x4_1 : Int) := ODz
   have q6 : x4_1 < (a0.size : Int) := ODz
   have hx6 := bt_at a0 x4_1
   replace p6 := eq_true p6
   replace q6 := eq_true q6
   go_upto_region 6 with (fail)
   go_cut [24] (fun v24 wc => ∃ (kq : Nat) (x24_6 : Bool), v24 = .bool x24_6 ∧ Aside0 (Qq.j1 kq a0 x3_1 x4_1 (bt a0 x4_1) x24_6 = some r) ∧ Aside0 (kq ≤ k1) ∧ Aside0 (Kd.R (Kd.int .u8) 5 wc w.heap.size (fun _ => True) u3 x3_1) ∧ Aside0 (Below w.heap.size w wc))
   case first =>
    have H := HC7.out
    clear HC7
    by_cases c8 : (bt a0 x4_1) = 92
    ·rw [if_pos c8] at H
     obtain ⟨c8b0, c8b1⟩ := QTz c8
     clear c8
     (first | rw [c8b0] | rw [c8v0] | (simp only [i64_w, i32_w]; rw [c8b0]) | (simp only [i64_w, i32_w]; rw [c8v0]) | skip)
     have H' := Aside0.mk H
     clear H
     go_wp2
     go_meet
     case rel => exact ⟨_, (decide ((wrap64 (x4_1 + 2)) < (a0.size : Int))), EZc, H', ⟨by have := HK1.out; first | omega | exact Nat.le_refl _⟩, ⟨by (with_reducible repeat (first | apply Kd.R_alloc | apply Kd.R_drewN | apply Kd.R_drew)); exact HO_3.out⟩, ⟨HBa⟩⟩
    rw [if_neg c8] at H
    obtain ⟨c8b0, c8b1⟩ := QFz c8
    (first | rw [c8b0] | rw [c8v0] | (simp only [i64_w, i32_w]; rw [c8b0]) | (simp only [i64_w, i32_w]; rw [c8v0]) | skip)
    have H' := Aside0.mk H
    clear H
    go_wp2
    go_meet
    case rel => exact ⟨_, (false), EZc, H', ⟨by have := HK1.out; first | omega | exact Nat.le_refl _⟩, ⟨by (with_reducible repeat (first | apply Kd.R_alloc | apply Kd.R_drewN | apply Kd.R_drew)); exact HO_3.out⟩, ⟨HBa⟩⟩
   case rest =>
    clear HC7
    try clear c4
    try clear c4b0
    try clear c5
    try clear c5b0
    try clear p6
    try clear q6
    try clear hx6
    try clear p6
    try clear q6
    obtain ⟨kq, x24_6, rfl, HA, HJ6, HO_3, HB⟩ := hcut
    cases kq with
    | zero => exact absurd HA.out (by simp [Qq.j1])
    | succ kj6 =>
     have H := HA.out
     clear HA
     simp only [Qq.j1] at H
     by_cases c9 : x24_6 = true
     rotate_left
     ·replace c9 := Bool.eq_false_iff.mpr c9
      subst c9
      have H1 : (if x3_1.length < 140737488355328 then (Qq.l0 kj6 a0 (x3_1 ++ [(bt a0 x4_1)]) (wrap64 (x4_1 + 1))) else (none)) = some r := by rw [if_neg (show ¬ (false = true) by decide)] at H; exact H
      clear H
      have H := H1
      clear H1
      by_cases c25 : x3_1.length < 140737488355328
      ·rw [if_pos c25] at H
       have LMc25 := Aside0.mk c25
       clear c25
       obtain ⟨y281, hy281⟩ : ∃ y_ : List Int, y_ = (x3_1 ++ [(bt a0 x4_1)]) := ⟨_, rfl⟩
       replace H : (Qq.l0 kj6 a0 y281 (wrap64 (x4_1 + 1))) = some r := by first | (rw [hy281]; with_reducible exact H) | (have H2_ := (Option.bind_some _ _).symm.trans H; rw [hy281]; with_reducible exact H2_) | (have H2_ := (Option.bind_some _ _).symm.trans H; with_reducible exact H2_) | with_reducible exact H | (rw [hy281]; exact H) | exact H
       have Ny281 := Aside0.mk hy281
       clear hy281
       have H' := Aside0.mk H
       clear H
       go_wp2_with (first | ((with_reducible refine gate_builtin (b := .append) (xs := #[.tmp 39, .tmp 41]) rfl ?_); (try (refine gate_guard (by rfl) ?_; dsimp only)); at_builtin; refine Kd.R_append (Kd.int .u8) (w0 := w) w.heap.size rfl (.tmp 39) (.tmp 41) 35 5 (.int .u8 0) 1 rfl Tryz.underlying35 info5 rfl (by decide) (by omega) u3 x3_1 (bt a0 x4_1) [.int .u8 (bt a0 x4_1)] (fun _ => True) (fun _ => False) rfl rfl ?aP (fun _ hk => hk.elim) ?aF ?aO ?aB ?aS ?aL ?_; (case aP => exact rfl); (case aB => exact HBa); (case aF => exact (fun _ _ => trivial)); (case aO => exact (KRz HO_3)); (case aS => exact (below_size HBa)); (case aL => have := LMc25.out; omega); intro v282 w26 ho hb hg hat; rw [← Ny281.out] at ho; have n0_ := Aside0.mk (hb); have n1_ := Aside0.mk (ho); clear HB; clear HO_3; have HB := n0_; have HO283 := n1_; clear n0_ n1_; clear ho hb hg hat))
       go_roundg kj6
       case measure => have := HK1.out; have := HJ6.out; omega
       case rel => exact ⟨(y281), (wrap64 (x4_1 + 1)), EZc, H', ⟨by have := HK1.out; have := HJ6.out; omega⟩, ⟨by (with_reducible repeat (first | apply Kd.R_alloc | apply Kd.R_drewN | apply Kd.R_drew)); exact HO283.out⟩, ⟨HBa⟩⟩
      rw [if_neg c25] at H
      exact absurd H (by simp)
     subst c9
     have H1 : (if 0 ≤ (wrap64 (x4_1 + 1)) then (if (wrap64 (x4_1 + 1)) ≤ (wrap64 (x4_1 + 3)) then (if (wrap64 (x4_1 + 3)) ≤ (a0.size : Int) then (if (a0.extract ((wrap64 (x4_1 + 1)) : Int).toNat ((wrap64 (x4_1 + 3)) : Int).toNat).toList = ([50, 97] : List UInt8) then (if x3_1.length < 140737488355328 then (Qq.l0 kj6 a0 (x3_1 ++ [42]) (wrap64 ((wrap64 (x4_1 + 2)) + 1))) else (none)) else (if (a0.extract ((wrap64 (x4_1 + 1)) : Int).toNat ((wrap64 (x4_1 + 3)) : Int).toNat).toList = ([50, 56] : List UInt8) then (if x3_1.length < 140737488355328 then (Qq.l0 kj6 a0 (x3_1 ++ [40]) (wrap64 ((wrap64 (x4_1 + 2)) + 1))) else (none)) else (if (a0.extract ((wrap64 (x4_1 + 1)) : Int).toNat ((wrap64 (x4_1 + 3)) : Int).toNat).toList = ([50, 57] : List UInt8) then (if x3_1.length < 140737488355328 then (Qq.l0 kj6 a0 (x3_1 ++ [41]) (wrap64 ((wrap64 (x4_1 + 2)) + 1))) else (none)) else (if x3_1.length < 140737488355328 then (Qq.l0 kj6 a0 (x3_1 ++ [(bt a0 x4_1)]) (wrap64 ((wrap64 (x4_1 + 2)) + 1))) else (none))))) else (none)) else (none)) else (none)) = some r := by rw [if_pos rfl] at H; exact H
     clear H
     have H := H1
     clear H1
     obtain ⟨ji10, hji10⟩ : ∃ j_ : Int, (wrap64 (x4_1 + 1)) = j_ := ⟨_, rfl⟩
     replace H : (if 0 ≤ (ji10) then (if (ji10) ≤ (wrap64 (x4_1 + 3)) then (if (wrap64 (x4_1 + 3)) ≤ (a0.size : Int) then (if (a0.extract ((ji10) : Int).toNat ((wrap64 (x4_1 + 3)) : Int).toNat).toList = ([50, 97] : List UInt8) then (if x3_1.length < 140737488355328 then (Qq.l0 kj6 a0 (x3_1 ++ [42]) (wrap64 ((wrap64 (x4_1 + 2)) + 1))) else (none)) else (if (a0.extract ((ji10) : Int).toNat ((wrap64 (x4_1 + 3)) : Int).toNat).toList = ([50, 56] : List UInt8) then (if x3_1.length < 140737488355328 then (Qq.l0 kj6 a0 (x3_1 ++ [40]) (wrap64 ((wrap64 (x4_1 + 2)) + 1))) else (none)) else (if (a0.extract ((ji10) : Int).toNat ((wrap64 (x4_1 + 3)) : Int).toNat).toList = ([50, 57] : List UInt8) then (if x3_1.length < 140737488355328 then (Qq.l0 kj6 a0 (x3_1 ++ [41]) (wrap64 ((wrap64 (x4_1 + 2)) + 1))) else (none)) else (if x3_1.length < 140737488355328 then (Qq.l0 kj6 a0 (x3_1 ++ [(bt a0 x4_1)]) (wrap64 ((wrap64 (x4_1 + 2)) + 1))) else (none))))) else (none)) else (none)) else (none)) = some r := by first | (rw [hji10] at H; exact H) | (simp only [hji10] at H ⊢; exact H)
     have hji10w : (IntKind.i64.wrap (x4_1 + 1)) = ji10 := (i64_w _).trans hji10
     by_cases c11 : 0 ≤ (ji10)
     rotate_left
     ·rw [if_neg c11] at H
      exact absurd H (by simp)
     rw [if_pos c11] at H
     have c11b0 := eq_true c11
     have c11b1 := decide_eq_true c11
     clear c11
     by_cases c12 : (ji10) ≤ (wrap64 (x4_1 + 3))
     rotate_left
     ·rw [if_neg c12] at H
      exact absurd H (by simp)
     rw [if_pos c12] at H
     have c12b0 := eq_true c12
     have c12b1 := decide_eq_true c12
     by_cases c13 : (wrap64 (x4_1 + 3)) ≤ (a0.size : Int)
     rotate_left
     ·rw [if_neg c13] at H
      exact absurd H (by simp)
     rw [if_pos c13] at H
     have c13b0 := eq_true c13
     have c13b1 := decide_eq_true c13
     by_cases c14 : (a0.extract ((ji10) : Int).toNat ((wrap64 (x4_1 + 3)) : Int).toNat).toList = ([50, 97] : List UInt8)
     ·rw [if_pos c14] at H
      have c14b0 : ((a0.extract ((ji10) : Int).toNat ((wrap64 (x4_1 + 3)) : Int).toNat).toList == ([50, 97] : List UInt8)) = true := beq_iff_eq.mpr c14
      (try (have c14v0 := c14b0; (try rw [show wrap64 (x4_1 + 3) = x4_1 + 3 from by unfold wrap64; omega] at c14v0)))
      have c14b1 : ((a0.extract ((ji10) : Int).toNat ((wrap64 (x4_1 + 3)) : Int).toNat).toList != ([50, 97] : List UInt8)) = false := bne_eq_false_iff_eq.mpr c14
      (try (have c14v1 := c14b1; (try rw [show wrap64 (x4_1 + 3) = x4_1 + 3 from by unfold wrap64; omega] at c14v1)))
      clear c14
      by_cases c15 : x3_1.length < 140737488355328
      ·rw [if_pos c15] at H
       have LMc15 := Aside0.mk c15
       clear c15
       obtain ⟨y269, hy269⟩ : ∃ y_ : List Int, y_ = (x3_1 ++ [42]) := ⟨_, rfl⟩
       replace H : (Qq.l0 kj6 a0 y269 (wrap64 ((wrap64 (x4_1 + 2)) + 1))) = some r := by first | (rw [hy269]; with_reducible exact H) | (have H2_ := (Option.bind_some _ _).symm.trans H; rw [hy269]; with_reducible exact H2_) | (have H2_ := (Option.bind_some _ _).symm.trans H; with_reducible exact H2_) | with_reducible exact H | (rw [hy269]; exact H) | exact H
       have Ny269 := Aside0.mk hy269
       clear hy269
       have H' := Aside0.mk H
       clear H
       go_wp2_with (first | ((with_reducible refine gate_builtin (b := .append) (xs := #[.tmp 39, .tmp 41]) rfl ?_); (try (refine gate_guard (by rfl) ?_; dsimp only)); at_builtin; refine Kd.R_append (Kd.int .u8) (w0 := w) w.heap.size rfl (.tmp 39) (.tmp 41) 35 5 (.int .u8 0) 1 rfl Tryz.underlying35 info5 rfl (by decide) (by omega) u3 x3_1 42 [.int .u8 42] (fun _ => True) (fun _ => False) rfl rfl ?aP (fun _ hk => hk.elim) ?aF ?aO ?aB ?aS ?aL ?_; (case aP => exact rfl); (case aB => exact HBa); (case aF => exact (fun _ _ => trivial)); (case aO => exact (KRz HO_3)); (case aS => exact (below_size HBa)); (case aL => have := LMc15.out; omega); intro v270 w16 ho hb hg hat; rw [← Ny269.out] at ho; have n0_ := Aside0.mk (hb); have n1_ := Aside0.mk (ho); clear HB; clear HO_3; have HB := n0_; have HO271 := n1_; clear n0_ n1_; clear ho hb hg hat))
       go_roundg kj6
       case measure => have := HK1.out; have := HJ6.out; omega
       case rel => exact ⟨(y269), (wrap64 ((wrap64 (x4_1 + 2)) + 1)), EZc, H', ⟨by have := HK1.out; have := HJ6.out; omega⟩, ⟨by (with_reducible repeat (first | apply Kd.R_alloc | apply Kd.R_drewN | apply Kd.R_drew)); exact HO271.out⟩, ⟨HBa⟩⟩
      rw [if_neg c15] at H
      exact absurd H (by simp)
     rw [if_neg c14] at H
     have c14b0 : ((a0.extract ((ji10) : Int).toNat ((wrap64 (x4_1 + 3)) : Int).toNat).toList == ([50, 97] : List UInt8)) = false := beq_eq_false_iff_ne.mpr c14
     (try (have c14v0 := c14b0; (try rw [show wrap64 (x4_1 + 3) = x4_1 + 3 from by unfold wrap64; omega] at c14v0)))
     have c14b1 : ((a0.extract ((ji10) : Int).toNat ((wrap64 (x4_1 + 3)) : Int).toNat).toList != ([50, 97] : List UInt8)) = true := bne_iff_ne.mpr c14
     (try (have c14v1 := c14b1; (try rw [show wrap64 (x4_1 + 3) = x4_1 + 3 from by unfold wrap64; omega] at c14v1)))
     by_cases c17 : (a0.extract ((ji10) : Int).toNat ((wrap64 (x4_1 + 3)) : Int).toNat).toList = ([50, 56] : List UInt8)
     ·rw [if_pos c17] at H
      have c17b0 : ((a0.extract ((ji10) : Int).toNat ((wrap64 (x4_1 + 3)) : Int).toNat).toList == ([50, 56] : List UInt8)) = true := beq_iff_eq.mpr c17
      (try (have c17v0 := c17b0; (try rw [show wrap64 (x4_1 + 3) = x4_1 + 3 from by unfold wrap64; omega] at c17v0)))
      have c17b1 : ((a0.extract ((ji10) : Int).toNat ((wrap64 (x4_1 + 3)) : Int).toNat).toList != ([50, 56] : List UInt8)) = false := bne_eq_false_iff_eq.mpr c17
      (try (have c17v1 := c17b1; (try rw [show wrap64 (x4_1 + 3) = x4_1 + 3 from by unfold wrap64; omega] at c17v1)))
      clear c17
      by_cases c18 : x3_1.length < 140737488355328
      ·rw [if_pos c18] at H
       have LMc18 := Aside0.mk c18
       clear c18
       obtain ⟨y272, hy272⟩ : ∃ y_ : List Int, y_ = (x3_1 ++ [40]) := ⟨_, rfl⟩
       replace H : (Qq.l0 kj6 a0 y272 (wrap64 ((wrap64 (x4_1 + 2)) + 1))) = some r := by first | (rw [hy272]; with_reducible exact H) | (have H2_ := (Option.bind_some _ _).symm.trans H; rw [hy272]; with_reducible exact H2_) | (have H2_ := (Option.bind_some _ _).symm.trans H; with_reducible exact H2_) | with_reducible exact H | (rw [hy272]; exact H) | exact H
       have Ny272 := Aside0.mk hy272
       clear hy272
       have H' := Aside0.mk H
       clear H
       go_wp2_with (first | ((with_reducible refine gate_builtin (b := .append) (xs := #[.tmp 39, .tmp 41]) rfl ?_); (try (refine gate_guard (by rfl) ?_; dsimp only)); at_builtin; refine Kd.R_append (Kd.int .u8) (w0 := w) w.heap.size rfl (.tmp 39) (.tmp 41) 35 5 (.int .u8 0) 1 rfl Tryz.underlying35 info5 rfl (by decide) (by omega) u3 x3_1 40 [.int .u8 40] (fun _ => True) (fun _ => False) rfl rfl ?aP (fun _ hk => hk.elim) ?aF ?aO ?aB ?aS ?aL ?_; (case aP => exact rfl); (case aB => exact HBa); (case aF => exact (fun _ _ => trivial)); (case aO => exact (KRz HO_3)); (case aS => exact (below_size HBa)); (case aL => have := LMc18.out; omega); intro v273 w19 ho hb hg hat; rw [← Ny272.out] at ho; have n0_ := Aside0.mk (hb); have n1_ := Aside0.mk (ho); clear HB; clear HO_3; have HB := n0_; have HO274 := n1_; clear n0_ n1_; clear ho hb hg hat))
       go_roundg kj6
       case measure => have := HK1.out; have := HJ6.out; omega
       case rel => exact ⟨(y272), (wrap64 ((wrap64 (x4_1 + 2)) + 1)), EZc, H', ⟨by have := HK1.out; have := HJ6.out; omega⟩, ⟨by (with_reducible repeat (first | apply Kd.R_alloc | apply Kd.R_drewN | apply Kd.R_drew)); exact HO274.out⟩, ⟨HBa⟩⟩
      rw [if_neg c18] at H
      exact absurd H (by simp)
     rw [if_neg c17] at H
     have c17b0 : ((a0.extract ((ji10) : Int).toNat ((wrap64 (x4_1 + 3)) : Int).toNat).toList == ([50, 56] : List UInt8)) = false := beq_eq_false_iff_ne.mpr c17
     (try (have c17v0 := c17b0; (try rw [show wrap64 (x4_1 + 3) = x4_1 + 3 from by unfold wrap64; omega] at c17v0)))
     have c17b1 : ((a0.extract ((ji10) : Int).toNat ((wrap64 (x4_1 + 3)) : Int).toNat).toList != ([50, 56] : List UInt8)) = true := bne_iff_ne.mpr c17
     (try (have c17v1 := c17b1; (try rw [show wrap64 (x4_1 + 3) = x4_1 + 3 from by unfold wrap64; omega] at c17v1)))
     by_cases c20 : (a0.extract ((ji10) : Int).toNat ((wrap64 (x4_1 + 3)) : Int).toNat).toList = ([50, 57] : List UInt8)
     ·rw [if_pos c20] at H
      have c20b0 : ((a0.extract ((ji10) : Int).toNat ((wrap64 (x4_1 + 3)) : Int).toNat).toList == ([50, 57] : List UInt8)) = true := beq_iff_eq.mpr c20
      (try (have c20v0 := c20b0; (try rw [show wrap64 (x4_1 + 3) = x4_1 + 3 from by unfold wrap64; omega] at c20v0)))
      have c20b1 : ((a0.extract ((ji10) : Int).toNat ((wrap64 (x4_1 + 3)) : Int).toNat).toList != ([50, 57] : List UInt8)) = false := bne_eq_false_iff_eq.mpr c20
      (try (have c20v1 := c20b1; (try rw [show wrap64 (x4_1 + 3) = x4_1 + 3 from by unfold wrap64; omega] at c20v1)))
      clear c20
      by_cases c21 : x3_1.length < 140737488355328
      ·rw [if_pos c21] at H
       have LMc21 := Aside0.mk c21
       clear c21
       obtain ⟨y275, hy275⟩ : ∃ y_ : List Int, y_ = (x3_1 ++ [41]) := ⟨_, rfl⟩
       replace H : (Qq.l0 kj6 a0 y275 (wrap64 ((wrap64 (x4_1 + 2)) + 1))) = some r := by first | (rw [hy275]; with_reducible exact H) | (have H2_ := (Option.bind_some _ _).symm.trans H; rw [hy275]; with_reducible exact H2_) | (have H2_ := (Option.bind_some _ _).symm.trans H; with_reducible exact H2_) | with_reducible exact H | (rw [hy275]; exact H) | exact H
       have Ny275 := Aside0.mk hy275
       clear hy275
       have H' := Aside0.mk H
       clear H
       go_wp2_with (first | ((with_reducible refine gate_builtin (b := .append) (xs := #[.tmp 39, .tmp 41]) rfl ?_); (try (refine gate_guard (by rfl) ?_; dsimp only)); at_builtin; refine Kd.R_append (Kd.int .u8) (w0 := w) w.heap.size rfl (.tmp 39) (.tmp 41) 35 5 (.int .u8 0) 1 rfl Tryz.underlying35 info5 rfl (by decide) (by omega) u3 x3_1 41 [.int .u8 41] (fun _ => True) (fun _ => False) rfl rfl ?aP (fun _ hk => hk.elim) ?aF ?aO ?aB ?aS ?aL ?_; (case aP => exact rfl); (case aB => exact HBa); (case aF => exact (fun _ _ => trivial)); (case aO => exact (KRz HO_3)); (case aS => exact (below_size HBa)); (case aL => have := LMc21.out; omega); intro v276 w22 ho hb hg hat; rw [← Ny275.out] at ho; have n0_ := Aside0.mk (hb); have n1_ := Aside0.mk (ho); clear HB; clear HO_3; have HB := n0_; have HO277 := n1_; clear n0_ n1_; clear ho hb hg hat))
       go_roundg kj6
       case measure => have := HK1.out; have := HJ6.out; omega
       case rel => exact ⟨(y275), (wrap64 ((wrap64 (x4_1 + 2)) + 1)), EZc, H', ⟨by have := HK1.out; have := HJ6.out; omega⟩, ⟨by (with_reducible repeat (first | apply Kd.R_alloc | apply Kd.R_drewN | apply Kd.R_drew)); exact HO277.out⟩, ⟨HBa⟩⟩
      rw [if_neg c21] at H
      exact absurd H (by simp)
     rw [if_neg c20] at H
     have c20b0 : ((a0.extract ((ji10) : Int).toNat ((wrap64 (x4_1 + 3)) : Int).toNat).toList == ([50, 57] : List UInt8)) = false := beq_eq_false_iff_ne.mpr c20
     (try (have c20v0 := c20b0; (try rw [show wrap64 (x4_1 + 3) = x4_1 + 3 from by unfold wrap64; omega] at c20v0)))
     have c20b1 : ((a0.extract ((ji10) : Int).toNat ((wrap64 (x4_1 + 3)) : Int).toNat).toList != ([50, 57] : List UInt8)) = true := bne_iff_ne.mpr c20
     (try (have c20v1 := c20b1; (try rw [show wrap64 (x4_1 + 3) = x4_1 + 3 from by unfold wrap64; omega] at c20v1)))
     by_cases c23 : x3_1.length < 140737488355328
     ·rw [if_pos c23] at H
      have LMc23 := Aside0.mk c23
      clear c23
      obtain ⟨y278, hy278⟩ : ∃ y_ : List Int, y_ = (x3_1 ++ [(bt a0 x4_1)]) := ⟨_, rfl⟩
      replace H : (Qq.l0 kj6 a0 y278 (wrap64 ((wrap64 (x4_1 + 2)) + 1))) = some r := by first | (rw [hy278]; with_reducible exact H) | (have H2_ := (Option.bind_some _ _).symm.trans H; rw [hy278]; with_reducible exact H2_) | (have H2_ := (Option.bind_some _ _).symm.trans H; with_reducible exact H2_) | with_reducible exact H | (rw [hy278]; exact H) | exact H
      have Ny278 := Aside0.mk hy278
      clear hy278
      have H' := Aside0.mk H
      clear H
      go_wp2_with (first | ((with_reducible refine gate_builtin (b := .append) (xs := #[.tmp 39, .tmp 41]) rfl ?_); (try (refine gate_guard (by rfl) ?_; dsimp only)); at_builtin; refine Kd.R_append (Kd.int .u8) (w0 := w) w.heap.size rfl (.tmp 39) (.tmp 41) 35 5 (.int .u8 0) 1 rfl Tryz.underlying35 info5 rfl (by decide) (by omega) u3 x3_1 (bt a0 x4_1) [.int .u8 (bt a0 x4_1)] (fun _ => True) (fun _ => False) rfl rfl ?aP (fun _ hk => hk.elim) ?aF ?aO ?aB ?aS ?aL ?_; (case aP => exact rfl); (case aB => exact HBa); (case aF => exact (fun _ _ => trivial)); (case aO => exact (KRz HO_3)); (case aS => exact (below_size HBa)); (case aL => have := LMc23.out; omega); intro v279 w24 ho hb hg hat; rw [← Ny278.out] at ho; have n0_ := Aside0.mk (hb); have n1_ := Aside0.mk (ho); clear HB; clear HO_3; have HB := n0_; have HO280 := n1_; clear n0_ n1_; clear ho hb hg hat))
      go_roundg kj6
      case measure => have := HK1.out; have := HJ6.out; omega
      case rel => exact ⟨(y278), (wrap64 ((wrap64 (x4_1 + 2)) + 1)), EZc, H', ⟨by have := HK1.out; have := HJ6.out; omega⟩, ⟨by (with_reducible repeat (first | apply Kd.R_alloc | apply Kd.R_drewN | apply Kd.R_drew)); exact HO280.out⟩, ⟨HBa⟩⟩
     rw [if_neg c23] at H
     exact absurd H (by simp)
end Go.Proofs.YtmkeigielncpjaaGreatDoor.PFnFilter
