-- Laid by this session's own program out of the translation; Lean checks it.
import Derived.Test.YtdbboelacgehoaaDoorQFnExactEntrySamex0
import Derived.Test.YtdbboelacgehoaaDoorQFnExactEntrySamex4
import Derived.Test.YtdbboelacgehoaaDoorQFnExactEntrySamex8
namespace Go.Proofs.YtdbboelacgehoaaDoor.PFnExactEntrySame
open Go.RowKit Go.Proofs.YtdbboelacgehoaaDoorW.PrintWords Go.Proofs.YtdbboelacgehoaaDoorW.PrintLast Go.Proofs.YtdbboelacgehoaaDoorW.PrintMore
attribute [local go_sem] max2_int min2_int max_two min_two max_three min_three max_four min_four   -- for this text's walks alone
set_option linter.unusedVariables false
set_option linter.unusedSimpArgs false
mutual
def spec_l03Same.j0 : Nat → Bool → List (S42) → List (S114) → List (S42) → List (S114) → Option (Bool)
 | 0, _, _, _, _, _ => none
 | k + 1, x24, x216000, x216001, x217000, x217001 => if x24 = true then (some false) else (spec_l03Same.l0 k 0 x216000 x216001 x217000 x217001)
def spec_l03Same.l0 : Nat → Int → List (S42) → List (S114) → List (S42) → List (S114) → Option (Bool)
 | 0, _, _, _, _, _ => none
 | k + 1, x5, x216000, x216001, x217000, x217001 => if x5 < (x216001.length : Int) then (if 0 ≤ x5 then (if x5 < (x217001.length : Int) then (if ((rd_T114 x216001 x5).f0).toList = ((rd_T114 x217001 x5).f0).toList then (spec_l03Same.j2 k x5 ((((rd_T114 x216001 x5).f1).length : Int) != (((rd_T114 x217001 x5).f1).length : Int)) x216000 x216001 x217000 x217001 ((rd_T114 x216001 x5).f0) ((rd_T114 x216001 x5).f1) ((rd_T114 x217001 x5).f0) ((rd_T114 x217001 x5).f1)) else (spec_l03Same.j2 k x5 true x216000 x216001 x217000 x217001 ((rd_T114 x216001 x5).f0) ((rd_T114 x216001 x5).f1) ((rd_T114 x217001 x5).f0) ((rd_T114 x217001 x5).f1))) else (none)) else (none)) else (some true)
def spec_l03Same.j2 : Nat → Int → Bool → List (S42) → List (S114) → List (S42) → List (S114) → ByteArray → List ByteArray → ByteArray → List ByteArray → Option (Bool)
 | 0, _, _, _, _, _, _, _, _, _, _ => none
 | k + 1, x5, x55, x216000, x216001, x217000, x217001, x222000, x222001, x223000, x223001 => if x55 = true then (some false) else (spec_l03Same.l1 k x5 0 x216000 x216001 x217000 x217001 x222000 x222001 x223000 x223001)
def spec_l03Same.l1 : Nat → Int → Int → List (S42) → List (S114) → List (S42) → List (S114) → ByteArray → List ByteArray → ByteArray → List ByteArray → Option (Bool)
 | 0, _, _, _, _, _, _, _, _, _, _ => none
 | k + 1, x5, x8, x216000, x216001, x217000, x217001, x222000, x222001, x223000, x223001 => if x8 < (x222001.length : Int) then (if 0 ≤ x8 then ((spec_Norm.f k (rdOf ByteArray.empty x222001 x8)).bind fun t224 => (if x8 < (x223001.length : Int) then ((spec_Norm.f k (rdOf ByteArray.empty x223001 x8)).bind fun t226 => (if t224.toList = t226.toList then (spec_l03Same.l1 k x5 (wrap64 (x8 + 1)) x216000 x216001 x217000 x217001 x222000 x222001 x223000 x223001) else (some false))) else (none))) else (none)) else (spec_l03Same.l0 k (wrap64 (x5 + 1)) x216000 x216001 x217000 x217001)
end
def spec_l03Same.f (k : Nat) (l0_0 : List (S42)) (l0_1 : List (S114)) (l1_0 : List (S42)) (l1_1 : List (S114)) : Option (Bool) := (spec_l02Key.f k l0_0).bind fun t217 => ((spec_l02Key.f k l1_0).bind fun t218 => (if t217.toList = t218.toList then (spec_l03Same.j0 k ((l0_1.length : Int) != (l1_1.length : Int)) l0_0 l0_1 l1_0 l1_1) else (spec_l03Same.j0 k true l0_0 l0_1 l1_0 l1_1)))
theorem spec_l03Same.mono_l : ∀ k, (∀ y0 y1 y2 y3 y4, LeO (spec_l03Same.j0 k y0 y1 y2 y3 y4) (spec_l03Same.j0 (k + 1) y0 y1 y2 y3 y4)) ∧ (∀ y0 y1 y2 y3 y4, LeO (spec_l03Same.l0 k y0 y1 y2 y3 y4) (spec_l03Same.l0 (k + 1) y0 y1 y2 y3 y4)) ∧ (∀ y0 y1 y2 y3 y4 y5 y6 y7 y8 y9, LeO (spec_l03Same.j2 k y0 y1 y2 y3 y4 y5 y6 y7 y8 y9) (spec_l03Same.j2 (k + 1) y0 y1 y2 y3 y4 y5 y6 y7 y8 y9)) ∧ (∀ y0 y1 y2 y3 y4 y5 y6 y7 y8 y9, LeO (spec_l03Same.l1 k y0 y1 y2 y3 y4 y5 y6 y7 y8 y9) (spec_l03Same.l1 (k + 1) y0 y1 y2 y3 y4 y5 y6 y7 y8 y9))
 | 0 => ⟨fun _ _ _ _ _ r h => by simp [spec_l03Same.j0] at h, fun _ _ _ _ _ r h => by simp [spec_l03Same.l0] at h, fun _ _ _ _ _ _ _ _ _ _ r h => by simp [spec_l03Same.j2] at h, fun _ _ _ _ _ _ _ _ _ _ r h => by simp [spec_l03Same.l1] at h⟩
 | k + 1 => by
  obtain ⟨ih0, ih1, ih2, ih3⟩ := spec_l03Same.mono_l k
  refine ⟨?_, ?_, ?_, ?_⟩
  ·intro y0 y1 y2 y3 y4
   unfold spec_l03Same.j0
   repeat' first
   | (with_reducible exact ih0 _ _ _ _ _)
   | (with_reducible exact ih1 _ _ _ _ _)
   | (with_reducible exact ih2 _ _ _ _ _ _ _ _ _ _)
   | (with_reducible exact ih3 _ _ _ _ _ _ _ _ _ _)
   | (with_reducible exact spec_Norm.mono _ _)
   | (with_reducible exact spec_l02Key.mono _ _)
   | (with_reducible exact LeO.refl _)
   | (with_reducible exact LeO.none _)
   | (with_reducible refine LeO.ite ?_ ?_)
   | (with_reducible refine LeO.bind ?_ (fun _ => ?_))
   | exact ih0 _ _ _ _ _
   | exact ih1 _ _ _ _ _
   | exact ih2 _ _ _ _ _ _ _ _ _ _
   | exact ih3 _ _ _ _ _ _ _ _ _ _
   | exact spec_Norm.mono _ _
   | exact spec_l02Key.mono _ _
   | exact LeO.none _
   | refine LeO.ite ?_ ?_
   | refine LeO.bind ?_ (fun _ => ?_)
  ·intro y0 y1 y2 y3 y4
   unfold spec_l03Same.l0
   repeat' first
   | (with_reducible exact ih0 _ _ _ _ _)
   | (with_reducible exact ih1 _ _ _ _ _)
   | (with_reducible exact ih2 _ _ _ _ _ _ _ _ _ _)
   | (with_reducible exact ih3 _ _ _ _ _ _ _ _ _ _)
   | (with_reducible exact spec_Norm.mono _ _)
   | (with_reducible exact spec_l02Key.mono _ _)
   | (with_reducible exact LeO.refl _)
   | (with_reducible exact LeO.none _)
   | (with_reducible refine LeO.ite ?_ ?_)
   | (with_reducible refine LeO.bind ?_ (fun _ => ?_))
   | exact ih0 _ _ _ _ _
   | exact ih1 _ _ _ _ _
   | exact ih2 _ _ _ _ _ _ _ _ _ _
   | exact ih3 _ _ _ _ _ _ _ _ _ _
   | exact spec_Norm.mono _ _
   | exact spec_l02Key.mono _ _
   | exact LeO.none _
   | refine LeO.ite ?_ ?_
   | refine LeO.bind ?_ (fun _ => ?_)
  ·intro y0 y1 y2 y3 y4 y5 y6 y7 y8 y9
   unfold spec_l03Same.j2
   repeat' first
   | (with_reducible exact ih0 _ _ _ _ _)
   | (with_reducible exact ih1 _ _ _ _ _)
   | (with_reducible exact ih2 _ _ _ _ _ _ _ _ _ _)
   | (with_reducible exact ih3 _ _ _ _ _ _ _ _ _ _)
   | (with_reducible exact spec_Norm.mono _ _)
   | (with_reducible exact spec_l02Key.mono _ _)
   | (with_reducible exact LeO.refl _)
   | (with_reducible exact LeO.none _)
   | (with_reducible refine LeO.ite ?_ ?_)
   | (with_reducible refine LeO.bind ?_ (fun _ => ?_))
   | exact ih0 _ _ _ _ _
   | exact ih1 _ _ _ _ _
   | exact ih2 _ _ _ _ _ _ _ _ _ _
   | exact ih3 _ _ _ _ _ _ _ _ _ _
   | exact spec_Norm.mono _ _
   | exact spec_l02Key.mono _ _
   | exact LeO.none _
   | refine LeO.ite ?_ ?_
   | refine LeO.bind ?_ (fun _ => ?_)
  ·intro y0 y1 y2 y3 y4 y5 y6 y7 y8 y9
   unfold spec_l03Same.l1
   repeat' first
   | (with_reducible exact ih0 _ _ _ _ _)
   | (with_reducible exact ih1 _ _ _ _ _)
   | (with_reducible exact ih2 _ _ _ _ _ _ _ _ _ _)
   | (with_reducible exact ih3 _ _ _ _ _ _ _ _ _ _)
   | (with_reducible exact spec_Norm.mono _ _)
   | (with_reducible exact spec_l02Key.mono _ _)
   | (with_reducible exact LeO.refl _)
   | (with_reducible exact LeO.none _)
   | (with_reducible refine LeO.ite ?_ ?_)
   | (with_reducible refine LeO.bind ?_ (fun _ => ?_))
   | exact ih0 _ _ _ _ _
   | exact ih1 _ _ _ _ _
   | exact ih2 _ _ _ _ _ _ _ _ _ _
   | exact ih3 _ _ _ _ _ _ _ _ _ _
   | exact spec_Norm.mono _ _
   | exact spec_l02Key.mono _ _
   | exact LeO.none _
   | refine LeO.ite ?_ ?_
   | refine LeO.bind ?_ (fun _ => ?_)
theorem spec_l03Same.mono : ∀ a0 a1 a2 a3 k, LeO (spec_l03Same.f k a0 a1 a2 a3) (spec_l03Same.f (k + 1) a0 a1 a2 a3) := by
 intro a0 a1 a2 a3 k
 obtain ⟨ih0, ih1, ih2, ih3⟩ := spec_l03Same.mono_l k
 unfold spec_l03Same.f
 repeat' first
   | (with_reducible exact ih0 _ _ _ _ _)
   | (with_reducible exact ih1 _ _ _ _ _)
   | (with_reducible exact ih2 _ _ _ _ _ _ _ _ _ _)
   | (with_reducible exact ih3 _ _ _ _ _ _ _ _ _ _)
   | (with_reducible exact spec_Norm.mono _ _)
   | (with_reducible exact spec_l02Key.mono _ _)
   | (with_reducible exact LeO.refl _)
   | (with_reducible exact LeO.none _)
   | (with_reducible refine LeO.ite ?_ ?_)
   | (with_reducible refine LeO.bind ?_ (fun _ => ?_))
   | exact ih0 _ _ _ _ _
   | exact ih1 _ _ _ _ _
   | exact ih2 _ _ _ _ _ _ _ _ _ _
   | exact ih3 _ _ _ _ _ _ _ _ _ _
   | exact spec_Norm.mono _ _
   | exact spec_l02Key.mono _ _
   | exact LeO.none _
   | refine LeO.ite ?_ ?_
   | refine LeO.bind ?_ (fun _ => ?_)
def spec_l03Same.T1 : Bool × List (List Nat × List Nat) := (true, [([], []), ([0], [0]), ([1], [1]), ([], []), ([3], [3]), ([4, 2], [4]), ([2, 5], [2, 5]), ([6, 5], [6]), ([7], [7]), ([8, 7], [7, 8]), ([9, 7], [7, 9]), ([7], [7]), ([11, 7], [7, 11]), ([12, 7], [7, 12]), ([10, 13, 7], [7, 10, 13]), ([7, 14], [7, 14])])
def spec_l03Same.B1 : List Nat := [0, 1, 3, 0, 8, 31, 63, 127, 255, 511, 1023, 255, 2303, 6399, 16383, 32767]
theorem spec_l03Same.tab1 : rtab .any (opsOf Tryd.f111 1) = spec_l03Same.T1 := by kernel_rfl
theorem spec_l03Same.bits1 : waitsOk spec_l03Same.T1.2 spec_l03Same.B1 = true := by kernel_rfl
def spec_l03Same.T6 : Bool × List (List Nat × List Nat) := (true, [([], []), ([0], [0]), ([], []), ([1, 2], [1, 2]), ([3], [3]), ([], []), ([5], [5]), ([], []), ([6, 7], [6, 7]), ([8], [8]), ([], []), ([], []), ([10, 4, 0, 1, 2, 3, 4, 10, 11], [4, 10]), ([11, 9, 12, 0, 1, 2, 3, 4, 5, 6, 7, 8, 9, 10, 11, 12], [9, 11])])
def spec_l03Same.B6 : List Nat := [0, 1, 0, 7, 15, 0, 32, 0, 224, 480, 0, 0, 3103, 8191]
theorem spec_l03Same.tab6 : rtab .any (opsOf Tryd.f111 6) = spec_l03Same.T6 := by kernel_rfl
theorem spec_l03Same.bits6 : waitsOk spec_l03Same.T6.2 spec_l03Same.B6 = true := by kernel_rfl
def spec_l03Same.T12 : Bool × List (List Nat × List Nat) := (true, [([], []), ([0], [0]), ([], []), ([1, 2], [1, 2]), ([3], [3]), ([4], [4]), ([], []), ([6], [6]), ([], []), ([7, 8], [7, 8]), ([9], [9]), ([10, 5], [10]), ([5, 11], [5, 11])])
def spec_l03Same.B12 : List Nat := [0, 1, 0, 7, 15, 31, 0, 64, 0, 448, 960, 2047, 4095]
theorem spec_l03Same.tab12 : rtab .any (opsOf Tryd.f111 12) = spec_l03Same.T12 := by kernel_rfl
theorem spec_l03Same.bits12 : waitsOk spec_l03Same.T12.2 spec_l03Same.B12 = true := by kernel_rfl
set_option maxHeartbeats 8000000 in
set_option maxRecDepth 100000 in
theorem spec_l03Same.calls (k : Nat) (A0_0 : Option Addr) (c0_0 : Nat) (l0_0 : List (S42)) (A0_1 : Option Addr) (c0_1 : Nat) (l0_1 : List (S114)) (A1_0 : Option Addr) (c1_0 : Nat) (l1_0 : List (S42)) (A1_1 : Option Addr) (c1_1 : Nat) (l1_1 : List (S114)) (r : Bool) (w : World) (hr0_0 : Kd.C k42 w A0_0 l0_0.length l0_0) (hc0_0 : l0_0.length ≤ c0_0) (hr0_1 : Kd.C k114 w A0_1 l0_1.length l0_1) (hc0_1 : l0_1.length ≤ c0_1) (hr1_0 : Kd.C k42 w A1_0 l1_0.length l1_0) (hc1_0 : l1_0.length ≤ c1_0) (hr1_1 : Kd.C k114 w A1_1 l1_1.length l1_1) (hc1_1 : l1_1.length ≤ c1_1) (h : spec_l03Same.f k l0_0 l0_1 l1_0 l1_1 = some r) :
  Calls Tryd.prog 111 #[.agg #[.slice A0_0 l0_0.length c0_0, .slice A0_1 l0_1.length c0_1], .agg #[.slice A1_0 l1_0.length c1_0, .slice A1_1 l1_1.length c1_1]] w fun e w' => e = .returned (.bool r) ∧ Below w.heap.size w w' := by
 have hu71 := Tryd.underlying71
 have hu114 := Tryd.underlying114
 have HR0_0 := Aside0.mk hr0_0
 have HC0_0 := Aside0.mk hc0_0
 clear hr0_0 hc0_0
 have HR0_1 := Aside0.mk hr0_1
 have HC0_1 := Aside0.mk hc0_1
 clear hr0_1 hc0_1
 have HR1_0 := Aside0.mk hr1_0
 have HC1_0 := Aside0.mk hc1_0
 clear hr1_0 hc1_0
 have HR1_1 := Aside0.mk hr1_1
 have HC1_1 := Aside0.mk hc1_1
 clear hr1_1 hc1_1
 have HB := Aside0.mk (Below.refl w.heap.size w)
 have H : ((spec_l02Key.f k l0_0).bind fun t217 => ((spec_l02Key.f k l1_0).bind fun t218 => (if t217.toList = t218.toList then (spec_l03Same.j0 k ((l0_1.length : Int) != (l1_1.length : Int)) l0_0 l0_1 l1_0 l1_1) else (spec_l03Same.j0 k true l0_0 l0_1 l1_0 l1_1)))) = some r := h
 clear h
 have HC3 := Aside0.mk H
 clear H
 go_enter Tryd.func111, Tryd.ntmps111
 go_upto_region 1 with (first | ((with_reducible refine gate_dst (N := 2) rfl ?_); (try (refine gate_guard (by rfl) ?_; dsimp only)); refine box_event ?hg (N := 2) ?hd (cs := #[.slice A0_0 l0_0.length c0_0, .slice A0_1 l0_1.length c0_1]) (t := 71) ?hr ?_; (case hd => rfl); (case hg => rfl); (case hr => first | (go_simp; done) | (go_simp; rfl)); intro gb215 hg w4 hbox hb; have n0_ := Aside0.mk (below_step HBa hb); have n1_ := Aside0.mk (hbox); have n2_ := BSz w hg HBa; have n3_ := BSz w hg HBa; clear HB; have HB := n0_; have BK215 := n1_; have GW215 := n2_; have GE215 := n3_; clear n0_ n1_ n2_ n3_; clear hb hbox hg) | ((with_reducible refine gate_dst (N := 3) rfl ?_); (try (refine gate_guard (by rfl) ?_; dsimp only)); refine box_event ?hg (N := 3) ?hd (cs := #[.slice A1_0 l1_0.length c1_0, .slice A1_1 l1_1.length c1_1]) (t := 71) ?hr ?_; (case hd => rfl); (case hg => rfl); (case hr => first | (go_simp; done) | (go_simp; rfl)); intro gb216 hg w5 hbox hb; have n0_ := BBz BK215 hb; have n1_ := Aside0.mk (below_step (HBb GE215) hb); have n2_ := Aside0.mk (hbox); have n3_ := BSz w hg (HBb GE215); have n4_ := BSz w hg (HBb GE215); have n5_ := BNz BK215 hg; have n6_ := BMz BK215 hg; clear BK215; clear HB; have BK215 := n0_; have HB := n1_; have BK216 := n2_; have GW216 := n3_; have GE216 := n4_; have NB215_216 := n5_; have NB216_215 := n6_; clear n0_ n1_ n2_ n3_ n4_ n5_ n6_; clear hb hbox hg))
 (try simp only [Act.put, List.setIfInBounds_toArray, List.set_cons_zero, List.set_cons_succ])
 go_cut [24] (fun v24 wc => ∃ (kq : Nat) (x24_2 : Bool), v24 = .bool x24_2 ∧ Aside0 (spec_l03Same.j0 kq x24_2 l0_0 l0_1 l1_0 l1_1 = some r) ∧ Aside0 (kq ≤ k) ∧ Aside0 (wc.heap[gb215]? = some (.cells #[(.slice A0_0 l0_0.length c0_0), (.slice A0_1 l0_1.length c0_1)] 71 (0, 0))) ∧ Aside0 (wc.heap[gb216]? = some (.cells #[(.slice A1_0 l1_0.length c1_0), (.slice A1_1 l1_1.length c1_1)] 71 (0, 0))) ∧ Aside0 (Below w.heap.size w wc))
 case first =>
  have H := HC3.out
  clear HC3
  replace H := Option.bind_eq_some_iff.mp H
  obtain ⟨t217, A60, H⟩ := H
  replace H : ((spec_l02Key.f k l1_0).bind fun t218 => (if t217.toList = t218.toList then (spec_l03Same.j0 k ((l0_1.length : Int) != (l1_1.length : Int)) l0_0 l0_1 l1_0 l1_1) else (spec_l03Same.j0 k true l0_0 l0_1 l1_0 l1_1))) = some r := H
  have A6 := Aside0.mk A60
  clear A60
  replace H := Option.bind_eq_some_iff.mp H
  obtain ⟨t218, A70, H⟩ := H
  replace H : (if t217.toList = t218.toList then (spec_l03Same.j0 k ((l0_1.length : Int) != (l1_1.length : Int)) l0_0 l0_1 l1_0 l1_1) else (spec_l03Same.j0 k true l0_0 l0_1 l1_0 l1_1)) = some r := H
  have A7 := Aside0.mk A70
  clear A70
  by_cases c8 : t217.toList = t218.toList
  ·rw [if_pos c8] at H
   have c8b0 : (t217.toList == t218.toList) = true := beq_iff_eq.mpr c8
   have c8b1 : (t217.toList != t218.toList) = false := bne_eq_false_iff_eq.mpr c8
   clear c8
   (first | rw [c8b0] | rw [c8v0] | (simp only [i64_w, i32_w]; rw [c8b0]) | (simp only [i64_w, i32_w]; rw [c8v0]) | skip)
   have H' := Aside0.mk H
   clear H
   try go_wp2
   have n0_ := Aside0.mk (blk_drew BK215.out)
   have n1_ := Aside0.mk (blk_drew BK216.out)
   have n2_ := Aside0.mk (below_drew1 HB.out)
   clear BK215
   clear BK216
   clear HB
   have BK215 := n0_
   have BK216 := n1_
   have HB := n2_
   clear n0_ n1_ n2_
   refine start_ (n := 16) (S := fun w' => w'.cell? ⟨gb215, 0, none⟩ = some (.slice A0_0 l0_0.length c0_0) ∧ w'.cell? ⟨gb215, 1, none⟩ = some (.slice A0_1 l0_1.length c0_1) ∧ w'.cell? ⟨gb216, 0, none⟩ = some (.slice A1_0 l1_0.length c1_0) ∧ w'.cell? ⟨gb216, 1, none⟩ = some (.slice A1_1 l1_1.length c1_1)) (ds := []) #[false, false, false, false, false, false, false, false, false, false, false, false, false, false, false, false] (by kernel_rfl) rfl rfl ⟨(blk_cell BK215.out 0).trans rfl, (blk_cell BK215.out 1).trans rfl, (blk_cell BK216.out 0).trans rfl, (blk_cell BK216.out 1).trans rfl⟩ (fun hHeld => ?_); refine with_tabW spec_l03Same.tab1 spec_l03Same.bits1 (fun HT_ HW_ => ?_)
   generalize w5.drew = w9 at BK215 BK216 HB hHeld ⊢
   refine pure_ (i := 0) (N := some 9) (v := ?_) (a' := ?_) #[true, false, false, false, false, false, false, false, false, false, false, false, false, false, false, false] rfl rfl (any_of HT_.out (by kernel_rfl)) (fun _ _ _ h => h) (Or.inl ⟨by rfl, ?_⟩) ?_ ?_
   rotate_left
   ·intro w'
    go_simp
    with_reducible rfl
   rotate_left
   ·simp only [PUz]
    rfl
   refine pure_ (i := 3) (N := some 12) (v := ?_) (a' := ?_) #[true, false, false, true, false, false, false, false, false, false, false, false, false, false, false, false] rfl rfl (any_of HT_.out (by kernel_rfl)) (fun _ _ _ h => h) (Or.inl ⟨by rfl, ?_⟩) ?_ ?_
   rotate_left
   ·intro w'
    go_simp
    with_reducible rfl
   rotate_left
   ·simp only [PUz]
    rfl
   refine take_ (i := 1) (N := some 10) (v := ?_) (a' := ?_) #[true, true, false, true, false, false, false, false, false, false, false, false, false, false, false, false] rfl rfl (take_ofW HT_.out HW_.out (by kernel_rfl)) (fun _ _ _ h => h) (Or.inl ⟨by rfl, ?_⟩) hHeld ?_ ?_
   rotate_left
   ·rintro w' ⟨s0, s1, s2, s3⟩
    go_simp
    with_reducible rfl
   rotate_left
   ·simp only [PUz]
    rfl
   refine take_ (i := 4) (N := some 13) (v := ?_) (a' := ?_) #[true, true, false, true, true, false, false, false, false, false, false, false, false, false, false, false] rfl rfl (take_ofW HT_.out HW_.out (by kernel_rfl)) (fun _ _ _ h => h) (Or.inl ⟨by rfl, ?_⟩) hHeld ?_ ?_
   rotate_left
   ·rintro w' ⟨s0, s1, s2, s3⟩
    go_simp
    with_reducible rfl
   rotate_left
   ·simp only [PUz]
    rfl
   refine one_ (i := 2) (N := some 11) #[true, true, true, true, true, false, false, false, false, false, false, false, false, false, false, false] rfl rfl (one_of HT_.out (by kernel_rfl)) (by decide) (fun K hK => ?_)
   refine goes_ Tryd.func82 (by kernel_rfl) rfl #[.slice A0_0 l0_0.length c0_0] (by rfl) rfl rfl MPz ?_
   with_reducible refine (spec_l02Key.calls k _ _ l0_0 t217 _ ?side1 ?side2 A6.out).mono ?_
   (case side1 => exact KCz (Kd.C_below HR0_0.out HB.out))
   (case side2 => exact HC0_0.out)
   rintro e w10 ⟨rfl, hb⟩
   refine ⟨_, rfl, ?_⟩
   have n0_ := BBz BK215 hb
   have n1_ := BBz BK216 hb
   have n2_ := Aside0.mk (below_step (HBc GE215 GE216) hb)
   clear BK215
   clear BK216
   clear HB
   have BK215 := n0_
   have BK216 := n1_
   have HB := n2_
   clear n0_ n1_ n2_
   (try clear hb)
   (try clear hb2)
   (try clear hk)
   (try clear hi)
   refine hK.out _ _ ⟨(blk_cell BK215.out 0).trans rfl, (blk_cell BK215.out 1).trans rfl, (blk_cell BK216.out 0).trans rfl, (blk_cell BK216.out 1).trans rfl⟩ (fun hHeld => ?_)
   clear hK K
   refine norm_ (a' := ?_) ?_ ?_
   rotate_left
   ·show Act.put _ (some 11) _ = _
    simp only [PUz]
    rfl
   refine one_ (i := 5) (N := some 14) #[true, true, true, true, true, true, false, false, false, false, false, false, false, false, false, false] rfl rfl (one_of HT_.out (by kernel_rfl)) (by decide) (fun K hK => ?_)
   refine goes_ Tryd.func82 (by kernel_rfl) rfl #[.slice A1_0 l1_0.length c1_0] (by rfl) rfl rfl MPz ?_
   with_reducible refine (spec_l02Key.calls k _ _ l1_0 t218 _ ?side1 ?side2 A7.out).mono ?_
   (case side1 => exact KCz (Kd.C_below HR1_0.out HB.out))
   (case side2 => exact HC1_0.out)
   rintro e w11 ⟨rfl, hb⟩
   refine ⟨_, rfl, ?_⟩
   have n0_ := BBz BK215 hb
   have n1_ := BBz BK216 hb
   have n2_ := Aside0.mk (below_step (HBc GE215 GE216) hb)
   clear BK215
   clear BK216
   clear HB
   have BK215 := n0_
   have BK216 := n1_
   have HB := n2_
   clear n0_ n1_ n2_
   (try clear hb)
   (try clear hb2)
   (try clear hk)
   (try clear hi)
   refine hK.out _ _ ⟨(blk_cell BK215.out 0).trans rfl, (blk_cell BK215.out 1).trans rfl, (blk_cell BK216.out 0).trans rfl, (blk_cell BK216.out 1).trans rfl⟩ (fun hHeld => ?_)
   clear hK K
   refine norm_ (a' := ?_) ?_ ?_
   rotate_left
   ·show Act.put _ (some 14) _ = _
    simp only [PUz]
    rfl
   refine pure_ (i := 6) (N := some 15) (v := ?_) (a' := ?_) #[true, true, true, true, true, true, true, false, false, false, false, false, false, false, false, false] rfl rfl (any_of HT_.out (by kernel_rfl)) (fun _ _ _ h => h) (Or.inl ⟨by rfl, ?_⟩) ?_ ?_
   rotate_left
   ·intro w'
    go_simp
    with_reducible rfl
   rotate_left
   ·simp only [PUz]
    rfl
   refine pure_ (i := 7) (N := some 16) (v := ?_) (a' := ?_) #[true, true, true, true, true, true, true, true, false, false, false, false, false, false, false, false] rfl rfl (any_of HT_.out (by kernel_rfl)) (fun _ _ _ h => h) (Or.inl ⟨by rfl, ?_⟩) ?_ ?_
   rotate_left
   ·intro w'
    go_simp
    with_reducible rfl
   rotate_left
   ·simp only [PUz]
    rfl
   refine pure_ (i := 8) (N := some 17) (v := ?_) (a' := ?_) #[true, true, true, true, true, true, true, true, true, false, false, false, false, false, false, false] rfl rfl (any_of HT_.out (by kernel_rfl)) (fun _ _ _ h => h) (Or.inl ⟨by rfl, ?_⟩) ?_ ?_
   rotate_left
   ·intro w'
    go_simp
    with_reducible rfl
   rotate_left
   ·simp only [PUz]
    rfl
   refine pure_ (i := 11) (N := some 20) (v := ?_) (a' := ?_) #[true, true, true, true, true, true, true, true, true, false, false, true, false, false, false, false] rfl rfl (any_of HT_.out (by kernel_rfl)) (fun _ _ _ h => h) (Or.inl ⟨by rfl, ?_⟩) ?_ ?_
   rotate_left
   ·intro w'
    go_simp
    with_reducible rfl
   rotate_left
   ·simp only [PUz]
    rfl
   refine take_ (i := 9) (N := some 18) (v := ?_) (a' := ?_) #[true, true, true, true, true, true, true, true, true, true, false, true, false, false, false, false] rfl rfl (take_ofW HT_.out HW_.out (by kernel_rfl)) (fun _ _ _ h => h) (Or.inl ⟨by rfl, ?_⟩) hHeld ?_ ?_
   rotate_left
   ·rintro w' ⟨s0, s1, s2, s3⟩
    go_simp
    with_reducible rfl
   rotate_left
   ·simp only [PUz]
    rfl
   refine pure_ (i := 10) (N := some 19) (v := ?_) (a' := ?_) #[true, true, true, true, true, true, true, true, true, true, true, true, false, false, false, false] rfl rfl (any_of HT_.out (by kernel_rfl)) (fun _ _ _ h => h) (Or.inl ⟨by rfl, ?_⟩) ?_ ?_
   rotate_left
   ·intro w'
    go_simp
    with_reducible rfl
   rotate_left
   ·simp only [PUz]
    rfl
   refine take_ (i := 12) (N := some 21) (v := ?_) (a' := ?_) #[true, true, true, true, true, true, true, true, true, true, true, true, true, false, false, false] rfl rfl (take_ofW HT_.out HW_.out (by kernel_rfl)) (fun _ _ _ h => h) (Or.inl ⟨by rfl, ?_⟩) hHeld ?_ ?_
   rotate_left
   ·rintro w' ⟨s0, s1, s2, s3⟩
    go_simp
    with_reducible rfl
   rotate_left
   ·simp only [PUz]
    rfl
   refine pure_ (i := 13) (N := some 22) (v := ?_) (a' := ?_) #[true, true, true, true, true, true, true, true, true, true, true, true, true, true, false, false] rfl rfl (any_of HT_.out (by kernel_rfl)) (fun _ _ _ h => h) (Or.inl ⟨by rfl, ?_⟩) ?_ ?_
   rotate_left
   ·intro w'
    go_simp
    with_reducible rfl
   rotate_left
   ·simp only [PUz]
    rfl
   refine pure_ (i := 14) (N := some 23) (v := ?_) (a' := ?_) #[true, true, true, true, true, true, true, true, true, true, true, true, true, true, true, false] rfl rfl (any_of HT_.out (by kernel_rfl)) (fun _ _ _ h => h) (Or.inl ⟨by rfl, ?_⟩) ?_ ?_
   rotate_left
   ·intro w'
    go_simp
    with_reducible rfl
   rotate_left
   ·simp only [PUz]
    rfl
   refine pure_ (i := 15) (N := some 24) (v := ?_) (a' := ?_) #[true, true, true, true, true, true, true, true, true, true, true, true, true, true, true, true] rfl rfl (any_of HT_.out (by kernel_rfl)) (fun _ _ _ h => h) (Or.inl ⟨by rfl, ?_⟩) ?_ ?_
   rotate_left
   ·intro w'
    go_simp
    with_reducible rfl
   rotate_left
   ·simp only [PUz]
    rfl
   refine done_ (done_of HT_.out (by kernel_rfl)) ?_
   try go_wp2
   go_meet
   case rel => exact ⟨_, (((l0_1.length : Int) != (l1_1.length : Int))), EZc, H', ⟨by first | omega | exact Nat.le_refl _⟩, ⟨by (with_reducible repeat (first | refine blk_drewN ?_ _ | refine blk_drew ?_ | refine blk_alloc ?_ _)); exact BK215.out⟩, ⟨by (with_reducible repeat (first | refine blk_drewN ?_ _ | refine blk_drew ?_ | refine blk_alloc ?_ _)); exact BK216.out⟩, ⟨by repeat (first | (with_reducible first | exact HB.out | apply below_alloc | apply pw_below_drewN | apply below_drew1 | refine below_set ?_ GE215.out | refine below_set ?_ GE216.out) | exact HB.out)⟩⟩
  ·rw [if_neg c8] at H
   have c8b0 : (t217.toList == t218.toList) = false := beq_eq_false_iff_ne.mpr c8
   have c8b1 : (t217.toList != t218.toList) = true := bne_iff_ne.mpr c8
   (first | rw [c8b0] | rw [c8v0] | (simp only [i64_w, i32_w]; rw [c8b0]) | (simp only [i64_w, i32_w]; rw [c8v0]) | skip)
   have H' := Aside0.mk H
   clear H
   try go_wp2
   have n0_ := Aside0.mk (blk_drew BK215.out)
   have n1_ := Aside0.mk (blk_drew BK216.out)
   have n2_ := Aside0.mk (below_drew1 HB.out)
   clear BK215
   clear BK216
   clear HB
   have BK215 := n0_
   have BK216 := n1_
   have HB := n2_
   clear n0_ n1_ n2_
   refine start_ (n := 16) (S := fun w' => w'.cell? ⟨gb215, 0, none⟩ = some (.slice A0_0 l0_0.length c0_0) ∧ w'.cell? ⟨gb215, 1, none⟩ = some (.slice A0_1 l0_1.length c0_1) ∧ w'.cell? ⟨gb216, 0, none⟩ = some (.slice A1_0 l1_0.length c1_0) ∧ w'.cell? ⟨gb216, 1, none⟩ = some (.slice A1_1 l1_1.length c1_1)) (ds := []) #[false, false, false, false, false, false, false, false, false, false, false, false, false, false, false, false] (by kernel_rfl) rfl rfl ⟨(blk_cell BK215.out 0).trans rfl, (blk_cell BK215.out 1).trans rfl, (blk_cell BK216.out 0).trans rfl, (blk_cell BK216.out 1).trans rfl⟩ (fun hHeld => ?_); refine with_tabW spec_l03Same.tab1 spec_l03Same.bits1 (fun HT_ HW_ => ?_)
   generalize w5.drew = w12 at BK215 BK216 HB hHeld ⊢
   refine pure_ (i := 0) (N := some 9) (v := ?_) (a' := ?_) #[true, false, false, false, false, false, false, false, false, false, false, false, false, false, false, false] rfl rfl (any_of HT_.out (by kernel_rfl)) (fun _ _ _ h => h) (Or.inl ⟨by rfl, ?_⟩) ?_ ?_
   rotate_left
   ·intro w'
    go_simp
    with_reducible rfl
   rotate_left
   ·simp only [PUz]
    rfl
   refine pure_ (i := 3) (N := some 12) (v := ?_) (a' := ?_) #[true, false, false, true, false, false, false, false, false, false, false, false, false, false, false, false] rfl rfl (any_of HT_.out (by kernel_rfl)) (fun _ _ _ h => h) (Or.inl ⟨by rfl, ?_⟩) ?_ ?_
   rotate_left
   ·intro w'
    go_simp
    with_reducible rfl
   rotate_left
   ·simp only [PUz]
    rfl
   refine take_ (i := 1) (N := some 10) (v := ?_) (a' := ?_) #[true, true, false, true, false, false, false, false, false, false, false, false, false, false, false, false] rfl rfl (take_ofW HT_.out HW_.out (by kernel_rfl)) (fun _ _ _ h => h) (Or.inl ⟨by rfl, ?_⟩) hHeld ?_ ?_
   rotate_left
   ·rintro w' ⟨s0, s1, s2, s3⟩
    go_simp
    with_reducible rfl
   rotate_left
   ·simp only [PUz]
    rfl
   refine take_ (i := 4) (N := some 13) (v := ?_) (a' := ?_) #[true, true, false, true, true, false, false, false, false, false, false, false, false, false, false, false] rfl rfl (take_ofW HT_.out HW_.out (by kernel_rfl)) (fun _ _ _ h => h) (Or.inl ⟨by rfl, ?_⟩) hHeld ?_ ?_
   rotate_left
   ·rintro w' ⟨s0, s1, s2, s3⟩
    go_simp
    with_reducible rfl
   rotate_left
   ·simp only [PUz]
    rfl
   refine one_ (i := 2) (N := some 11) #[true, true, true, true, true, false, false, false, false, false, false, false, false, false, false, false] rfl rfl (one_of HT_.out (by kernel_rfl)) (by decide) (fun K hK => ?_)
   refine goes_ Tryd.func82 (by kernel_rfl) rfl #[.slice A0_0 l0_0.length c0_0] (by rfl) rfl rfl MPz ?_
   with_reducible refine (spec_l02Key.calls k _ _ l0_0 t217 _ ?side1 ?side2 A6.out).mono ?_
   (case side1 => exact KCz (Kd.C_below HR0_0.out HB.out))
   (case side2 => exact HC0_0.out)
   rintro e w13 ⟨rfl, hb⟩
   refine ⟨_, rfl, ?_⟩
   have n0_ := BBz BK215 hb
   have n1_ := BBz BK216 hb
   have n2_ := Aside0.mk (below_step (HBc GE215 GE216) hb)
   clear BK215
   clear BK216
   clear HB
   have BK215 := n0_
   have BK216 := n1_
   have HB := n2_
   clear n0_ n1_ n2_
   (try clear hb)
   (try clear hb2)
   (try clear hk)
   (try clear hi)
   refine hK.out _ _ ⟨(blk_cell BK215.out 0).trans rfl, (blk_cell BK215.out 1).trans rfl, (blk_cell BK216.out 0).trans rfl, (blk_cell BK216.out 1).trans rfl⟩ (fun hHeld => ?_)
   clear hK K
   refine norm_ (a' := ?_) ?_ ?_
   rotate_left
   ·show Act.put _ (some 11) _ = _
    simp only [PUz]
    rfl
   refine one_ (i := 5) (N := some 14) #[true, true, true, true, true, true, false, false, false, false, false, false, false, false, false, false] rfl rfl (one_of HT_.out (by kernel_rfl)) (by decide) (fun K hK => ?_)
   refine goes_ Tryd.func82 (by kernel_rfl) rfl #[.slice A1_0 l1_0.length c1_0] (by rfl) rfl rfl MPz ?_
   with_reducible refine (spec_l02Key.calls k _ _ l1_0 t218 _ ?side1 ?side2 A7.out).mono ?_
   (case side1 => exact KCz (Kd.C_below HR1_0.out HB.out))
   (case side2 => exact HC1_0.out)
   rintro e w14 ⟨rfl, hb⟩
   refine ⟨_, rfl, ?_⟩
   have n0_ := BBz BK215 hb
   have n1_ := BBz BK216 hb
   have n2_ := Aside0.mk (below_step (HBc GE215 GE216) hb)
   clear BK215
   clear BK216
   clear HB
   have BK215 := n0_
   have BK216 := n1_
   have HB := n2_
   clear n0_ n1_ n2_
   (try clear hb)
   (try clear hb2)
   (try clear hk)
   (try clear hi)
   refine hK.out _ _ ⟨(blk_cell BK215.out 0).trans rfl, (blk_cell BK215.out 1).trans rfl, (blk_cell BK216.out 0).trans rfl, (blk_cell BK216.out 1).trans rfl⟩ (fun hHeld => ?_)
   clear hK K
   refine norm_ (a' := ?_) ?_ ?_
   rotate_left
   ·show Act.put _ (some 14) _ = _
    simp only [PUz]
    rfl
   refine pure_ (i := 6) (N := some 15) (v := ?_) (a' := ?_) #[true, true, true, true, true, true, true, false, false, false, false, false, false, false, false, false] rfl rfl (any_of HT_.out (by kernel_rfl)) (fun _ _ _ h => h) (Or.inl ⟨by rfl, ?_⟩) ?_ ?_
   rotate_left
   ·intro w'
    go_simp
    with_reducible rfl
   rotate_left
   ·simp only [PUz]
    rfl
   refine pure_ (i := 7) (N := some 16) (v := ?_) (a' := ?_) #[true, true, true, true, true, true, true, true, false, false, false, false, false, false, false, false] rfl rfl (any_of HT_.out (by kernel_rfl)) (fun _ _ _ h => h) (Or.inl ⟨by rfl, ?_⟩) ?_ ?_
   rotate_left
   ·intro w'
    go_simp
    with_reducible rfl
   rotate_left
   ·simp only [PUz]
    rfl
   refine pure_ (i := 8) (N := some 17) (v := undef) (a' := ?_) #[true, true, true, true, true, true, true, true, true, false, false, false, false, false, false, false] rfl rfl (any_of HT_.out (by kernel_rfl)) (fun _ _ _ h => h) (Or.inr ⟨by rfl, rfl⟩) ?_ ?_
   rotate_left
   ·simp only [PUz]
    rfl
   refine pure_ (i := 9) (N := some 18) (v := undef) (a' := ?_) #[true, true, true, true, true, true, true, true, true, true, false, false, false, false, false, false] rfl rfl (any_of HT_.out (by kernel_rfl)) (fun _ _ _ h => h) (Or.inr ⟨by rfl, rfl⟩) ?_ ?_
   rotate_left
   ·simp only [PUz]
    rfl
   refine pure_ (i := 10) (N := some 19) (v := undef) (a' := ?_) #[true, true, true, true, true, true, true, true, true, true, true, false, false, false, false, false] rfl rfl (any_of HT_.out (by kernel_rfl)) (fun _ _ _ h => h) (Or.inr ⟨by rfl, rfl⟩) ?_ ?_
   rotate_left
   ·simp only [PUz]
    rfl
   refine pure_ (i := 11) (N := some 20) (v := undef) (a' := ?_) #[true, true, true, true, true, true, true, true, true, true, true, true, false, false, false, false] rfl rfl (any_of HT_.out (by kernel_rfl)) (fun _ _ _ h => h) (Or.inr ⟨by rfl, rfl⟩) ?_ ?_
   rotate_left
   ·simp only [PUz]
    rfl
   refine pure_ (i := 12) (N := some 21) (v := undef) (a' := ?_) #[true, true, true, true, true, true, true, true, true, true, true, true, true, false, false, false] rfl rfl (any_of HT_.out (by kernel_rfl)) (fun _ _ _ h => h) (Or.inr ⟨by rfl, rfl⟩) ?_ ?_
   rotate_left
   ·simp only [PUz]
    rfl
   refine pure_ (i := 13) (N := some 22) (v := undef) (a' := ?_) #[true, true, true, true, true, true, true, true, true, true, true, true, true, true, false, false] rfl rfl (any_of HT_.out (by kernel_rfl)) (fun _ _ _ h => h) (Or.inr ⟨by rfl, rfl⟩) ?_ ?_
   rotate_left
   ·simp only [PUz]
    rfl
   refine pure_ (i := 14) (N := some 23) (v := undef) (a' := ?_) #[true, true, true, true, true, true, true, true, true, true, true, true, true, true, true, false] rfl rfl (any_of HT_.out (by kernel_rfl)) (fun _ _ _ h => h) (Or.inr ⟨by rfl, rfl⟩) ?_ ?_
   rotate_left
   ·simp only [PUz]
    rfl
   refine pure_ (i := 15) (N := some 24) (v := ?_) (a' := ?_) #[true, true, true, true, true, true, true, true, true, true, true, true, true, true, true, true] rfl rfl (any_of HT_.out (by kernel_rfl)) (fun _ _ _ h => h) (Or.inl ⟨by rfl, ?_⟩) ?_ ?_
   rotate_left
   ·intro w'
    go_simp
    with_reducible rfl
   rotate_left
   ·simp only [PUz]
    rfl
   refine done_ (done_of HT_.out (by kernel_rfl)) ?_
   try go_wp2
   go_meet
   case rel => exact ⟨_, (true), EZc, H', ⟨by first | omega | exact Nat.le_refl _⟩, ⟨by (with_reducible repeat (first | refine blk_drewN ?_ _ | refine blk_drew ?_ | refine blk_alloc ?_ _)); exact BK215.out⟩, ⟨by (with_reducible repeat (first | refine blk_drewN ?_ _ | refine blk_drew ?_ | refine blk_alloc ?_ _)); exact BK216.out⟩, ⟨by repeat (first | (with_reducible first | exact HB.out | apply below_alloc | apply pw_below_drewN | apply below_drew1 | refine below_set ?_ GE215.out | refine below_set ?_ GE216.out) | exact HB.out)⟩⟩
 case rest =>
  clear HC3
  try clear c1
  try clear p2
  try clear c8
  try clear c8b0
  try clear c8b1
  try clear c11
  obtain ⟨kq, x24_2, rfl, HA, HJ2, BK215, BK216, HB⟩ := hcut
  cases kq with
  | zero => exact absurd HA.out (by simp [spec_l03Same.j0])
  | succ kj2 =>
   have H := HA.out
   clear HA
   simp only [spec_l03Same.j0] at H
   by_cases c15 : x24_2 = true
   ·subst c15
    have H1 : (some false) = some r := by rw [if_pos rfl] at H; exact H
    clear H
    have H := H1
    clear H1
    obtain rfl := Option.some.inj H
    go_wp2
    go_ret
    exact ⟨EZa, HBc GE215 GE216⟩
   ·replace c15 := Bool.eq_false_iff.mpr c15
    subst c15
    have H1 : (spec_l03Same.l0 kj2 0 l0_0 l0_1 l1_0 l1_1) = some r := by rw [if_neg (show ¬ (false = true) by decide)] at H; exact H
    clear H
    have H := H1
    clear H1
    have H' := Aside0.mk H
    clear H
    go_wp2
    go_loopg [5] kj2 (fun kq v5 w' => ∃ (x5_2 : Int), v5 = .int .i64 x5_2 ∧ Aside0 (spec_l03Same.l0 kq x5_2 l0_0 l0_1 l1_0 l1_1 = some r) ∧ Aside0 (kq ≤ kj2) ∧ Aside0 (w'.heap[gb215]? = some (.cells #[(.slice A0_0 l0_0.length c0_0), (.slice A0_1 l0_1.length c0_1)] 71 (0, 0))) ∧ Aside0 (w'.heap[gb216]? = some (.cells #[(.slice A1_0 l1_0.length c1_0), (.slice A1_1 l1_1.length c1_1)] 71 (0, 0))) ∧ Aside0 (Below w.heap.size w w'))
    case atStart => exact ⟨(0), EZc, H', ⟨Nat.le_refl _⟩, ⟨by (with_reducible repeat (first | refine blk_drewN ?_ _ | refine blk_drew ?_ | refine blk_alloc ?_ _)); exact BK215.out⟩, ⟨by (with_reducible repeat (first | refine blk_drewN ?_ _ | refine blk_drew ?_ | refine blk_alloc ?_ _)); exact BK216.out⟩, ⟨by repeat (first | (with_reducible first | exact HB.out | apply below_alloc | apply pw_below_drewN | apply below_drew1 | refine below_set ?_ GE215.out | refine below_set ?_ GE216.out) | exact HB.out)⟩⟩
    case round =>
     clear H'
     try clear c1
     try clear p2
     try clear c8
     try clear c8b0
     try clear c8b1
     try clear c11
     try clear c15
     try clear p2
     obtain ⟨x5_2, rfl, HA, HK2, BK215, BK216, HB⟩ := hrel
     cases gk with
     | zero => exact absurd HA.out (by simp [spec_l03Same.l0])
     | succ k2 =>
      have H := HA.out
      clear HA
      simp only [spec_l03Same.l0] at H
      by_cases c16 : x5_2 < (l0_1.length : Int)
      ·rw [if_pos c16] at H
       have c16b0 : decide (x5_2 < (l0_1.length : Int)) = true := decide_eq_true c16
       clear c16
       by_cases c17 : 0 ≤ x5_2
       ·rw [if_pos c17] at H
        have c17b0 : decide (0 ≤ x5_2) = true := decide_eq_true c17
        clear c17
        by_cases c18 : x5_2 < (l1_1.length : Int)
        ·rw [if_pos c18] at H
         have c18b0 : decide (x5_2 < (l1_1.length : Int)) = true := decide_eq_true c18
         clear c18
         have HC19 := Aside0.mk H
         clear H
         have hnb20 := NB215_216.out
         have hnc20 := NB216_215.out
         have hcz21_0 : wr.cell? ⟨gb215, 0, none⟩ = some (.slice A0_0 l0_0.length c0_0) := (blk_cell BK215.out 0).trans rfl
         have hcz21_1 : wr.cell? ⟨gb215, 1, none⟩ = some (.slice A0_1 l0_1.length c0_1) := (blk_cell BK215.out 1).trans rfl
         have hfz21_0 := blk_frozen BK215.out 0
         have hfz21_1 := blk_frozen BK215.out 1
         try go_wp2
         have n0_ := Aside0.mk (blk_drew BK215.out)
         have n1_ := Aside0.mk (blk_drew BK216.out)
         have n2_ := Aside0.mk (below_drew1 HB.out)
         clear BK215
         clear BK216
         clear HB
         have BK215 := n0_
         have BK216 := n1_
         have HB := n2_
         clear n0_ n1_ n2_
         have p219 : 0 ≤ (x5_2 : Int) := ODz
         have q219 : x5_2 < (l0_1.length : Int) := ODz
         obtain ⟨ad219, A219_1, c219_1, e219, hx219_0, hx219_1, hl219_1, hi219_1⟩ := at_T114 HR0_1.out x5_2 p219 q219
         have hw219_1 := hx219_1
         have hw219_0 := hx219_0
         cases e219
         replace hx219_0 := HXz HB hx219_0
         replace hx219_1 := HXz HB hx219_1
         have HR219_1 := Aside0.mk hi219_1
         have HC219_1 := Aside0.mk hl219_1
         clear hi219_1 hl219_1
         replace p219 := eq_true p219
         replace q219 := eq_true q219
         have p220 : 0 ≤ (x5_2 : Int) := ODz
         have q220 : x5_2 < (l1_1.length : Int) := ODz
         obtain ⟨ad220, A220_1, c220_1, e220, hx220_0, hx220_1, hl220_1, hi220_1⟩ := at_T114 HR1_1.out x5_2 p220 q220
         have hw220_1 := hx220_1
         have hw220_0 := hx220_0
         cases e220
         replace hx220_0 := HXz HB hx220_0
         replace hx220_1 := HXz HB hx220_1
         have HR220_1 := Aside0.mk hi220_1
         have HC220_1 := Aside0.mk hl220_1
         clear hi220_1 hl220_1
         replace p220 := eq_true p220
         replace q220 := eq_true q220
         refine start_ (n := 14) (S := fun w' => w'.cell? ⟨gb215, 0, none⟩ = some (.slice A0_0 l0_0.length c0_0) ∧ w'.cell? ⟨gb215, 1, none⟩ = some (.slice (some ad219) l0_1.length c0_1) ∧ w'.cell? ⟨gb216, 0, none⟩ = some (.slice A1_0 l1_0.length c1_0) ∧ w'.cell? ⟨gb216, 1, none⟩ = some (.slice (some ad220) l1_1.length c1_1) ∧ w'.cell? (ad219.add ((x5_2).toNat * 2)) = some (.string ((rd_T114 l0_1 x5_2).f0)) ∧ w'.cell? ⟨(ad219.add ((x5_2).toNat * 2)).block, (ad219.add ((x5_2).toNat * 2)).off + 1, none⟩ = some (.slice A219_1 ((rd_T114 l0_1 x5_2).f1).length c219_1) ∧ w'.cell? (ad220.add ((x5_2).toNat * 2)) = some (.string ((rd_T114 l1_1 x5_2).f0)) ∧ w'.cell? ⟨(ad220.add ((x5_2).toNat * 2)).block, (ad220.add ((x5_2).toNat * 2)).off + 1, none⟩ = some (.slice A220_1 ((rd_T114 l1_1 x5_2).f1).length c220_1)) (ds := []) #[false, false, false, false, false, false, false, false, false, false, false, false, false, false] (by kernel_rfl) rfl rfl ⟨(blk_cell BK215.out 0).trans rfl, (blk_cell BK215.out 1).trans rfl, (blk_cell BK216.out 0).trans rfl, (blk_cell BK216.out 1).trans rfl, (HXz HB hw219_0 :), (HXz HB hw219_1 :), (HXz HB hw220_0 :), (HXz HB hw220_1 :)⟩ (fun hHeld => ?_); refine with_tabW spec_l03Same.tab6 spec_l03Same.bits6 (fun HT_ HW_ => ?_)
         generalize wr.drew = w22 at BK215 BK216 HB HR219_1 HR220_1 hx219_0 hx219_1 hx220_0 hx220_1 hHeld ⊢
         refine pure_ (i := 0) (N := some 32) (v := ?_) (a' := ?_) #[true, false, false, false, false, false, false, false, false, false, false, false, false, false] rfl rfl (any_of HT_.out (by kernel_rfl)) (fun _ _ _ h => h) (Or.inl ⟨by rfl, ?_⟩) ?_ ?_
         rotate_left
         ·intro w'
          go_simp
          with_reducible rfl
         rotate_left
         ·simp only [PUz]
          rfl
         refine pure_ (i := 2) (N := some 34) (v := ?_) (a' := ?_) #[true, false, true, false, false, false, false, false, false, false, false, false, false, false] rfl rfl (any_of HT_.out (by kernel_rfl)) (fun _ _ _ h => h) (Or.inl ⟨by rfl, ?_⟩) ?_ ?_
         rotate_left
         ·intro w'
          go_simp
          with_reducible rfl
         rotate_left
         ·simp only [PUz]
          rfl
         refine pure_ (i := 5) (N := some 37) (v := ?_) (a' := ?_) #[true, false, true, false, false, true, false, false, false, false, false, false, false, false] rfl rfl (any_of HT_.out (by kernel_rfl)) (fun _ _ _ h => h) (Or.inl ⟨by rfl, ?_⟩) ?_ ?_
         rotate_left
         ·intro w'
          go_simp
          with_reducible rfl
         rotate_left
         ·simp only [PUz]
          rfl
         refine pure_ (i := 7) (N := some 39) (v := ?_) (a' := ?_) #[true, false, true, false, false, true, false, true, false, false, false, false, false, false] rfl rfl (any_of HT_.out (by kernel_rfl)) (fun _ _ _ h => h) (Or.inl ⟨by rfl, ?_⟩) ?_ ?_
         rotate_left
         ·intro w'
          go_simp
          with_reducible rfl
         rotate_left
         ·simp only [PUz]
          rfl
         refine take_ (i := 1) (N := some 33) (v := ?_) (a' := ?_) #[true, true, true, false, false, true, false, true, false, false, false, false, false, false] rfl rfl (take_ofW HT_.out HW_.out (by kernel_rfl)) (fun _ _ _ h => h) (Or.inl ⟨by rfl, ?_⟩) hHeld ?_ ?_
         rotate_left
         ·rintro w' ⟨s0, s1, s2, s3, s4, s5, s6, s7⟩
          go_simp
          with_reducible rfl
         rotate_left
         ·simp only [PUz]
          rfl
         refine pure_ (i := 3) (N := some 35) (v := ?_) (a' := ?_) #[true, true, true, true, false, true, false, true, false, false, false, false, false, false] rfl rfl (any_of HT_.out (by kernel_rfl)) (fun _ _ _ h => h) (Or.inl ⟨by rfl, ?_⟩) ?_ ?_
         rotate_left
         ·intro w'
          go_simp
          with_reducible rfl
         rotate_left
         ·simp only [PUz]
          rfl
         refine take_ (i := 4) (N := some 36) (v := ?_) (a' := ?_) #[true, true, true, true, true, true, false, true, false, false, false, false, false, false] rfl rfl (take_ofW HT_.out HW_.out (by kernel_rfl)) (fun _ _ _ h => h) (Or.inl ⟨by rfl, ?_⟩) hHeld ?_ ?_
         rotate_left
         ·rintro w' ⟨s0, s1, s2, s3, s4, s5, s6, s7⟩
          go_simp
          with_reducible rfl
         rotate_left
         ·simp only [PUz]
          rfl
         refine take_ (i := 6) (N := some 38) (v := ?_) (a' := ?_) #[true, true, true, true, true, true, true, true, false, false, false, false, false, false] rfl rfl (take_ofW HT_.out HW_.out (by kernel_rfl)) (fun _ _ _ h => h) (Or.inl ⟨by rfl, ?_⟩) hHeld ?_ ?_
         rotate_left
         ·rintro w' ⟨s0, s1, s2, s3, s4, s5, s6, s7⟩
          go_simp
          with_reducible rfl
         rotate_left
         ·simp only [PUz]
          rfl
         refine pure_ (i := 8) (N := some 40) (v := ?_) (a' := ?_) #[true, true, true, true, true, true, true, true, true, false, false, false, false, false] rfl rfl (any_of HT_.out (by kernel_rfl)) (fun _ _ _ h => h) (Or.inl ⟨by rfl, ?_⟩) ?_ ?_
         rotate_left
         ·intro w'
          go_simp
          with_reducible rfl
         rotate_left
         ·simp only [PUz]
          rfl
         refine take_ (i := 9) (N := some 41) (v := ?_) (a' := ?_) #[true, true, true, true, true, true, true, true, true, true, false, false, false, false] rfl rfl (take_ofW HT_.out HW_.out (by kernel_rfl)) (fun _ _ _ h => h) (Or.inl ⟨by rfl, ?_⟩) hHeld ?_ ?_
         rotate_left
         ·rintro w' ⟨s0, s1, s2, s3, s4, s5, s6, s7⟩
          go_simp
          with_reducible rfl
         rotate_left
         ·simp only [PUz]
          rfl
         refine join_ (σ := Nat × Nat) 2 #[true, true, true, true, true, true, true, true, true, true, true, true, false, false] (fun s_ => [(6, .pointer (some ⟨s_.1, 0, none⟩)), (7, .pointer (some ⟨s_.2, 0, none⟩))]) (fun s_ w' => (w'.cell? ⟨gb215, 0, none⟩ = some (.slice A0_0 l0_0.length c0_0) ∧ w'.cell? ⟨gb215, 1, none⟩ = some (.slice (some ad219) l0_1.length c0_1) ∧ w'.cell? ⟨gb216, 0, none⟩ = some (.slice A1_0 l1_0.length c1_0) ∧ w'.cell? ⟨gb216, 1, none⟩ = some (.slice (some ad220) l1_1.length c1_1) ∧ w'.cell? (ad219.add ((x5_2).toNat * 2)) = some (.string ((rd_T114 l0_1 x5_2).f0)) ∧ w'.cell? ⟨(ad219.add ((x5_2).toNat * 2)).block, (ad219.add ((x5_2).toNat * 2)).off + 1, none⟩ = some (.slice A219_1 ((rd_T114 l0_1 x5_2).f1).length c219_1) ∧ w'.cell? (ad220.add ((x5_2).toNat * 2)) = some (.string ((rd_T114 l1_1 x5_2).f0)) ∧ w'.cell? ⟨(ad220.add ((x5_2).toNat * 2)).block, (ad220.add ((x5_2).toNat * 2)).off + 1, none⟩ = some (.slice A220_1 ((rd_T114 l1_1 x5_2).f1).length c220_1)) ∧ (w'.heap[gb215]? = some (.cells #[.slice A0_0 l0_0.length c0_0, .slice (some ad219) l0_1.length c0_1] 71 (0, 0))) ∧ (w'.heap[gb216]? = some (.cells #[.slice A1_0 l1_0.length c1_0, .slice (some ad220) l1_1.length c1_1] 71 (0, 0))) ∧ (w'.heap[s_.1]? = some (.cells #[.string (⟨#[]⟩ : ByteArray), .slice none 0 0] 114 (0, 0))) ∧ (w'.heap[s_.2]? = some (.cells #[.string (⟨#[]⟩ : ByteArray), .slice none 0 0] 114 (0, 0))) ∧ (w.heap.size ≤ s_.1) ∧ (w.heap.size ≤ s_.1) ∧ (gb215 ≠ s_.1) ∧ (s_.1 ≠ gb215) ∧ (gb216 ≠ s_.1) ∧ (s_.1 ≠ gb216) ∧ (s_.2 ≠ s_.1) ∧ (s_.1 ≠ s_.2) ∧ (w.heap.size ≤ s_.2) ∧ (w.heap.size ≤ s_.2) ∧ (gb215 ≠ s_.2) ∧ (s_.2 ≠ gb215) ∧ (gb216 ≠ s_.2) ∧ (s_.2 ≠ gb216) ∧ (Below w.heap.size w w')) ?_ ?_
         rotate_left
         ·intro hCont
          refine two_ (i := 10) (j := 11) (Ni := some 6) (Nj := some 7) #[true, true, true, true, true, true, true, true, true, true, true, false, false, false] #[true, true, true, true, true, true, true, true, true, true, false, true, false, false] rfl rfl rfl rfl (two_of HT_.out (by kernel_rfl)) (by decide) (by decide) (fun K hK => ?_) (fun K hK => ?_)
          ·skip
           refine box_step ?hg (N := 6) ?hd (cs := #[.string (⟨#[]⟩ : ByteArray), .slice none 0 0]) (t := 114) ?hr ?_; (case hd => rfl); (case hg => rfl); (case hr => first | (go_simp; done) | (go_simp; rfl))
           intro gb221 hg w23 hbox hb
           have n0_ := BBz BK215 hb
           have n1_ := BBz BK216 hb
           have n2_ := Aside0.mk (below_step (HBc GE215 GE216) hb)
           have n3_ := Aside0.mk (hbox)
           have n4_ := BSz w hg (HBc GE215 GE216)
           have n5_ := BSz w hg (HBc GE215 GE216)
           have n6_ := BNz BK215 hg
           have n7_ := BMz BK215 hg
           have n8_ := BNz BK216 hg
           have n9_ := BMz BK216 hg
           clear BK215
           clear BK216
           clear HB
           have BK215 := n0_
           have BK216 := n1_
           have HB := n2_
           have BK221 := n3_
           have GW221 := n4_
           have GE221 := n5_
           have NB215_221 := n6_
           have NB221_215 := n7_
           have NB216_221 := n8_
           have NB221_216 := n9_
           clear n0_ n1_ n2_ n3_ n4_ n5_ n6_ n7_ n8_ n9_
           clear hb hbox hg
           refine hK.out _ _ ⟨(blk_cell BK215.out 0).trans rfl, (blk_cell BK215.out 1).trans rfl, (blk_cell BK216.out 0).trans rfl, (blk_cell BK216.out 1).trans rfl, (HXz HB hw219_0 :), (HXz HB hw219_1 :), (HXz HB hw220_0 :), (HXz HB hw220_1 :)⟩ (fun hHeld => ?_)
           clear hK K
           refine norm_ (a' := ?_) ?_ ?_
           rotate_left
           ·show Act.put _ (some 6) _ = _
            simp only [PUz]
            rfl
           refine one_ (i := 11) (N := some 7) #[true, true, true, true, true, true, true, true, true, true, true, true, false, false] rfl rfl (one_of HT_.out (by kernel_rfl)) (by decide) (fun K hK => ?_)
           refine box_step ?hg (N := 7) ?hd (cs := #[.string (⟨#[]⟩ : ByteArray), .slice none 0 0]) (t := 114) ?hr ?_; (case hd => rfl); (case hg => rfl); (case hr => first | (go_simp; done) | (go_simp; rfl))
           intro gb222 hg w24 hbox hb
           have n0_ := BBz BK215 hb
           have n1_ := BBz BK216 hb
           have n2_ := BBz BK221 hb
           have n3_ := Aside0.mk (below_step (HBd GE215 GE216 GE221) hb)
           have n4_ := Aside0.mk (hbox)
           have n5_ := BSz w hg (HBd GE215 GE216 GE221)
           have n6_ := BSz w hg (HBd GE215 GE216 GE221)
           have n7_ := BNz BK215 hg
           have n8_ := BMz BK215 hg
           have n9_ := BNz BK216 hg
           have n10_ := BMz BK216 hg
           have n11_ := BNz BK221 hg
           have n12_ := BMz BK221 hg
           clear BK215
           clear BK216
           clear BK221
           clear HB
           have BK215 := n0_
           have BK216 := n1_
           have BK221 := n2_
           have HB := n3_
           have BK222 := n4_
           have GW222 := n5_
           have GE222 := n6_
           have NB215_222 := n7_
           have NB222_215 := n8_
           have NB216_222 := n9_
           have NB222_216 := n10_
           have NB221_222 := n11_
           have NB222_221 := n12_
           clear n0_ n1_ n2_ n3_ n4_ n5_ n6_ n7_ n8_ n9_ n10_ n11_ n12_
           clear hb hbox hg
           refine hK.out _ _ ⟨(blk_cell BK215.out 0).trans rfl, (blk_cell BK215.out 1).trans rfl, (blk_cell BK216.out 0).trans rfl, (blk_cell BK216.out 1).trans rfl, (HXz HB hw219_0 :), (HXz HB hw219_1 :), (HXz HB hw220_0 :), (HXz HB hw220_1 :)⟩ (fun hHeld => ?_)
           clear hK K
           refine norm_ (a' := ?_) ?_ ?_
           rotate_left
           ·show Act.put _ (some 7) _ = _
            simp only [PUz]
            rfl
           exact norm_ (by simp only [putAll, Act.put, List.setIfInBounds_toArray, List.set_cons_zero, List.set_cons_succ]) (hCont (gb221, gb222) _ ⟨hHeld, (BKz BK215), (BKz BK216), (BKz BK221), (BKz BK222), GW221.out, GE221.out, NB215_221.out, NB221_215.out, NB216_221.out, NB221_216.out, NB222_221.out, NB221_222.out, GW222.out, GE222.out, NB215_222.out, NB222_215.out, NB216_222.out, NB222_216.out, (HBe GE215 GE216 GE221 GE222)⟩)
          ·skip
           refine box_step ?hg (N := 7) ?hd (cs := #[.string (⟨#[]⟩ : ByteArray), .slice none 0 0]) (t := 114) ?hr ?_; (case hd => rfl); (case hg => rfl); (case hr => first | (go_simp; done) | (go_simp; rfl))
           intro gb222 hg w23 hbox hb
           have n0_ := BBz BK215 hb
           have n1_ := BBz BK216 hb
           have n2_ := Aside0.mk (below_step (HBc GE215 GE216) hb)
           have n3_ := Aside0.mk (hbox)
           have n4_ := BSz w hg (HBc GE215 GE216)
           have n5_ := BSz w hg (HBc GE215 GE216)
           have n6_ := BNz BK215 hg
           have n7_ := BMz BK215 hg
           have n8_ := BNz BK216 hg
           have n9_ := BMz BK216 hg
           clear BK215
           clear BK216
           clear HB
           have BK215 := n0_
           have BK216 := n1_
           have HB := n2_
           have BK222 := n3_
           have GW222 := n4_
           have GE222 := n5_
           have NB215_222 := n6_
           have NB222_215 := n7_
           have NB216_222 := n8_
           have NB222_216 := n9_
           clear n0_ n1_ n2_ n3_ n4_ n5_ n6_ n7_ n8_ n9_
           clear hb hbox hg
           refine hK.out _ _ ⟨(blk_cell BK215.out 0).trans rfl, (blk_cell BK215.out 1).trans rfl, (blk_cell BK216.out 0).trans rfl, (blk_cell BK216.out 1).trans rfl, (HXz HB hw219_0 :), (HXz HB hw219_1 :), (HXz HB hw220_0 :), (HXz HB hw220_1 :)⟩ (fun hHeld => ?_)
           clear hK K
           refine norm_ (a' := ?_) ?_ ?_
           rotate_left
           ·show Act.put _ (some 7) _ = _
            simp only [PUz]
            rfl
           refine one_ (i := 10) (N := some 6) #[true, true, true, true, true, true, true, true, true, true, true, true, false, false] rfl rfl (one_of HT_.out (by kernel_rfl)) (by decide) (fun K hK => ?_)
           refine box_step ?hg (N := 6) ?hd (cs := #[.string (⟨#[]⟩ : ByteArray), .slice none 0 0]) (t := 114) ?hr ?_; (case hd => rfl); (case hg => rfl); (case hr => first | (go_simp; done) | (go_simp; rfl))
           intro gb221 hg w24 hbox hb
           have n0_ := BBz BK215 hb
           have n1_ := BBz BK216 hb
           have n2_ := BBz BK222 hb
           have n3_ := Aside0.mk (below_step (HBd GE215 GE216 GE222) hb)
           have n4_ := Aside0.mk (hbox)
           have n5_ := BSz w hg (HBd GE215 GE216 GE222)
           have n6_ := BSz w hg (HBd GE215 GE216 GE222)
           have n7_ := BNz BK215 hg
           have n8_ := BMz BK215 hg
           have n9_ := BNz BK216 hg
           have n10_ := BMz BK216 hg
           have n11_ := BNz BK222 hg
           have n12_ := BMz BK222 hg
           clear BK215
           clear BK216
           clear BK222
           clear HB
           have BK215 := n0_
           have BK216 := n1_
           have BK222 := n2_
           have HB := n3_
           have BK221 := n4_
           have GW221 := n5_
           have GE221 := n6_
           have NB215_221 := n7_
           have NB221_215 := n8_
           have NB216_221 := n9_
           have NB221_216 := n10_
           have NB222_221 := n11_
           have NB221_222 := n12_
           clear n0_ n1_ n2_ n3_ n4_ n5_ n6_ n7_ n8_ n9_ n10_ n11_ n12_
           clear hb hbox hg
           refine hK.out _ _ ⟨(blk_cell BK215.out 0).trans rfl, (blk_cell BK215.out 1).trans rfl, (blk_cell BK216.out 0).trans rfl, (blk_cell BK216.out 1).trans rfl, (HXz HB hw219_0 :), (HXz HB hw219_1 :), (HXz HB hw220_0 :), (HXz HB hw220_1 :)⟩ (fun hHeld => ?_)
           clear hK K
           refine norm_ (a' := ?_) ?_ ?_
           rotate_left
           ·show Act.put _ (some 6) _ = _
            simp only [PUz]
            rfl
           exact norm_ (by simp only [putAll, Act.put, List.setIfInBounds_toArray, List.set_cons_zero, List.set_cons_succ]) (hCont (gb221, gb222) _ ⟨hHeld, (BKz BK215), (BKz BK216), (BKz BK221), (BKz BK222), GW221.out, GE221.out, NB215_221.out, NB221_215.out, NB216_221.out, NB221_216.out, NB222_221.out, NB221_222.out, GW222.out, GE222.out, NB215_222.out, NB222_215.out, NB216_222.out, NB222_216.out, (HBe GE215 GE216 GE222 GE221)⟩)
         rintro ⟨gb221, gb222⟩ w25 ⟨hS_, h0_, h1_, h2_, h3_, h4_, h5_, h6_, h7_, h8_, h9_, h10_, h11_, h12_, h13_, h14_, h15_, h16_, h17_, h18_⟩
         have n0_ : Aside0 (w25.heap[gb215]? = some (.cells #[.slice A0_0 l0_0.length c0_0, .slice (some ad219) l0_1.length c0_1] 71 (0, 0))) := ⟨h0_⟩
         have n1_ : Aside0 (w25.heap[gb216]? = some (.cells #[.slice A1_0 l1_0.length c1_0, .slice (some ad220) l1_1.length c1_1] 71 (0, 0))) := ⟨h1_⟩
         have n2_ : Aside0 (w25.heap[gb221]? = some (.cells #[.string (⟨#[]⟩ : ByteArray), .slice none 0 0] 114 (0, 0))) := ⟨h2_⟩
         have n3_ : Aside0 (w25.heap[gb222]? = some (.cells #[.string (⟨#[]⟩ : ByteArray), .slice none 0 0] 114 (0, 0))) := ⟨h3_⟩
         have n4_ : Aside0 (w.heap.size ≤ gb221) := ⟨h4_⟩
         have n5_ : Aside0 (w.heap.size ≤ gb221) := ⟨h5_⟩
         have n6_ : Aside0 (gb215 ≠ gb221) := ⟨h6_⟩
         have n7_ : Aside0 (gb221 ≠ gb215) := ⟨h7_⟩
         have n8_ : Aside0 (gb216 ≠ gb221) := ⟨h8_⟩
         have n9_ : Aside0 (gb221 ≠ gb216) := ⟨h9_⟩
         have n10_ : Aside0 (gb222 ≠ gb221) := ⟨h10_⟩
         have n11_ : Aside0 (gb221 ≠ gb222) := ⟨h11_⟩
         have n12_ : Aside0 (w.heap.size ≤ gb222) := ⟨h12_⟩
         have n13_ : Aside0 (w.heap.size ≤ gb222) := ⟨h13_⟩
         have n14_ : Aside0 (gb215 ≠ gb222) := ⟨h14_⟩
         have n15_ : Aside0 (gb222 ≠ gb215) := ⟨h15_⟩
         have n16_ : Aside0 (gb216 ≠ gb222) := ⟨h16_⟩
         have n17_ : Aside0 (gb222 ≠ gb216) := ⟨h17_⟩
         have n18_ : Aside0 (Below w.heap.size w w25) := ⟨h18_⟩
         clear BK215
         clear BK216
         clear HB
         clear h0_ h1_ h2_ h3_ h4_ h5_ h6_ h7_ h8_ h9_ h10_ h11_ h12_ h13_ h14_ h15_ h16_ h17_ h18_
         have BK215 := n0_
         have BK216 := n1_
         have BK221 := n2_
         have BK222 := n3_
         have GW221 := n4_
         have GE221 := n5_
         have NB215_221 := n6_
         have NB221_215 := n7_
         have NB216_221 := n8_
         have NB221_216 := n9_
         have NB222_221 := n10_
         have NB221_222 := n11_
         have GW222 := n12_
         have GE222 := n13_
         have NB215_222 := n14_
         have NB222_215 := n15_
         have NB216_222 := n16_
         have NB222_216 := n17_
         have HB := n18_
         clear n0_ n1_ n2_ n3_ n4_ n5_ n6_ n7_ n8_ n9_ n10_ n11_ n12_ n13_ n14_ n15_ n16_ n17_ n18_
         have hHeld : w25.cell? ⟨gb215, 0, none⟩ = some (.slice A0_0 l0_0.length c0_0) ∧ w25.cell? ⟨gb215, 1, none⟩ = some (.slice (some ad219) l0_1.length c0_1) ∧ w25.cell? ⟨gb216, 0, none⟩ = some (.slice A1_0 l1_0.length c1_0) ∧ w25.cell? ⟨gb216, 1, none⟩ = some (.slice (some ad220) l1_1.length c1_1) ∧ w25.cell? (ad219.add ((x5_2).toNat * 2)) = some (.string ((rd_T114 l0_1 x5_2).f0)) ∧ w25.cell? ⟨(ad219.add ((x5_2).toNat * 2)).block, (ad219.add ((x5_2).toNat * 2)).off + 1, none⟩ = some (.slice A219_1 ((rd_T114 l0_1 x5_2).f1).length c219_1) ∧ w25.cell? (ad220.add ((x5_2).toNat * 2)) = some (.string ((rd_T114 l1_1 x5_2).f0)) ∧ w25.cell? ⟨(ad220.add ((x5_2).toNat * 2)).block, (ad220.add ((x5_2).toNat * 2)).off + 1, none⟩ = some (.slice A220_1 ((rd_T114 l1_1 x5_2).f1).length c220_1) := hS_
         refine norm_ (a' := ?_) ?_ ?_
         rotate_left
         ·simp only [putAll, Act.put, List.setIfInBounds_toArray, List.set_cons_zero, List.set_cons_succ]
          rfl
         refine one_ (i := 12) (N := none) #[true, true, true, true, true, true, true, true, true, true, true, true, true, false] rfl rfl (one_of HT_.out (by kernel_rfl)) (by decide) (fun K hK => ?_)
         have hs26 : w25.cell? ⟨gb221, 0, none⟩ = some (.string (⟨#[]⟩ : ByteArray)) := (blk_cell BK221.out 0).trans rfl
         have hfs26 := blk_frozen BK221.out 0
         have hns26_0 := NB215_221.out
         have hns26_1 := NB216_221.out
         have hns26_3 := NB222_221.out
         have hms26_0 := NB221_215.out
         have hms26_1 := NB221_216.out
         have hms26_3 := NB221_222.out
         have hs27 : w25.cell? ⟨gb221, 1, none⟩ = some (.slice none 0 0) := (blk_cell BK221.out 1).trans rfl
         have hfs27 := blk_frozen BK221.out 1
         have hns27_0 := NB215_221.out
         have hns27_1 := NB216_221.out
         have hns27_3 := NB222_221.out
         have hms27_0 := NB221_215.out
         have hms27_1 := NB221_216.out
         have hms27_3 := NB221_222.out
         refine skip_ (w1 := ?_) (by rfl) rfl ?_ ?_
         rotate_left
         ·go_simp
          rfl
         refine hK.out _ _ ⟨((cell_far (p := ⟨gb221, _, none⟩) NB215_221.out _).trans (((cell_far (p := ⟨gb221, _, none⟩) NB215_221.out _).trans (hHeld.1)))), ((cell_far (p := ⟨gb221, _, none⟩) NB215_221.out _).trans (((cell_far (p := ⟨gb221, _, none⟩) NB215_221.out _).trans (hHeld.2.1)))), ((cell_far (p := ⟨gb221, _, none⟩) NB216_221.out _).trans (((cell_far (p := ⟨gb221, _, none⟩) NB216_221.out _).trans (hHeld.2.2.1)))), ((cell_far (p := ⟨gb221, _, none⟩) NB216_221.out _).trans (((cell_far (p := ⟨gb221, _, none⟩) NB216_221.out _).trans (hHeld.2.2.2.1)))), ((cell_far (p := ⟨gb221, _, none⟩) (by first | exact Nat.ne_of_lt (Nat.lt_of_lt_of_le (by have := World.block_lt_of_cell? _ _ hw219_0; first | rwa [add_block] at this | exact this) GW221.out) | (rw [add_block]; exact Nat.ne_of_lt (Nat.lt_of_lt_of_le (by have := World.block_lt_of_cell? _ _ hw219_0; first | rwa [add_block] at this | exact this) GW221.out)) | (show (Addr.add _ _).block ≠ _; rw [add_block]; exact Nat.ne_of_lt (Nat.lt_of_lt_of_le (by have := World.block_lt_of_cell? _ _ hw219_0; first | rwa [add_block] at this | exact this) GW221.out)) | (dsimp only; exact Nat.ne_of_lt (Nat.lt_of_lt_of_le (by have := World.block_lt_of_cell? _ _ hw219_0; first | rwa [add_block] at this | exact this) GW221.out))) _).trans (((cell_far (p := ⟨gb221, _, none⟩) (by first | exact Nat.ne_of_lt (Nat.lt_of_lt_of_le (by have := World.block_lt_of_cell? _ _ hw219_0; first | rwa [add_block] at this | exact this) GW221.out) | (rw [add_block]; exact Nat.ne_of_lt (Nat.lt_of_lt_of_le (by have := World.block_lt_of_cell? _ _ hw219_0; first | rwa [add_block] at this | exact this) GW221.out)) | (show (Addr.add _ _).block ≠ _; rw [add_block]; exact Nat.ne_of_lt (Nat.lt_of_lt_of_le (by have := World.block_lt_of_cell? _ _ hw219_0; first | rwa [add_block] at this | exact this) GW221.out)) | (dsimp only; exact Nat.ne_of_lt (Nat.lt_of_lt_of_le (by have := World.block_lt_of_cell? _ _ hw219_0; first | rwa [add_block] at this | exact this) GW221.out))) _).trans (hHeld.2.2.2.2.1)))), ((cell_far (p := ⟨gb221, _, none⟩) (by first | exact Nat.ne_of_lt (Nat.lt_of_lt_of_le (by have := World.block_lt_of_cell? _ _ hw219_1; first | rwa [add_block] at this | exact this) GW221.out) | (rw [add_block]; exact Nat.ne_of_lt (Nat.lt_of_lt_of_le (by have := World.block_lt_of_cell? _ _ hw219_1; first | rwa [add_block] at this | exact this) GW221.out)) | (show (Addr.add _ _).block ≠ _; rw [add_block]; exact Nat.ne_of_lt (Nat.lt_of_lt_of_le (by have := World.block_lt_of_cell? _ _ hw219_1; first | rwa [add_block] at this | exact this) GW221.out)) | (dsimp only; exact Nat.ne_of_lt (Nat.lt_of_lt_of_le (by have := World.block_lt_of_cell? _ _ hw219_1; first | rwa [add_block] at this | exact this) GW221.out))) _).trans (((cell_far (p := ⟨gb221, _, none⟩) (by first | exact Nat.ne_of_lt (Nat.lt_of_lt_of_le (by have := World.block_lt_of_cell? _ _ hw219_1; first | rwa [add_block] at this | exact this) GW221.out) | (rw [add_block]; exact Nat.ne_of_lt (Nat.lt_of_lt_of_le (by have := World.block_lt_of_cell? _ _ hw219_1; first | rwa [add_block] at this | exact this) GW221.out)) | (show (Addr.add _ _).block ≠ _; rw [add_block]; exact Nat.ne_of_lt (Nat.lt_of_lt_of_le (by have := World.block_lt_of_cell? _ _ hw219_1; first | rwa [add_block] at this | exact this) GW221.out)) | (dsimp only; exact Nat.ne_of_lt (Nat.lt_of_lt_of_le (by have := World.block_lt_of_cell? _ _ hw219_1; first | rwa [add_block] at this | exact this) GW221.out))) _).trans (hHeld.2.2.2.2.2.1)))), ((cell_far (p := ⟨gb221, _, none⟩) (by first | exact Nat.ne_of_lt (Nat.lt_of_lt_of_le (by have := World.block_lt_of_cell? _ _ hw220_0; first | rwa [add_block] at this | exact this) GW221.out) | (rw [add_block]; exact Nat.ne_of_lt (Nat.lt_of_lt_of_le (by have := World.block_lt_of_cell? _ _ hw220_0; first | rwa [add_block] at this | exact this) GW221.out)) | (show (Addr.add _ _).block ≠ _; rw [add_block]; exact Nat.ne_of_lt (Nat.lt_of_lt_of_le (by have := World.block_lt_of_cell? _ _ hw220_0; first | rwa [add_block] at this | exact this) GW221.out)) | (dsimp only; exact Nat.ne_of_lt (Nat.lt_of_lt_of_le (by have := World.block_lt_of_cell? _ _ hw220_0; first | rwa [add_block] at this | exact this) GW221.out))) _).trans (((cell_far (p := ⟨gb221, _, none⟩) (by first | exact Nat.ne_of_lt (Nat.lt_of_lt_of_le (by have := World.block_lt_of_cell? _ _ hw220_0; first | rwa [add_block] at this | exact this) GW221.out) | (rw [add_block]; exact Nat.ne_of_lt (Nat.lt_of_lt_of_le (by have := World.block_lt_of_cell? _ _ hw220_0; first | rwa [add_block] at this | exact this) GW221.out)) | (show (Addr.add _ _).block ≠ _; rw [add_block]; exact Nat.ne_of_lt (Nat.lt_of_lt_of_le (by have := World.block_lt_of_cell? _ _ hw220_0; first | rwa [add_block] at this | exact this) GW221.out)) | (dsimp only; exact Nat.ne_of_lt (Nat.lt_of_lt_of_le (by have := World.block_lt_of_cell? _ _ hw220_0; first | rwa [add_block] at this | exact this) GW221.out))) _).trans (hHeld.2.2.2.2.2.2.1)))), ((cell_far (p := ⟨gb221, _, none⟩) (by first | exact Nat.ne_of_lt (Nat.lt_of_lt_of_le (by have := World.block_lt_of_cell? _ _ hw220_1; first | rwa [add_block] at this | exact this) GW221.out) | (rw [add_block]; exact Nat.ne_of_lt (Nat.lt_of_lt_of_le (by have := World.block_lt_of_cell? _ _ hw220_1; first | rwa [add_block] at this | exact this) GW221.out)) | (show (Addr.add _ _).block ≠ _; rw [add_block]; exact Nat.ne_of_lt (Nat.lt_of_lt_of_le (by have := World.block_lt_of_cell? _ _ hw220_1; first | rwa [add_block] at this | exact this) GW221.out)) | (dsimp only; exact Nat.ne_of_lt (Nat.lt_of_lt_of_le (by have := World.block_lt_of_cell? _ _ hw220_1; first | rwa [add_block] at this | exact this) GW221.out))) _).trans (((cell_far (p := ⟨gb221, _, none⟩) (by first | exact Nat.ne_of_lt (Nat.lt_of_lt_of_le (by have := World.block_lt_of_cell? _ _ hw220_1; first | rwa [add_block] at this | exact this) GW221.out) | (rw [add_block]; exact Nat.ne_of_lt (Nat.lt_of_lt_of_le (by have := World.block_lt_of_cell? _ _ hw220_1; first | rwa [add_block] at this | exact this) GW221.out)) | (show (Addr.add _ _).block ≠ _; rw [add_block]; exact Nat.ne_of_lt (Nat.lt_of_lt_of_le (by have := World.block_lt_of_cell? _ _ hw220_1; first | rwa [add_block] at this | exact this) GW221.out)) | (dsimp only; exact Nat.ne_of_lt (Nat.lt_of_lt_of_le (by have := World.block_lt_of_cell? _ _ hw220_1; first | rwa [add_block] at this | exact this) GW221.out))) _).trans (hHeld.2.2.2.2.2.2.2))))⟩ (fun hHeld => ?_)
         clear hK K
         refine one_ (i := 13) (N := none) #[true, true, true, true, true, true, true, true, true, true, true, true, true, true] rfl rfl (one_of HT_.out (by kernel_rfl)) (by decide) (fun K hK => ?_)
         have hs28 : w25.cell? ⟨gb222, 0, none⟩ = some (.string (⟨#[]⟩ : ByteArray)) := (blk_cell BK222.out 0).trans rfl
         have hfs28 := blk_frozen BK222.out 0
         have hns28_0 := NB215_222.out
         have hns28_1 := NB216_222.out
         have hns28_2 := NB221_222.out
         have hms28_0 := NB222_215.out
         have hms28_1 := NB222_216.out
         have hms28_2 := NB222_221.out
         have hs29 : w25.cell? ⟨gb222, 1, none⟩ = some (.slice none 0 0) := (blk_cell BK222.out 1).trans rfl
         have hfs29 := blk_frozen BK222.out 1
         have hns29_0 := NB215_222.out
         have hns29_1 := NB216_222.out
         have hns29_2 := NB221_222.out
         have hms29_0 := NB222_215.out
         have hms29_1 := NB222_216.out
         have hms29_2 := NB222_221.out
         refine skip_ (w1 := ?_) (by rfl) rfl ?_ ?_
         rotate_left
         ·go_simp
          rfl
         refine hK.out _ _ ⟨((cell_far (p := ⟨gb222, _, none⟩) NB215_222.out _).trans (((cell_far (p := ⟨gb222, _, none⟩) NB215_222.out _).trans (hHeld.1)))), ((cell_far (p := ⟨gb222, _, none⟩) NB215_222.out _).trans (((cell_far (p := ⟨gb222, _, none⟩) NB215_222.out _).trans (hHeld.2.1)))), ((cell_far (p := ⟨gb222, _, none⟩) NB216_222.out _).trans (((cell_far (p := ⟨gb222, _, none⟩) NB216_222.out _).trans (hHeld.2.2.1)))), ((cell_far (p := ⟨gb222, _, none⟩) NB216_222.out _).trans (((cell_far (p := ⟨gb222, _, none⟩) NB216_222.out _).trans (hHeld.2.2.2.1)))), ((cell_far (p := ⟨gb222, _, none⟩) (by first | exact Nat.ne_of_lt (Nat.lt_of_lt_of_le (by have := World.block_lt_of_cell? _ _ hw219_0; first | rwa [add_block] at this | exact this) GW222.out) | (rw [add_block]; exact Nat.ne_of_lt (Nat.lt_of_lt_of_le (by have := World.block_lt_of_cell? _ _ hw219_0; first | rwa [add_block] at this | exact this) GW222.out)) | (show (Addr.add _ _).block ≠ _; rw [add_block]; exact Nat.ne_of_lt (Nat.lt_of_lt_of_le (by have := World.block_lt_of_cell? _ _ hw219_0; first | rwa [add_block] at this | exact this) GW222.out)) | (dsimp only; exact Nat.ne_of_lt (Nat.lt_of_lt_of_le (by have := World.block_lt_of_cell? _ _ hw219_0; first | rwa [add_block] at this | exact this) GW222.out))) _).trans (((cell_far (p := ⟨gb222, _, none⟩) (by first | exact Nat.ne_of_lt (Nat.lt_of_lt_of_le (by have := World.block_lt_of_cell? _ _ hw219_0; first | rwa [add_block] at this | exact this) GW222.out) | (rw [add_block]; exact Nat.ne_of_lt (Nat.lt_of_lt_of_le (by have := World.block_lt_of_cell? _ _ hw219_0; first | rwa [add_block] at this | exact this) GW222.out)) | (show (Addr.add _ _).block ≠ _; rw [add_block]; exact Nat.ne_of_lt (Nat.lt_of_lt_of_le (by have := World.block_lt_of_cell? _ _ hw219_0; first | rwa [add_block] at this | exact this) GW222.out)) | (dsimp only; exact Nat.ne_of_lt (Nat.lt_of_lt_of_le (by have := World.block_lt_of_cell? _ _ hw219_0; first | rwa [add_block] at this | exact this) GW222.out))) _).trans (hHeld.2.2.2.2.1)))), ((cell_far (p := ⟨gb222, _, none⟩) (by first | exact Nat.ne_of_lt (Nat.lt_of_lt_of_le (by have := World.block_lt_of_cell? _ _ hw219_1; first | rwa [add_block] at this | exact this) GW222.out) | (rw [add_block]; exact Nat.ne_of_lt (Nat.lt_of_lt_of_le (by have := World.block_lt_of_cell? _ _ hw219_1; first | rwa [add_block] at this | exact this) GW222.out)) | (show (Addr.add _ _).block ≠ _; rw [add_block]; exact Nat.ne_of_lt (Nat.lt_of_lt_of_le (by have := World.block_lt_of_cell? _ _ hw219_1; first | rwa [add_block] at this | exact this) GW222.out)) | (dsimp only; exact Nat.ne_of_lt (Nat.lt_of_lt_of_le (by have := World.block_lt_of_cell? _ _ hw219_1; first | rwa [add_block] at this | exact this) GW222.out))) _).trans (((cell_far (p := ⟨gb222, _, none⟩) (by first | exact Nat.ne_of_lt (Nat.lt_of_lt_of_le (by have := World.block_lt_of_cell? _ _ hw219_1; first | rwa [add_block] at this | exact this) GW222.out) | (rw [add_block]; exact Nat.ne_of_lt (Nat.lt_of_lt_of_le (by have := World.block_lt_of_cell? _ _ hw219_1; first | rwa [add_block] at this | exact this) GW222.out)) | (show (Addr.add _ _).block ≠ _; rw [add_block]; exact Nat.ne_of_lt (Nat.lt_of_lt_of_le (by have := World.block_lt_of_cell? _ _ hw219_1; first | rwa [add_block] at this | exact this) GW222.out)) | (dsimp only; exact Nat.ne_of_lt (Nat.lt_of_lt_of_le (by have := World.block_lt_of_cell? _ _ hw219_1; first | rwa [add_block] at this | exact this) GW222.out))) _).trans (hHeld.2.2.2.2.2.1)))), ((cell_far (p := ⟨gb222, _, none⟩) (by first | exact Nat.ne_of_lt (Nat.lt_of_lt_of_le (by have := World.block_lt_of_cell? _ _ hw220_0; first | rwa [add_block] at this | exact this) GW222.out) | (rw [add_block]; exact Nat.ne_of_lt (Nat.lt_of_lt_of_le (by have := World.block_lt_of_cell? _ _ hw220_0; first | rwa [add_block] at this | exact this) GW222.out)) | (show (Addr.add _ _).block ≠ _; rw [add_block]; exact Nat.ne_of_lt (Nat.lt_of_lt_of_le (by have := World.block_lt_of_cell? _ _ hw220_0; first | rwa [add_block] at this | exact this) GW222.out)) | (dsimp only; exact Nat.ne_of_lt (Nat.lt_of_lt_of_le (by have := World.block_lt_of_cell? _ _ hw220_0; first | rwa [add_block] at this | exact this) GW222.out))) _).trans (((cell_far (p := ⟨gb222, _, none⟩) (by first | exact Nat.ne_of_lt (Nat.lt_of_lt_of_le (by have := World.block_lt_of_cell? _ _ hw220_0; first | rwa [add_block] at this | exact this) GW222.out) | (rw [add_block]; exact Nat.ne_of_lt (Nat.lt_of_lt_of_le (by have := World.block_lt_of_cell? _ _ hw220_0; first | rwa [add_block] at this | exact this) GW222.out)) | (show (Addr.add _ _).block ≠ _; rw [add_block]; exact Nat.ne_of_lt (Nat.lt_of_lt_of_le (by have := World.block_lt_of_cell? _ _ hw220_0; first | rwa [add_block] at this | exact this) GW222.out)) | (dsimp only; exact Nat.ne_of_lt (Nat.lt_of_lt_of_le (by have := World.block_lt_of_cell? _ _ hw220_0; first | rwa [add_block] at this | exact this) GW222.out))) _).trans (hHeld.2.2.2.2.2.2.1)))), ((cell_far (p := ⟨gb222, _, none⟩) (by first | exact Nat.ne_of_lt (Nat.lt_of_lt_of_le (by have := World.block_lt_of_cell? _ _ hw220_1; first | rwa [add_block] at this | exact this) GW222.out) | (rw [add_block]; exact Nat.ne_of_lt (Nat.lt_of_lt_of_le (by have := World.block_lt_of_cell? _ _ hw220_1; first | rwa [add_block] at this | exact this) GW222.out)) | (show (Addr.add _ _).block ≠ _; rw [add_block]; exact Nat.ne_of_lt (Nat.lt_of_lt_of_le (by have := World.block_lt_of_cell? _ _ hw220_1; first | rwa [add_block] at this | exact this) GW222.out)) | (dsimp only; exact Nat.ne_of_lt (Nat.lt_of_lt_of_le (by have := World.block_lt_of_cell? _ _ hw220_1; first | rwa [add_block] at this | exact this) GW222.out))) _).trans (((cell_far (p := ⟨gb222, _, none⟩) (by first | exact Nat.ne_of_lt (Nat.lt_of_lt_of_le (by have := World.block_lt_of_cell? _ _ hw220_1; first | rwa [add_block] at this | exact this) GW222.out) | (rw [add_block]; exact Nat.ne_of_lt (Nat.lt_of_lt_of_le (by have := World.block_lt_of_cell? _ _ hw220_1; first | rwa [add_block] at this | exact this) GW222.out)) | (show (Addr.add _ _).block ≠ _; rw [add_block]; exact Nat.ne_of_lt (Nat.lt_of_lt_of_le (by have := World.block_lt_of_cell? _ _ hw220_1; first | rwa [add_block] at this | exact this) GW222.out)) | (dsimp only; exact Nat.ne_of_lt (Nat.lt_of_lt_of_le (by have := World.block_lt_of_cell? _ _ hw220_1; first | rwa [add_block] at this | exact this) GW222.out))) _).trans (hHeld.2.2.2.2.2.2.2))))⟩ (fun hHeld => ?_)
         clear hK K
         refine done_ (done_of HT_.out (by kernel_rfl)) ?_
         go_upto_region 7 with (fail)
         go_cut [55] (fun v55 wc => ∃ (kq : Nat) (x55_18 : Bool), v55 = .bool x55_18 ∧ Aside0 (spec_l03Same.j2 kq x5_2 x55_18 l0_0 l0_1 l1_0 l1_1 ((rd_T114 l0_1 x5_2).f0) ((rd_T114 l0_1 x5_2).f1) ((rd_T114 l1_1 x5_2).f0) ((rd_T114 l1_1 x5_2).f1) = some r) ∧ Aside0 (kq ≤ k2) ∧ Aside0 (wc.heap[gb215]? = some (.cells #[(.slice A0_0 l0_0.length c0_0), (.slice (some ad219) l0_1.length c0_1)] 71 (0, 0))) ∧ Aside0 (wc.heap[gb216]? = some (.cells #[(.slice A1_0 l1_0.length c1_0), (.slice (some ad220) l1_1.length c1_1)] 71 (0, 0))) ∧ Aside0 (wc.heap[gb221]? = some (.cells #[.string ((rd_T114 l0_1 x5_2).f0), (.slice A219_1 ((rd_T114 l0_1 x5_2).f1).length c219_1)] 114 (0, 0))) ∧ Aside0 (wc.heap[gb222]? = some (.cells #[.string ((rd_T114 l1_1 x5_2).f0), (.slice A220_1 ((rd_T114 l1_1 x5_2).f1).length c220_1)] 114 (0, 0))) ∧ Aside0 (Below w.heap.size w wc))
         case first =>
          have H := HC19.out
          clear HC19
          by_cases c30 : ((rd_T114 l0_1 x5_2).f0).toList = ((rd_T114 l1_1 x5_2).f0).toList
          ·rw [if_pos c30] at H
           have c30b0 : (((rd_T114 l0_1 x5_2).f0).toList == ((rd_T114 l1_1 x5_2).f0).toList) = true := beq_iff_eq.mpr c30
           have c30b1 : (((rd_T114 l0_1 x5_2).f0).toList != ((rd_T114 l1_1 x5_2).f0).toList) = false := bne_eq_false_iff_eq.mpr c30
           clear c30
           (first | rw [c30b0] | rw [c30v0] | (simp only [i64_w, i32_w]; rw [c30b0]) | (simp only [i64_w, i32_w]; rw [c30v0]) | skip)
           have H' := Aside0.mk H
           clear H
           have hnb31 := NB221_215.out
           have hnc31 := NB215_221.out
           have hnb32 := NB221_216.out
           have hnc32 := NB216_221.out
           have hnb33 := NB221_222.out
           have hnc33 := NB222_221.out
           have hcz34_0 : w25.cell? ⟨gb221, 0, none⟩ = some (.string (⟨#[]⟩ : ByteArray)) := (blk_cell BK221.out 0).trans rfl
           have hcz34_1 : w25.cell? ⟨gb221, 1, none⟩ = some (.slice none 0 0) := (blk_cell BK221.out 1).trans rfl
           have hfz34_0 := blk_frozen BK221.out 0
           have hfz34_1 := blk_frozen BK221.out 1
           have hnb35 := NB222_215.out
           have hnc35 := NB215_222.out
           have hnb36 := NB222_216.out
           have hnc36 := NB216_222.out
           have hcz37_0 : w25.cell? ⟨gb222, 0, none⟩ = some (.string (⟨#[]⟩ : ByteArray)) := (blk_cell BK222.out 0).trans rfl
           have hcz37_1 : w25.cell? ⟨gb222, 1, none⟩ = some (.slice none 0 0) := (blk_cell BK222.out 1).trans rfl
           have hfz37_0 := blk_frozen BK222.out 0
           have hfz37_1 := blk_frozen BK222.out 1
           go_wp2
           go_meet
           case rel => exact ⟨_, (((((rd_T114 l0_1 x5_2).f1).length : Int) != (((rd_T114 l1_1 x5_2).f1).length : Int))), EZc, H', ⟨by have := HJ2.out; have := HK2.out; first | omega | exact Nat.le_refl _⟩, ⟨by (with_reducible repeat (first | refine blk_drewN ?_ _ | refine blk_drew ?_ | refine blk_alloc ?_ _)); refine blk_far ?_ NB215_222.out _; (with_reducible repeat (first | refine blk_drewN ?_ _ | refine blk_drew ?_ | refine blk_alloc ?_ _)); refine blk_far ?_ NB215_222.out _; (with_reducible repeat (first | refine blk_drewN ?_ _ | refine blk_drew ?_ | refine blk_alloc ?_ _)); refine blk_far ?_ NB215_221.out _; (with_reducible repeat (first | refine blk_drewN ?_ _ | refine blk_drew ?_ | refine blk_alloc ?_ _)); refine blk_far ?_ NB215_221.out _; (with_reducible repeat (first | refine blk_drewN ?_ _ | refine blk_drew ?_ | refine blk_alloc ?_ _)); exact BK215.out⟩, ⟨by (with_reducible repeat (first | refine blk_drewN ?_ _ | refine blk_drew ?_ | refine blk_alloc ?_ _)); refine blk_far ?_ NB216_222.out _; (with_reducible repeat (first | refine blk_drewN ?_ _ | refine blk_drew ?_ | refine blk_alloc ?_ _)); refine blk_far ?_ NB216_222.out _; (with_reducible repeat (first | refine blk_drewN ?_ _ | refine blk_drew ?_ | refine blk_alloc ?_ _)); refine blk_far ?_ NB216_221.out _; (with_reducible repeat (first | refine blk_drewN ?_ _ | refine blk_drew ?_ | refine blk_alloc ?_ _)); refine blk_far ?_ NB216_221.out _; (with_reducible repeat (first | refine blk_drewN ?_ _ | refine blk_drew ?_ | refine blk_alloc ?_ _)); exact BK216.out⟩, ⟨by (with_reducible repeat (first | refine blk_drewN ?_ _ | refine blk_drew ?_ | refine blk_alloc ?_ _)); refine blk_far ?_ NB221_222.out _; (with_reducible repeat (first | refine blk_drewN ?_ _ | refine blk_drew ?_ | refine blk_alloc ?_ _)); refine blk_far ?_ NB221_222.out _; (with_reducible repeat (first | refine blk_drewN ?_ _ | refine blk_drew ?_ | refine blk_alloc ?_ _)); refine blk_put (cs := #[.string ((rd_T114 l0_1 x5_2).f0), .slice none 0 0]) ?_ 1 _ rfl; (with_reducible repeat (first | refine blk_drewN ?_ _ | refine blk_drew ?_ | refine blk_alloc ?_ _)); refine blk_put (cs := #[.string (⟨#[]⟩ : ByteArray), .slice none 0 0]) ?_ 0 _ rfl; (with_reducible repeat (first | refine blk_drewN ?_ _ | refine blk_drew ?_ | refine blk_alloc ?_ _)); exact BK221.out⟩, ⟨by (with_reducible repeat (first | refine blk_drewN ?_ _ | refine blk_drew ?_ | refine blk_alloc ?_ _)); refine blk_put (cs := #[.string ((rd_T114 l1_1 x5_2).f0), .slice none 0 0]) ?_ 1 _ rfl; (with_reducible repeat (first | refine blk_drewN ?_ _ | refine blk_drew ?_ | refine blk_alloc ?_ _)); refine blk_put (cs := #[.string (⟨#[]⟩ : ByteArray), .slice none 0 0]) ?_ 0 _ rfl; (with_reducible repeat (first | refine blk_drewN ?_ _ | refine blk_drew ?_ | refine blk_alloc ?_ _)); refine blk_far ?_ NB222_221.out _; (with_reducible repeat (first | refine blk_drewN ?_ _ | refine blk_drew ?_ | refine blk_alloc ?_ _)); refine blk_far ?_ NB222_221.out _; (with_reducible repeat (first | refine blk_drewN ?_ _ | refine blk_drew ?_ | refine blk_alloc ?_ _)); exact BK222.out⟩, ⟨by repeat (first | (with_reducible first | exact HB.out | apply below_alloc | apply pw_below_drewN | apply below_drew1 | refine below_set ?_ GE215.out | refine below_set ?_ GE216.out | refine below_set ?_ GE221.out | refine below_set ?_ GE222.out) | exact HB.out)⟩⟩
          ·rw [if_neg c30] at H
           have c30b0 : (((rd_T114 l0_1 x5_2).f0).toList == ((rd_T114 l1_1 x5_2).f0).toList) = false := beq_eq_false_iff_ne.mpr c30
           have c30b1 : (((rd_T114 l0_1 x5_2).f0).toList != ((rd_T114 l1_1 x5_2).f0).toList) = true := bne_iff_ne.mpr c30
           (first | rw [c30b0] | rw [c30v0] | (simp only [i64_w, i32_w]; rw [c30b0]) | (simp only [i64_w, i32_w]; rw [c30v0]) | skip)
           have H' := Aside0.mk H
           clear H
           have hnb38 := NB221_215.out
           have hnc38 := NB215_221.out
           have hnb39 := NB221_216.out
           have hnc39 := NB216_221.out
           have hnb40 := NB221_222.out
           have hnc40 := NB222_221.out
           have hcz41_0 : w25.cell? ⟨gb221, 0, none⟩ = some (.string (⟨#[]⟩ : ByteArray)) := (blk_cell BK221.out 0).trans rfl
           have hcz41_1 : w25.cell? ⟨gb221, 1, none⟩ = some (.slice none 0 0) := (blk_cell BK221.out 1).trans rfl
           have hfz41_0 := blk_frozen BK221.out 0
           have hfz41_1 := blk_frozen BK221.out 1
           have hnb42 := NB222_215.out
           have hnc42 := NB215_222.out
           have hnb43 := NB222_216.out
           have hnc43 := NB216_222.out
           have hcz44_0 : w25.cell? ⟨gb222, 0, none⟩ = some (.string (⟨#[]⟩ : ByteArray)) := (blk_cell BK222.out 0).trans rfl
           have hcz44_1 : w25.cell? ⟨gb222, 1, none⟩ = some (.slice none 0 0) := (blk_cell BK222.out 1).trans rfl
           have hfz44_0 := blk_frozen BK222.out 0
           have hfz44_1 := blk_frozen BK222.out 1
           go_wp2
           go_meet
           case rel => exact ⟨_, (true), EZc, H', ⟨by have := HJ2.out; have := HK2.out; first | omega | exact Nat.le_refl _⟩, ⟨by (with_reducible repeat (first | refine blk_drewN ?_ _ | refine blk_drew ?_ | refine blk_alloc ?_ _)); refine blk_far ?_ NB215_222.out _; (with_reducible repeat (first | refine blk_drewN ?_ _ | refine blk_drew ?_ | refine blk_alloc ?_ _)); refine blk_far ?_ NB215_222.out _; (with_reducible repeat (first | refine blk_drewN ?_ _ | refine blk_drew ?_ | refine blk_alloc ?_ _)); refine blk_far ?_ NB215_221.out _; (with_reducible repeat (first | refine blk_drewN ?_ _ | refine blk_drew ?_ | refine blk_alloc ?_ _)); refine blk_far ?_ NB215_221.out _; (with_reducible repeat (first | refine blk_drewN ?_ _ | refine blk_drew ?_ | refine blk_alloc ?_ _)); exact BK215.out⟩, ⟨by (with_reducible repeat (first | refine blk_drewN ?_ _ | refine blk_drew ?_ | refine blk_alloc ?_ _)); refine blk_far ?_ NB216_222.out _; (with_reducible repeat (first | refine blk_drewN ?_ _ | refine blk_drew ?_ | refine blk_alloc ?_ _)); refine blk_far ?_ NB216_222.out _; (with_reducible repeat (first | refine blk_drewN ?_ _ | refine blk_drew ?_ | refine blk_alloc ?_ _)); refine blk_far ?_ NB216_221.out _; (with_reducible repeat (first | refine blk_drewN ?_ _ | refine blk_drew ?_ | refine blk_alloc ?_ _)); refine blk_far ?_ NB216_221.out _; (with_reducible repeat (first | refine blk_drewN ?_ _ | refine blk_drew ?_ | refine blk_alloc ?_ _)); exact BK216.out⟩, ⟨by (with_reducible repeat (first | refine blk_drewN ?_ _ | refine blk_drew ?_ | refine blk_alloc ?_ _)); refine blk_far ?_ NB221_222.out _; (with_reducible repeat (first | refine blk_drewN ?_ _ | refine blk_drew ?_ | refine blk_alloc ?_ _)); refine blk_far ?_ NB221_222.out _; (with_reducible repeat (first | refine blk_drewN ?_ _ | refine blk_drew ?_ | refine blk_alloc ?_ _)); refine blk_put (cs := #[.string ((rd_T114 l0_1 x5_2).f0), .slice none 0 0]) ?_ 1 _ rfl; (with_reducible repeat (first | refine blk_drewN ?_ _ | refine blk_drew ?_ | refine blk_alloc ?_ _)); refine blk_put (cs := #[.string (⟨#[]⟩ : ByteArray), .slice none 0 0]) ?_ 0 _ rfl; (with_reducible repeat (first | refine blk_drewN ?_ _ | refine blk_drew ?_ | refine blk_alloc ?_ _)); exact BK221.out⟩, ⟨by (with_reducible repeat (first | refine blk_drewN ?_ _ | refine blk_drew ?_ | refine blk_alloc ?_ _)); refine blk_put (cs := #[.string ((rd_T114 l1_1 x5_2).f0), .slice none 0 0]) ?_ 1 _ rfl; (with_reducible repeat (first | refine blk_drewN ?_ _ | refine blk_drew ?_ | refine blk_alloc ?_ _)); refine blk_put (cs := #[.string (⟨#[]⟩ : ByteArray), .slice none 0 0]) ?_ 0 _ rfl; (with_reducible repeat (first | refine blk_drewN ?_ _ | refine blk_drew ?_ | refine blk_alloc ?_ _)); refine blk_far ?_ NB222_221.out _; (with_reducible repeat (first | refine blk_drewN ?_ _ | refine blk_drew ?_ | refine blk_alloc ?_ _)); refine blk_far ?_ NB222_221.out _; (with_reducible repeat (first | refine blk_drewN ?_ _ | refine blk_drew ?_ | refine blk_alloc ?_ _)); exact BK222.out⟩, ⟨by repeat (first | (with_reducible first | exact HB.out | apply below_alloc | apply pw_below_drewN | apply below_drew1 | refine below_set ?_ GE215.out | refine below_set ?_ GE216.out | refine below_set ?_ GE221.out | refine below_set ?_ GE222.out) | exact HB.out)⟩⟩
         case rest =>
          clear HC19
          try clear c1
          try clear c2
          try clear p2
          try clear q2
          try clear hx2
          try clear c3
          try clear c4
          try clear c8
          try clear c8b0
          try clear c8b1
          try clear c11
          try clear c15
          try clear c16
          try clear c16b0
          try clear c17
          try clear c17b0
          try clear c18
          try clear c18b0
          try clear c20
          try clear c21
          try clear p21
          try clear q21
          try clear hx21
          try clear c22
          try clear p22
          try clear q22
          try clear hx22
          try clear c30
          try clear c30b0
          try clear c30b1
          try clear c31
          try clear c32
          try clear c33
          try clear c35
          try clear c36
          try clear c38
          try clear c39
          try clear c40
          try clear c42
          try clear c43
          try clear hcz21_0
          try clear hcz21_1
          try clear hcz34_0
          try clear hcz34_1
          try clear hcz37_0
          try clear hcz37_1
          try clear hcz41_0
          try clear hcz41_1
          try clear hcz44_0
          try clear hcz44_1
          try clear hfz21_0
          try clear hfz21_1
          try clear hfz34_0
          try clear hfz34_1
          try clear hfz37_0
          try clear hfz37_1
          try clear hfz41_0
          try clear hfz41_1
          try clear hfz44_0
          try clear hfz44_1
          try clear hx219_0
          try clear hx219_1
          try clear hx220_0
          try clear hx220_1
          try clear p2
          try clear p219
          try clear p220
          try clear q219
          try clear q220
          obtain ⟨kq, x55_18, rfl, HA, HJ18, BK215, BK216, BK221, BK222, HB⟩ := hcut
          cases kq with
          | zero => exact absurd HA.out (by simp [spec_l03Same.j2])
          | succ kj18 =>
           have H := HA.out
           clear HA
           simp only [spec_l03Same.j2] at H
           by_cases c45 : x55_18 = true
           ·subst c45
            have H1 : (some false) = some r := by rw [if_pos rfl] at H; exact H
            clear H
            have H := H1
            clear H1
            obtain rfl := Option.some.inj H
            go_wp2
            go_ret
            exact ⟨EZa, HBe GE215 GE216 GE221 GE222⟩
           ·replace c45 := Bool.eq_false_iff.mpr c45
            subst c45
            have H1 : (spec_l03Same.l1 kj18 x5_2 0 l0_0 l0_1 l1_0 l1_1 ((rd_T114 l0_1 x5_2).f0) ((rd_T114 l0_1 x5_2).f1) ((rd_T114 l1_1 x5_2).f0) ((rd_T114 l1_1 x5_2).f1)) = some r := by rw [if_neg (show ¬ (false = true) by decide)] at H; exact H
            clear H
            have H := H1
            clear H1
            have H' := Aside0.mk H
            clear H
            go_wp2
            go_loopg [8] kj18 (fun kq v8 w' => ∃ (x8_4 : Int), v8 = .int .i64 x8_4 ∧ Aside0 (spec_l03Same.l1 kq x5_2 x8_4 l0_0 l0_1 l1_0 l1_1 ((rd_T114 l0_1 x5_2).f0) ((rd_T114 l0_1 x5_2).f1) ((rd_T114 l1_1 x5_2).f0) ((rd_T114 l1_1 x5_2).f1) = some r) ∧ Aside0 (kq ≤ kj18) ∧ Aside0 (w'.heap[gb215]? = some (.cells #[(.slice A0_0 l0_0.length c0_0), (.slice (some ad219) l0_1.length c0_1)] 71 (0, 0))) ∧ Aside0 (w'.heap[gb216]? = some (.cells #[(.slice A1_0 l1_0.length c1_0), (.slice (some ad220) l1_1.length c1_1)] 71 (0, 0))) ∧ Aside0 (w'.heap[gb221]? = some (.cells #[.string ((rd_T114 l0_1 x5_2).f0), (.slice A219_1 ((rd_T114 l0_1 x5_2).f1).length c219_1)] 114 (0, 0))) ∧ Aside0 (w'.heap[gb222]? = some (.cells #[.string ((rd_T114 l1_1 x5_2).f0), (.slice A220_1 ((rd_T114 l1_1 x5_2).f1).length c220_1)] 114 (0, 0))) ∧ Aside0 (Below w.heap.size w w'))
            case atStart => exact ⟨(0), EZc, H', ⟨Nat.le_refl _⟩, ⟨by (with_reducible repeat (first | refine blk_drewN ?_ _ | refine blk_drew ?_ | refine blk_alloc ?_ _)); exact BK215.out⟩, ⟨by (with_reducible repeat (first | refine blk_drewN ?_ _ | refine blk_drew ?_ | refine blk_alloc ?_ _)); exact BK216.out⟩, ⟨by (with_reducible repeat (first | refine blk_drewN ?_ _ | refine blk_drew ?_ | refine blk_alloc ?_ _)); exact BK221.out⟩, ⟨by (with_reducible repeat (first | refine blk_drewN ?_ _ | refine blk_drew ?_ | refine blk_alloc ?_ _)); exact BK222.out⟩, ⟨by repeat (first | (with_reducible first | exact HB.out | apply below_alloc | apply pw_below_drewN | apply below_drew1 | refine below_set ?_ GE215.out | refine below_set ?_ GE216.out | refine below_set ?_ GE221.out | refine below_set ?_ GE222.out) | exact HB.out)⟩⟩
            case round =>
             clear H'
             try clear c1
             try clear c2
             try clear p2
             try clear q2
             try clear hx2
             try clear c3
             try clear c4
             try clear c8
             try clear c8b0
             try clear c8b1
             try clear c11
             try clear c15
             try clear c16
             try clear c16b0
             try clear c17
             try clear c17b0
             try clear c18
             try clear c18b0
             try clear c20
             try clear c21
             try clear p21
             try clear q21
             try clear hx21
             try clear c22
             try clear p22
             try clear q22
             try clear hx22
             try clear c30
             try clear c30b0
             try clear c30b1
             try clear c31
             try clear c32
             try clear c33
             try clear c35
             try clear c36
             try clear c38
             try clear c39
             try clear c40
             try clear c42
             try clear c43
             try clear c45
             try clear hcz21_0
             try clear hcz21_1
             try clear hcz34_0
             try clear hcz34_1
             try clear hcz37_0
             try clear hcz37_1
             try clear hcz41_0
             try clear hcz41_1
             try clear hcz44_0
             try clear hcz44_1
             try clear hfz21_0
             try clear hfz21_1
             try clear hfz34_0
             try clear hfz34_1
             try clear hfz37_0
             try clear hfz37_1
             try clear hfz41_0
             try clear hfz41_1
             try clear hfz44_0
             try clear hfz44_1
             try clear hx219_0
             try clear hx219_1
             try clear hx220_0
             try clear hx220_1
             try clear p2
             try clear p21
             try clear p219
             try clear p22
             try clear p220
             try clear q2
             try clear q21
             try clear q219
             try clear q22
             try clear q220
             obtain ⟨x8_4, rfl, HA, HK4, BK215, BK216, BK221, BK222, HB⟩ := hrel
             cases gk with
             | zero => exact absurd HA.out (by simp [spec_l03Same.l1])
             | succ k4 =>
              have H := HA.out
              clear HA
              simp only [spec_l03Same.l1] at H
              by_cases c46 : x8_4 < (((rd_T114 l0_1 x5_2).f1).length : Int)
              ·rw [if_pos c46] at H
               have c46b0 : decide (x8_4 < (((rd_T114 l0_1 x5_2).f1).length : Int)) = true := decide_eq_true c46
               clear c46
               by_cases c47 : 0 ≤ x8_4
               ·rw [if_pos c47] at H
                have c47b0 : decide (0 ≤ x8_4) = true := decide_eq_true c47
                clear c47
                replace H := Option.bind_eq_some_iff.mp H
                obtain ⟨t224, A480, H⟩ := H
                replace H : (if x8_4 < (((rd_T114 l1_1 x5_2).f1).length : Int) then ((spec_Norm.f k4 (rdOf ByteArray.empty ((rd_T114 l1_1 x5_2).f1) x8_4)).bind fun t226 => (if t224.toList = t226.toList then (spec_l03Same.l1 k4 x5_2 (wrap64 (x8_4 + 1)) l0_0 l0_1 l1_0 l1_1 ((rd_T114 l0_1 x5_2).f0) ((rd_T114 l0_1 x5_2).f1) ((rd_T114 l1_1 x5_2).f0) ((rd_T114 l1_1 x5_2).f1)) else (some false))) else (none)) = some r := H
                have A48 := Aside0.mk A480
                clear A480
                by_cases c49 : x8_4 < (((rd_T114 l1_1 x5_2).f1).length : Int)
                ·rw [if_pos c49] at H
                 have c49b0 : decide (x8_4 < (((rd_T114 l1_1 x5_2).f1).length : Int)) = true := decide_eq_true c49
                 clear c49
                 replace H := Option.bind_eq_some_iff.mp H
                 obtain ⟨t226, A500, H⟩ := H
                 replace H : (if t224.toList = t226.toList then (spec_l03Same.l1 k4 x5_2 (wrap64 (x8_4 + 1)) l0_0 l0_1 l1_0 l1_1 ((rd_T114 l0_1 x5_2).f0) ((rd_T114 l0_1 x5_2).f1) ((rd_T114 l1_1 x5_2).f0) ((rd_T114 l1_1 x5_2).f1)) else (some false)) = some r := H
                 have A50 := Aside0.mk A500
                 clear A500
                 by_cases c51 : t224.toList = t226.toList
                 ·rw [if_pos c51] at H
                  have c51b0 : (t224.toList == t226.toList) = true := beq_iff_eq.mpr c51
                  have c51b1 : (t224.toList != t226.toList) = false := bne_eq_false_iff_eq.mpr c51
                  clear c51
                  have H' := Aside0.mk H
                  clear H
                  have hnb52 := NB221_215.out
                  have hnc52 := NB215_221.out
                  have hnb53 := NB221_216.out
                  have hnc53 := NB216_221.out
                  have hnb54 := NB221_222.out
                  have hnc54 := NB222_221.out
                  have hcz55_0 : wr.cell? ⟨gb221, 0, none⟩ = some (.string ((rd_T114 l0_1 x5_2).f0)) := (blk_cell BK221.out 0).trans rfl
                  have hcz55_1 : wr.cell? ⟨gb221, 1, none⟩ = some (.slice A219_1 ((rd_T114 l0_1 x5_2).f1).length c219_1) := (blk_cell BK221.out 1).trans rfl
                  have hfz55_0 := blk_frozen BK221.out 0
                  have hfz55_1 := blk_frozen BK221.out 1
                  try go_wp2
                  have n0_ := Aside0.mk (blk_drew BK215.out)
                  have n1_ := Aside0.mk (blk_drew BK216.out)
                  have n2_ := Aside0.mk (blk_drew BK221.out)
                  have n3_ := Aside0.mk (blk_drew BK222.out)
                  have n4_ := Aside0.mk (below_drew1 HB.out)
                  clear BK215
                  clear BK216
                  clear BK221
                  clear BK222
                  clear HB
                  have BK215 := n0_
                  have BK216 := n1_
                  have BK221 := n2_
                  have BK222 := n3_
                  have HB := n4_
                  clear n0_ n1_ n2_ n3_ n4_
                  have p223 : 0 ≤ (x8_4 : Int) := ODz
                  have q223 : x8_4 < (((rd_T114 l0_1 x5_2).f1).length : Int) := ODz
                  obtain ⟨ad223, e223, hx223_0⟩ := Kd.at_string HR219_1.out x8_4 p223 q223
                  have hw223_0 := hx223_0
                  cases e223
                  replace hx223_0 := HXz HB hx223_0
                  replace p223 := eq_true p223
                  replace q223 := eq_true q223
                  have p225 : 0 ≤ (x8_4 : Int) := ODz
                  have q225 : x8_4 < (((rd_T114 l1_1 x5_2).f1).length : Int) := ODz
                  obtain ⟨ad225, e225, hx225_0⟩ := Kd.at_string HR220_1.out x8_4 p225 q225
                  have hw225_0 := hx225_0
                  cases e225
                  replace hx225_0 := HXz HB hx225_0
                  replace p225 := eq_true p225
                  replace q225 := eq_true q225
                  refine start_ (n := 13) (S := fun w' => w'.cell? ⟨gb221, 0, none⟩ = some (.string ((rd_T114 l0_1 x5_2).f0)) ∧ w'.cell? ⟨gb221, 1, none⟩ = some (.slice (some ad223) ((rd_T114 l0_1 x5_2).f1).length c219_1) ∧ w'.cell? ⟨gb222, 0, none⟩ = some (.string ((rd_T114 l1_1 x5_2).f0)) ∧ w'.cell? ⟨gb222, 1, none⟩ = some (.slice (some ad225) ((rd_T114 l1_1 x5_2).f1).length c220_1) ∧ w'.cell? (ad223.add (x8_4).toNat) = some (.string (rdOf ByteArray.empty ((rd_T114 l0_1 x5_2).f1) x8_4)) ∧ w'.cell? (ad225.add (x8_4).toNat) = some (.string (rdOf ByteArray.empty ((rd_T114 l1_1 x5_2).f1) x8_4))) (ds := []) #[false, false, false, false, false, false, false, false, false, false, false, false, false] (by kernel_rfl) rfl rfl ⟨(blk_cell BK221.out 0).trans rfl, (blk_cell BK221.out 1).trans rfl, (blk_cell BK222.out 0).trans rfl, (blk_cell BK222.out 1).trans rfl, (HXz HB hw223_0 :), (HXz HB hw225_0 :)⟩ (fun hHeld => ?_); refine with_tabW spec_l03Same.tab12 spec_l03Same.bits12 (fun HT_ HW_ => ?_)
                  generalize wr.drew = w56 at BK215 BK216 BK221 BK222 HB hx223_0 hx225_0 hHeld ⊢
                  refine pure_ (i := 0) (N := some 63) (v := ?_) (a' := ?_) #[true, false, false, false, false, false, false, false, false, false, false, false, false] rfl rfl (any_of HT_.out (by kernel_rfl)) (fun _ _ _ h => h) (Or.inl ⟨by rfl, ?_⟩) ?_ ?_
                  rotate_left
                  ·intro w'
                   go_simp
                   with_reducible rfl
                  rotate_left
                  ·simp only [PUz]
                   rfl
                  refine pure_ (i := 2) (N := some 65) (v := ?_) (a' := ?_) #[true, false, true, false, false, false, false, false, false, false, false, false, false] rfl rfl (any_of HT_.out (by kernel_rfl)) (fun _ _ _ h => h) (Or.inl ⟨by rfl, ?_⟩) ?_ ?_
                  rotate_left
                  ·intro w'
                   go_simp
                   with_reducible rfl
                  rotate_left
                  ·simp only [PUz]
                   rfl
                  refine pure_ (i := 6) (N := some 69) (v := ?_) (a' := ?_) #[true, false, true, false, false, false, true, false, false, false, false, false, false] rfl rfl (any_of HT_.out (by kernel_rfl)) (fun _ _ _ h => h) (Or.inl ⟨by rfl, ?_⟩) ?_ ?_
                  rotate_left
                  ·intro w'
                   go_simp
                   with_reducible rfl
                  rotate_left
                  ·simp only [PUz]
                   rfl
                  refine pure_ (i := 8) (N := some 71) (v := ?_) (a' := ?_) #[true, false, true, false, false, false, true, false, true, false, false, false, false] rfl rfl (any_of HT_.out (by kernel_rfl)) (fun _ _ _ h => h) (Or.inl ⟨by rfl, ?_⟩) ?_ ?_
                  rotate_left
                  ·intro w'
                   go_simp
                   with_reducible rfl
                  rotate_left
                  ·simp only [PUz]
                   rfl
                  refine take_ (i := 1) (N := some 64) (v := ?_) (a' := ?_) #[true, true, true, false, false, false, true, false, true, false, false, false, false] rfl rfl (take_ofW HT_.out HW_.out (by kernel_rfl)) (fun _ _ _ h => h) (Or.inl ⟨by rfl, ?_⟩) hHeld ?_ ?_
                  rotate_left
                  ·rintro w' ⟨s0, s1, s2, s3, s4, s5⟩
                   go_simp
                   with_reducible rfl
                  rotate_left
                  ·simp only [PUz]
                   rfl
                  refine pure_ (i := 3) (N := some 66) (v := ?_) (a' := ?_) #[true, true, true, true, false, false, true, false, true, false, false, false, false] rfl rfl (any_of HT_.out (by kernel_rfl)) (fun _ _ _ h => h) (Or.inl ⟨by rfl, ?_⟩) ?_ ?_
                  rotate_left
                  ·intro w'
                   go_simp
                   with_reducible rfl
                  rotate_left
                  ·simp only [PUz]
                   rfl
                  refine take_ (i := 4) (N := some 67) (v := ?_) (a' := ?_) #[true, true, true, true, true, false, true, false, true, false, false, false, false] rfl rfl (take_ofW HT_.out HW_.out (by kernel_rfl)) (fun _ _ _ h => h) (Or.inl ⟨by rfl, ?_⟩) hHeld ?_ ?_
                  rotate_left
                  ·rintro w' ⟨s0, s1, s2, s3, s4, s5⟩
                   go_simp
                   with_reducible rfl
                  rotate_left
                  ·simp only [PUz]
                   rfl
                  refine take_ (i := 7) (N := some 70) (v := ?_) (a' := ?_) #[true, true, true, true, true, false, true, true, true, false, false, false, false] rfl rfl (take_ofW HT_.out HW_.out (by kernel_rfl)) (fun _ _ _ h => h) (Or.inl ⟨by rfl, ?_⟩) hHeld ?_ ?_
                  rotate_left
                  ·rintro w' ⟨s0, s1, s2, s3, s4, s5⟩
                   go_simp
                   with_reducible rfl
                  rotate_left
                  ·simp only [PUz]
                   rfl
                  refine pure_ (i := 9) (N := some 72) (v := ?_) (a' := ?_) #[true, true, true, true, true, false, true, true, true, true, false, false, false] rfl rfl (any_of HT_.out (by kernel_rfl)) (fun _ _ _ h => h) (Or.inl ⟨by rfl, ?_⟩) ?_ ?_
                  rotate_left
                  ·intro w'
                   go_simp
                   with_reducible rfl
                  rotate_left
                  ·simp only [PUz]
                   rfl
                  refine take_ (i := 10) (N := some 73) (v := ?_) (a' := ?_) #[true, true, true, true, true, false, true, true, true, true, true, false, false] rfl rfl (take_ofW HT_.out HW_.out (by kernel_rfl)) (fun _ _ _ h => h) (Or.inl ⟨by rfl, ?_⟩) hHeld ?_ ?_
                  rotate_left
                  ·rintro w' ⟨s0, s1, s2, s3, s4, s5⟩
                   go_simp
                   with_reducible rfl
                  rotate_left
                  ·simp only [PUz]
                   rfl
                  refine one_ (i := 5) (N := some 68) #[true, true, true, true, true, true, true, true, true, true, true, false, false] rfl rfl (one_of HT_.out (by kernel_rfl)) (by decide) (fun K hK => ?_)
                  refine goes_ Tryd.func124 (by kernel_rfl) rfl #[.string (rdOf ByteArray.empty ((rd_T114 l0_1 x5_2).f1) x8_4)] (by rfl) rfl rfl MPz ?_
                  with_reducible refine (spec_Norm.calls k4 (rdOf ByteArray.empty ((rd_T114 l0_1 x5_2).f1) x8_4) t224 _ A48.out).mono ?_
                  rintro e w57 ⟨rfl, hb⟩
                  refine ⟨_, rfl, ?_⟩
                  have n0_ := BBz BK215 hb
                  have n1_ := BBz BK216 hb
                  have n2_ := BBz BK221 hb
                  have n3_ := BBz BK222 hb
                  have n4_ := Aside0.mk (below_step (HBe GE215 GE216 GE221 GE222) hb)
                  clear BK215
                  clear BK216
                  clear BK221
                  clear BK222
                  clear HB
                  have BK215 := n0_
                  have BK216 := n1_
                  have BK221 := n2_
                  have BK222 := n3_
                  have HB := n4_
                  clear n0_ n1_ n2_ n3_ n4_
                  (try clear hb)
                  (try clear hb2)
                  (try clear hk)
                  (try clear hi)
                  refine hK.out _ _ ⟨(blk_cell BK221.out 0).trans rfl, (blk_cell BK221.out 1).trans rfl, (blk_cell BK222.out 0).trans rfl, (blk_cell BK222.out 1).trans rfl, (HXz HB hw223_0 :), (HXz HB hw225_0 :)⟩ (fun hHeld => ?_)
                  clear hK K
                  refine norm_ (a' := ?_) ?_ ?_
                  rotate_left
                  ·show Act.put _ (some 68) _ = _
                   simp only [PUz]
                   rfl
                  refine one_ (i := 11) (N := some 74) #[true, true, true, true, true, true, true, true, true, true, true, true, false] rfl rfl (one_of HT_.out (by kernel_rfl)) (by decide) (fun K hK => ?_)
                  refine goes_ Tryd.func124 (by kernel_rfl) rfl #[.string (rdOf ByteArray.empty ((rd_T114 l1_1 x5_2).f1) x8_4)] (by rfl) rfl rfl MPz ?_
                  with_reducible refine (spec_Norm.calls k4 (rdOf ByteArray.empty ((rd_T114 l1_1 x5_2).f1) x8_4) t226 _ A50.out).mono ?_
                  rintro e w58 ⟨rfl, hb⟩
                  refine ⟨_, rfl, ?_⟩
                  have n0_ := BBz BK215 hb
                  have n1_ := BBz BK216 hb
                  have n2_ := BBz BK221 hb
                  have n3_ := BBz BK222 hb
                  have n4_ := Aside0.mk (below_step (HBe GE215 GE216 GE221 GE222) hb)
                  clear BK215
                  clear BK216
                  clear BK221
                  clear BK222
                  clear HB
                  have BK215 := n0_
                  have BK216 := n1_
                  have BK221 := n2_
                  have BK222 := n3_
                  have HB := n4_
                  clear n0_ n1_ n2_ n3_ n4_
                  (try clear hb)
                  (try clear hb2)
                  (try clear hk)
                  (try clear hi)
                  refine hK.out _ _ ⟨(blk_cell BK221.out 0).trans rfl, (blk_cell BK221.out 1).trans rfl, (blk_cell BK222.out 0).trans rfl, (blk_cell BK222.out 1).trans rfl, (HXz HB hw223_0 :), (HXz HB hw225_0 :)⟩ (fun hHeld => ?_)
                  clear hK K
                  refine norm_ (a' := ?_) ?_ ?_
                  rotate_left
                  ·show Act.put _ (some 74) _ = _
                   simp only [PUz]
                   rfl
                  refine pure_ (i := 12) (N := some 75) (v := ?_) (a' := ?_) #[true, true, true, true, true, true, true, true, true, true, true, true, true] rfl rfl (any_of HT_.out (by kernel_rfl)) (fun _ _ _ h => h) (Or.inl ⟨by rfl, ?_⟩) ?_ ?_
                  rotate_left
                  ·intro w'
                   go_simp
                   with_reducible rfl
                  rotate_left
                  ·simp only [PUz]
                   rfl
                  refine done_ (done_of HT_.out (by kernel_rfl)) ?_
                  try go_wp2
                  go_roundg k4
                  case measure => have := HJ2.out; have := HK2.out; have := HJ18.out; have := HK4.out; omega
                  case rel => exact ⟨(wrap64 (x8_4 + 1)), EZc, H', ⟨by have := HJ2.out; have := HK2.out; have := HJ18.out; have := HK4.out; omega⟩, ⟨by (with_reducible repeat (first | refine blk_drewN ?_ _ | refine blk_drew ?_ | refine blk_alloc ?_ _)); exact BK215.out⟩, ⟨by (with_reducible repeat (first | refine blk_drewN ?_ _ | refine blk_drew ?_ | refine blk_alloc ?_ _)); exact BK216.out⟩, ⟨by (with_reducible repeat (first | refine blk_drewN ?_ _ | refine blk_drew ?_ | refine blk_alloc ?_ _)); exact BK221.out⟩, ⟨by (with_reducible repeat (first | refine blk_drewN ?_ _ | refine blk_drew ?_ | refine blk_alloc ?_ _)); exact BK222.out⟩, ⟨by repeat (first | (with_reducible first | exact HB.out | apply below_alloc | apply pw_below_drewN | apply below_drew1 | refine below_set ?_ GE215.out | refine below_set ?_ GE216.out | refine below_set ?_ GE221.out | refine below_set ?_ GE222.out) | exact HB.out)⟩⟩
                 ·rw [if_neg c51] at H
                  have c51b0 : (t224.toList == t226.toList) = false := beq_eq_false_iff_ne.mpr c51
                  have c51b1 : (t224.toList != t226.toList) = true := bne_iff_ne.mpr c51
                  obtain rfl := Option.some.inj H
                  have hnb59 := NB221_215.out
                  have hnc59 := NB215_221.out
                  have hnb60 := NB221_216.out
                  have hnc60 := NB216_221.out
                  have hnb61 := NB221_222.out
                  have hnc61 := NB222_221.out
                  have hcz62_0 : wr.cell? ⟨gb221, 0, none⟩ = some (.string ((rd_T114 l0_1 x5_2).f0)) := (blk_cell BK221.out 0).trans rfl
                  have hcz62_1 : wr.cell? ⟨gb221, 1, none⟩ = some (.slice A219_1 ((rd_T114 l0_1 x5_2).f1).length c219_1) := (blk_cell BK221.out 1).trans rfl
                  have hfz62_0 := blk_frozen BK221.out 0
                  have hfz62_1 := blk_frozen BK221.out 1
                  try go_wp2
                  have n0_ := Aside0.mk (blk_drew BK215.out)
                  have n1_ := Aside0.mk (blk_drew BK216.out)
                  have n2_ := Aside0.mk (blk_drew BK221.out)
                  have n3_ := Aside0.mk (blk_drew BK222.out)
                  have n4_ := Aside0.mk (below_drew1 HB.out)
                  clear BK215
                  clear BK216
                  clear BK221
                  clear BK222
                  clear HB
                  have BK215 := n0_
                  have BK216 := n1_
                  have BK221 := n2_
                  have BK222 := n3_
                  have HB := n4_
                  clear n0_ n1_ n2_ n3_ n4_
                  have p223 : 0 ≤ (x8_4 : Int) := ODz
                  have q223 : x8_4 < (((rd_T114 l0_1 x5_2).f1).length : Int) := ODz
                  obtain ⟨ad223, e223, hx223_0⟩ := Kd.at_string HR219_1.out x8_4 p223 q223
                  have hw223_0 := hx223_0
                  cases e223
                  replace hx223_0 := HXz HB hx223_0
                  replace p223 := eq_true p223
                  replace q223 := eq_true q223
                  have p225 : 0 ≤ (x8_4 : Int) := ODz
                  have q225 : x8_4 < (((rd_T114 l1_1 x5_2).f1).length : Int) := ODz
                  obtain ⟨ad225, e225, hx225_0⟩ := Kd.at_string HR220_1.out x8_4 p225 q225
                  have hw225_0 := hx225_0
                  cases e225
                  replace hx225_0 := HXz HB hx225_0
                  replace p225 := eq_true p225
                  replace q225 := eq_true q225
                  refine start_ (n := 13) (S := fun w' => w'.cell? ⟨gb221, 0, none⟩ = some (.string ((rd_T114 l0_1 x5_2).f0)) ∧ w'.cell? ⟨gb221, 1, none⟩ = some (.slice (some ad223) ((rd_T114 l0_1 x5_2).f1).length c219_1) ∧ w'.cell? ⟨gb222, 0, none⟩ = some (.string ((rd_T114 l1_1 x5_2).f0)) ∧ w'.cell? ⟨gb222, 1, none⟩ = some (.slice (some ad225) ((rd_T114 l1_1 x5_2).f1).length c220_1) ∧ w'.cell? (ad223.add (x8_4).toNat) = some (.string (rdOf ByteArray.empty ((rd_T114 l0_1 x5_2).f1) x8_4)) ∧ w'.cell? (ad225.add (x8_4).toNat) = some (.string (rdOf ByteArray.empty ((rd_T114 l1_1 x5_2).f1) x8_4))) (ds := []) #[false, false, false, false, false, false, false, false, false, false, false, false, false] (by kernel_rfl) rfl rfl ⟨(blk_cell BK221.out 0).trans rfl, (blk_cell BK221.out 1).trans rfl, (blk_cell BK222.out 0).trans rfl, (blk_cell BK222.out 1).trans rfl, (HXz HB hw223_0 :), (HXz HB hw225_0 :)⟩ (fun hHeld => ?_); refine with_tabW spec_l03Same.tab12 spec_l03Same.bits12 (fun HT_ HW_ => ?_)
                  generalize wr.drew = w63 at BK215 BK216 BK221 BK222 HB hx223_0 hx225_0 hHeld ⊢
                  refine pure_ (i := 0) (N := some 63) (v := ?_) (a' := ?_) #[true, false, false, false, false, false, false, false, false, false, false, false, false] rfl rfl (any_of HT_.out (by kernel_rfl)) (fun _ _ _ h => h) (Or.inl ⟨by rfl, ?_⟩) ?_ ?_
                  rotate_left
                  ·intro w'
                   go_simp
                   with_reducible rfl
                  rotate_left
                  ·simp only [PUz]
                   rfl
                  refine pure_ (i := 2) (N := some 65) (v := ?_) (a' := ?_) #[true, false, true, false, false, false, false, false, false, false, false, false, false] rfl rfl (any_of HT_.out (by kernel_rfl)) (fun _ _ _ h => h) (Or.inl ⟨by rfl, ?_⟩) ?_ ?_
                  rotate_left
                  ·intro w'
                   go_simp
                   with_reducible rfl
                  rotate_left
                  ·simp only [PUz]
                   rfl
                  refine pure_ (i := 6) (N := some 69) (v := ?_) (a' := ?_) #[true, false, true, false, false, false, true, false, false, false, false, false, false] rfl rfl (any_of HT_.out (by kernel_rfl)) (fun _ _ _ h => h) (Or.inl ⟨by rfl, ?_⟩) ?_ ?_
                  rotate_left
                  ·intro w'
                   go_simp
                   with_reducible rfl
                  rotate_left
                  ·simp only [PUz]
                   rfl
                  refine pure_ (i := 8) (N := some 71) (v := ?_) (a' := ?_) #[true, false, true, false, false, false, true, false, true, false, false, false, false] rfl rfl (any_of HT_.out (by kernel_rfl)) (fun _ _ _ h => h) (Or.inl ⟨by rfl, ?_⟩) ?_ ?_
                  rotate_left
                  ·intro w'
                   go_simp
                   with_reducible rfl
                  rotate_left
                  ·simp only [PUz]
                   rfl
                  refine take_ (i := 1) (N := some 64) (v := ?_) (a' := ?_) #[true, true, true, false, false, false, true, false, true, false, false, false, false] rfl rfl (take_ofW HT_.out HW_.out (by kernel_rfl)) (fun _ _ _ h => h) (Or.inl ⟨by rfl, ?_⟩) hHeld ?_ ?_
                  rotate_left
                  ·rintro w' ⟨s0, s1, s2, s3, s4, s5⟩
                   go_simp
                   with_reducible rfl
                  rotate_left
                  ·simp only [PUz]
                   rfl
                  refine pure_ (i := 3) (N := some 66) (v := ?_) (a' := ?_) #[true, true, true, true, false, false, true, false, true, false, false, false, false] rfl rfl (any_of HT_.out (by kernel_rfl)) (fun _ _ _ h => h) (Or.inl ⟨by rfl, ?_⟩) ?_ ?_
                  rotate_left
                  ·intro w'
                   go_simp
                   with_reducible rfl
                  rotate_left
                  ·simp only [PUz]
                   rfl
                  refine take_ (i := 4) (N := some 67) (v := ?_) (a' := ?_) #[true, true, true, true, true, false, true, false, true, false, false, false, false] rfl rfl (take_ofW HT_.out HW_.out (by kernel_rfl)) (fun _ _ _ h => h) (Or.inl ⟨by rfl, ?_⟩) hHeld ?_ ?_
                  rotate_left
                  ·rintro w' ⟨s0, s1, s2, s3, s4, s5⟩
                   go_simp
                   with_reducible rfl
                  rotate_left
                  ·simp only [PUz]
                   rfl
                  refine take_ (i := 7) (N := some 70) (v := ?_) (a' := ?_) #[true, true, true, true, true, false, true, true, true, false, false, false, false] rfl rfl (take_ofW HT_.out HW_.out (by kernel_rfl)) (fun _ _ _ h => h) (Or.inl ⟨by rfl, ?_⟩) hHeld ?_ ?_
                  rotate_left
                  ·rintro w' ⟨s0, s1, s2, s3, s4, s5⟩
                   go_simp
                   with_reducible rfl
                  rotate_left
                  ·simp only [PUz]
                   rfl
                  refine pure_ (i := 9) (N := some 72) (v := ?_) (a' := ?_) #[true, true, true, true, true, false, true, true, true, true, false, false, false] rfl rfl (any_of HT_.out (by kernel_rfl)) (fun _ _ _ h => h) (Or.inl ⟨by rfl, ?_⟩) ?_ ?_
                  rotate_left
                  ·intro w'
                   go_simp
                   with_reducible rfl
                  rotate_left
                  ·simp only [PUz]
                   rfl
                  refine take_ (i := 10) (N := some 73) (v := ?_) (a' := ?_) #[true, true, true, true, true, false, true, true, true, true, true, false, false] rfl rfl (take_ofW HT_.out HW_.out (by kernel_rfl)) (fun _ _ _ h => h) (Or.inl ⟨by rfl, ?_⟩) hHeld ?_ ?_
                  rotate_left
                  ·rintro w' ⟨s0, s1, s2, s3, s4, s5⟩
                   go_simp
                   with_reducible rfl
                  rotate_left
                  ·simp only [PUz]
                   rfl
                  refine one_ (i := 5) (N := some 68) #[true, true, true, true, true, true, true, true, true, true, true, false, false] rfl rfl (one_of HT_.out (by kernel_rfl)) (by decide) (fun K hK => ?_)
                  refine goes_ Tryd.func124 (by kernel_rfl) rfl #[.string (rdOf ByteArray.empty ((rd_T114 l0_1 x5_2).f1) x8_4)] (by rfl) rfl rfl MPz ?_
                  with_reducible refine (spec_Norm.calls k4 (rdOf ByteArray.empty ((rd_T114 l0_1 x5_2).f1) x8_4) t224 _ A48.out).mono ?_
                  rintro e w64 ⟨rfl, hb⟩
                  refine ⟨_, rfl, ?_⟩
                  have n0_ := BBz BK215 hb
                  have n1_ := BBz BK216 hb
                  have n2_ := BBz BK221 hb
                  have n3_ := BBz BK222 hb
                  have n4_ := Aside0.mk (below_step (HBe GE215 GE216 GE221 GE222) hb)
                  clear BK215
                  clear BK216
                  clear BK221
                  clear BK222
                  clear HB
                  have BK215 := n0_
                  have BK216 := n1_
                  have BK221 := n2_
                  have BK222 := n3_
                  have HB := n4_
                  clear n0_ n1_ n2_ n3_ n4_
                  (try clear hb)
                  (try clear hb2)
                  (try clear hk)
                  (try clear hi)
                  refine hK.out _ _ ⟨(blk_cell BK221.out 0).trans rfl, (blk_cell BK221.out 1).trans rfl, (blk_cell BK222.out 0).trans rfl, (blk_cell BK222.out 1).trans rfl, (HXz HB hw223_0 :), (HXz HB hw225_0 :)⟩ (fun hHeld => ?_)
                  clear hK K
                  refine norm_ (a' := ?_) ?_ ?_
                  rotate_left
                  ·show Act.put _ (some 68) _ = _
                   simp only [PUz]
                   rfl
                  refine one_ (i := 11) (N := some 74) #[true, true, true, true, true, true, true, true, true, true, true, true, false] rfl rfl (one_of HT_.out (by kernel_rfl)) (by decide) (fun K hK => ?_)
                  refine goes_ Tryd.func124 (by kernel_rfl) rfl #[.string (rdOf ByteArray.empty ((rd_T114 l1_1 x5_2).f1) x8_4)] (by rfl) rfl rfl MPz ?_
                  with_reducible refine (spec_Norm.calls k4 (rdOf ByteArray.empty ((rd_T114 l1_1 x5_2).f1) x8_4) t226 _ A50.out).mono ?_
                  rintro e w65 ⟨rfl, hb⟩
                  refine ⟨_, rfl, ?_⟩
                  have n0_ := BBz BK215 hb
                  have n1_ := BBz BK216 hb
                  have n2_ := BBz BK221 hb
                  have n3_ := BBz BK222 hb
                  have n4_ := Aside0.mk (below_step (HBe GE215 GE216 GE221 GE222) hb)
                  clear BK215
                  clear BK216
                  clear BK221
                  clear BK222
                  clear HB
                  have BK215 := n0_
                  have BK216 := n1_
                  have BK221 := n2_
                  have BK222 := n3_
                  have HB := n4_
                  clear n0_ n1_ n2_ n3_ n4_
                  (try clear hb)
                  (try clear hb2)
                  (try clear hk)
                  (try clear hi)
                  refine hK.out _ _ ⟨(blk_cell BK221.out 0).trans rfl, (blk_cell BK221.out 1).trans rfl, (blk_cell BK222.out 0).trans rfl, (blk_cell BK222.out 1).trans rfl, (HXz HB hw223_0 :), (HXz HB hw225_0 :)⟩ (fun hHeld => ?_)
                  clear hK K
                  refine norm_ (a' := ?_) ?_ ?_
                  rotate_left
                  ·show Act.put _ (some 74) _ = _
                   simp only [PUz]
                   rfl
                  refine pure_ (i := 12) (N := some 75) (v := ?_) (a' := ?_) #[true, true, true, true, true, true, true, true, true, true, true, true, true] rfl rfl (any_of HT_.out (by kernel_rfl)) (fun _ _ _ h => h) (Or.inl ⟨by rfl, ?_⟩) ?_ ?_
                  rotate_left
                  ·intro w'
                   go_simp
                   with_reducible rfl
                  rotate_left
                  ·simp only [PUz]
                   rfl
                  refine done_ (done_of HT_.out (by kernel_rfl)) ?_
                  try go_wp2
                  go_ret
                  exact ⟨EZa, HBe GE215 GE216 GE221 GE222⟩
                ·rw [if_neg c49] at H
                 exact absurd H (by simp)
               ·rw [if_neg c47] at H
                exact absurd H (by simp)
              ·rw [if_neg c46] at H
               have c46b0 : decide (x8_4 < (((rd_T114 l0_1 x5_2).f1).length : Int)) = false := decide_eq_false c46
               clear c46
               have H' := Aside0.mk H
               clear H
               have hnb66 := NB221_215.out
               have hnc66 := NB215_221.out
               have hnb67 := NB221_216.out
               have hnc67 := NB216_221.out
               have hnb68 := NB221_222.out
               have hnc68 := NB222_221.out
               have hcz69_0 : wr.cell? ⟨gb221, 0, none⟩ = some (.string ((rd_T114 l0_1 x5_2).f0)) := (blk_cell BK221.out 0).trans rfl
               have hcz69_1 : wr.cell? ⟨gb221, 1, none⟩ = some (.slice A219_1 ((rd_T114 l0_1 x5_2).f1).length c219_1) := (blk_cell BK221.out 1).trans rfl
               have hfz69_0 := blk_frozen BK221.out 0
               have hfz69_1 := blk_frozen BK221.out 1
               go_wp2
               go_roundg k4
               case measure => have := HJ2.out; have := HK2.out; have := HJ18.out; have := HK4.out; omega
               case rel => exact ⟨(wrap64 (x5_2 + 1)), EZc, H', ⟨by have := HJ2.out; have := HK2.out; have := HJ18.out; have := HK4.out; omega⟩, ⟨by (with_reducible repeat (first | refine blk_drewN ?_ _ | refine blk_drew ?_ | refine blk_alloc ?_ _)); exact BK215.out⟩, ⟨by (with_reducible repeat (first | refine blk_drewN ?_ _ | refine blk_drew ?_ | refine blk_alloc ?_ _)); exact BK216.out⟩, ⟨by repeat (first | (with_reducible first | exact HB.out | apply below_alloc | apply pw_below_drewN | apply below_drew1 | refine below_set ?_ GE215.out | refine below_set ?_ GE216.out | refine below_set ?_ GE221.out | refine below_set ?_ GE222.out) | exact HB.out)⟩⟩
        ·rw [if_neg c18] at H
         exact absurd H (by simp)
       ·rw [if_neg c17] at H
        exact absurd H (by simp)
      ·rw [if_neg c16] at H
       have c16b0 : decide (x5_2 < (l0_1.length : Int)) = false := decide_eq_false c16
       clear c16
       obtain rfl := Option.some.inj H
       have hnb70 := NB215_216.out
       have hnc70 := NB216_215.out
       have hcz71_0 : wr.cell? ⟨gb215, 0, none⟩ = some (.slice A0_0 l0_0.length c0_0) := (blk_cell BK215.out 0).trans rfl
       have hcz71_1 : wr.cell? ⟨gb215, 1, none⟩ = some (.slice A0_1 l0_1.length c0_1) := (blk_cell BK215.out 1).trans rfl
       have hfz71_0 := blk_frozen BK215.out 0
       have hfz71_1 := blk_frozen BK215.out 1
       go_wp2
       go_ret
       exact ⟨EZa, HBc GE215 GE216⟩
end Go.Proofs.YtdbboelacgehoaaDoor.PFnExactEntrySame
