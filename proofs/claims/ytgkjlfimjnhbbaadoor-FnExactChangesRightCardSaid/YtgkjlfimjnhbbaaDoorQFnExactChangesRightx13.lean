-- Laid by this session's own program out of the translation; Lean checks it.
import Derived.Test.YtgkjlfimjnhbbaaDoorQFnExactChangesRightx0
import Derived.Test.YtgkjlfimjnhbbaaDoorQFnExactChangesRightx11
import Derived.Test.YtgkjlfimjnhbbaaDoorQFnExactChangesRightx12
import Derived.Test.YtgkjlfimjnhbbaaDoorLayCompare
namespace Go.Proofs.YtgkjlfimjnhbbaaDoor.PFnExactChangesRight
open Go.RowKit Go.Proofs.YtgkjlfimjnhbbaaDoorW.PrintWords Go.Proofs.YtgkjlfimjnhbbaaDoorW.PrintLast Go.Proofs.YtgkjlfimjnhbbaaDoorW.PrintMore
attribute [local go_sem] max2_int min2_int max_two min_two max_three min_three max_four min_four   -- for this text's walks alone
set_option linter.unusedVariables false
set_option linter.unusedSimpArgs false
mutual
def impl_readDn.l0 : Nat → ByteArray → List (S126) → Bool → Int → ByteArray → ByteArray → Option ((List (S126)) × Bool)
 | 0, _, _, _, _, _, _ => none
 | k + 1, x0, x4, x6, x7, x373000, x373001 => if x7 < (x0.size : Int) then (if 0 ≤ x7 then (if x6 = true then (impl_readDn.j1 k x0 x4 x6 x7 (bt x0 x7) false x373000 x373001) else (impl_readDn.j1 k x0 x4 x6 x7 (bt x0 x7) ((bt x0 x7) == 61) x373000 x373001)) else (none)) else (if x4.length < 4398046511104 then ((some (x4 ++ [(⟨x373000, x373001⟩ : S126)] : List (S126))).bind fun y373 => ((impl_DnRight.f k y373).bind fun t376 => (if t376 = true then ((impl_dnText.f k y373).bind fun t377 => (some (y373, (t377.toList == x0.toList)))) else (some (y373, false))))) else (none))
def impl_readDn.j1 : Nat → ByteArray → List (S126) → Bool → Int → Int → Bool → ByteArray → ByteArray → Option ((List (S126)) × Bool)
 | 0, _, _, _, _, _, _, _, _ => none
 | k + 1, x0, x4, x6, x7, x8, x23, x373000, x373001 => if x23 = true then (impl_readDn.l0 k x0 x4 true (wrap64 (x7 + 1)) x373000 x373001) else (if x6 = true then (if x8 = 44 then (if x4.length < 4398046511104 then (impl_readDn.l0 k x0 (x4 ++ [(⟨x373000, x373001⟩ : S126)]) false (wrap64 (x7 + 1)) (⟨#[]⟩ : ByteArray) (⟨#[]⟩ : ByteArray)) else (none)) else (if x8 = 92 then (if (wrap64 (x7 + 1)) < (x0.size : Int) then (if 0 ≤ (wrap64 (x7 + 1)) then (if (wrap64 (x7 + 1)) ≤ (wrap64 ((wrap64 (x7 + 1)) + 1)) then (if (wrap64 ((wrap64 (x7 + 1)) + 1)) ≤ (x0.size : Int) then (if x373001.size + (x0.extract ((wrap64 (x7 + 1)) : Int).toNat ((wrap64 ((wrap64 (x7 + 1)) + 1)) : Int).toNat).size ≤ 9223372036854775807 then (impl_readDn.l0 k x0 x4 x6 (wrap64 ((wrap64 (x7 + 1)) + 1)) x373000 (x373001 ++ (x0.extract ((wrap64 (x7 + 1)) : Int).toNat ((wrap64 ((wrap64 (x7 + 1)) + 1)) : Int).toNat))) else (none)) else (none)) else (none)) else (none)) else (if 0 ≤ x7 then (if x7 ≤ (wrap64 (x7 + 1)) then (if (wrap64 (x7 + 1)) ≤ (x0.size : Int) then (if x373001.size + (x0.extract (x7 : Int).toNat ((wrap64 (x7 + 1)) : Int).toNat).size ≤ 9223372036854775807 then (impl_readDn.l0 k x0 x4 x6 (wrap64 (x7 + 1)) x373000 (x373001 ++ (x0.extract (x7 : Int).toNat ((wrap64 (x7 + 1)) : Int).toNat))) else (none)) else (none)) else (none)) else (none))) else (if 0 ≤ x7 then (if x7 ≤ (wrap64 (x7 + 1)) then (if (wrap64 (x7 + 1)) ≤ (x0.size : Int) then (if x373001.size + (x0.extract (x7 : Int).toNat ((wrap64 (x7 + 1)) : Int).toNat).size ≤ 9223372036854775807 then (impl_readDn.l0 k x0 x4 x6 (wrap64 (x7 + 1)) x373000 (x373001 ++ (x0.extract (x7 : Int).toNat ((wrap64 (x7 + 1)) : Int).toNat))) else (none)) else (none)) else (none)) else (none)))) else ((some (([x8] : List Int) : List Int)).bind fun y381 => (if x373000.size + (strOfNums y381).size ≤ 9223372036854775807 then (impl_readDn.l0 k x0 x4 x6 (wrap64 (x7 + 1)) (x373000 ++ (strOfNums y381)) x373001) else (none))))
end
def impl_readDn.f (k : Nat) (a0 : ByteArray) : Option ((List (S126)) × Bool) := (some (([] : List (S126)) : List (S126))).bind fun y369 => (if a0.toList = ([] : List UInt8) then (some (y369, true)) else (impl_readDn.l0 k a0 y369 false 0 (⟨#[]⟩ : ByteArray) (⟨#[]⟩ : ByteArray)))
theorem impl_readDn.mono_l : ∀ k, (∀ y0 y1 y2 y3 y4 y5, LeO (impl_readDn.l0 k y0 y1 y2 y3 y4 y5) (impl_readDn.l0 (k + 1) y0 y1 y2 y3 y4 y5)) ∧ (∀ y0 y1 y2 y3 y4 y5 y6 y7, LeO (impl_readDn.j1 k y0 y1 y2 y3 y4 y5 y6 y7) (impl_readDn.j1 (k + 1) y0 y1 y2 y3 y4 y5 y6 y7))
 | 0 => ⟨fun _ _ _ _ _ _ r h => by simp [impl_readDn.l0] at h, fun _ _ _ _ _ _ _ _ r h => by simp [impl_readDn.j1] at h⟩
 | k + 1 => by
  obtain ⟨ih0, ih1⟩ := impl_readDn.mono_l k
  refine ⟨?_, ?_⟩
  ·intro y0 y1 y2 y3 y4 y5
   unfold impl_readDn.l0
   repeat' first
   | (with_reducible exact ih0 _ _ _ _ _ _)
   | (with_reducible exact ih1 _ _ _ _ _ _ _ _)
   | (with_reducible exact impl_DnRight.mono _ _)
   | (with_reducible exact impl_dnText.mono _ _)
   | (with_reducible exact LeO.refl _)
   | (with_reducible exact LeO.none _)
   | (with_reducible refine LeO.ite ?_ ?_)
   | (with_reducible refine LeO.bind ?_ (fun _ => ?_))
   | exact ih0 _ _ _ _ _ _
   | exact ih1 _ _ _ _ _ _ _ _
   | exact impl_DnRight.mono _ _
   | exact impl_dnText.mono _ _
   | exact LeO.none _
   | refine LeO.ite ?_ ?_
   | refine LeO.bind ?_ (fun _ => ?_)
  ·intro y0 y1 y2 y3 y4 y5 y6 y7
   unfold impl_readDn.j1
   repeat' first
   | (with_reducible exact ih0 _ _ _ _ _ _)
   | (with_reducible exact ih1 _ _ _ _ _ _ _ _)
   | (with_reducible exact impl_DnRight.mono _ _)
   | (with_reducible exact impl_dnText.mono _ _)
   | (with_reducible exact LeO.refl _)
   | (with_reducible exact LeO.none _)
   | (with_reducible refine LeO.ite ?_ ?_)
   | (with_reducible refine LeO.bind ?_ (fun _ => ?_))
   | exact ih0 _ _ _ _ _ _
   | exact ih1 _ _ _ _ _ _ _ _
   | exact impl_DnRight.mono _ _
   | exact impl_dnText.mono _ _
   | exact LeO.none _
   | refine LeO.ite ?_ ?_
   | refine LeO.bind ?_ (fun _ => ?_)
theorem impl_readDn.mono : ∀ a0 k, LeO (impl_readDn.f k a0) (impl_readDn.f (k + 1) a0) := by
 intro a0 k
 obtain ⟨ih0, ih1⟩ := impl_readDn.mono_l k
 unfold impl_readDn.f
 repeat' first
   | (with_reducible exact ih0 _ _ _ _ _ _)
   | (with_reducible exact ih1 _ _ _ _ _ _ _ _)
   | (with_reducible exact impl_DnRight.mono _ _)
   | (with_reducible exact impl_dnText.mono _ _)
   | (with_reducible exact LeO.refl _)
   | (with_reducible exact LeO.none _)
   | (with_reducible refine LeO.ite ?_ ?_)
   | (with_reducible refine LeO.bind ?_ (fun _ => ?_))
   | exact ih0 _ _ _ _ _ _
   | exact ih1 _ _ _ _ _ _ _ _
   | exact impl_DnRight.mono _ _
   | exact impl_dnText.mono _ _
   | exact LeO.none _
   | refine LeO.ite ?_ ?_
   | refine LeO.bind ?_ (fun _ => ?_)
def impl_readDn.T18 : Bool × List (List Nat × List Nat) := (true, [([], []), ([0], [0]), ([], []), ([], []), ([], []), ([4], [4]), ([2, 3, 5], [2, 3, 5]), ([1, 6], [1, 6]), ([0, 1, 2, 3, 4, 5, 6, 7], []), ([8, 7, 0, 1, 2, 3, 4, 5, 6, 7], [7, 8])])
def impl_readDn.B18 : List Nat := [0, 1, 0, 0, 0, 16, 60, 127, 255, 511]
theorem impl_readDn.tab18 : rtab .any (opsOf Tryd.f129 18) = impl_readDn.T18 := by kernel_rfl
theorem impl_readDn.bits18 : waitsOk impl_readDn.T18.2 impl_readDn.B18 = true := by kernel_rfl
set_option maxHeartbeats 8000000 in
set_option maxRecDepth 100000 in
theorem impl_readDn.calls (k : Nat) (a0 : ByteArray) (r1 : List (S126)) (r2 : Bool) (w : World) (h : impl_readDn.f k a0 = some (r1, r2)) :
  Calls Tryd.prog 129 #[.string a0] w fun e w' => ∃ v0_ : Value, e = .returned (.tuple #[v0_, .bool r2]) ∧ Kd.R k126 126 w' w.heap.size (fun _ => True) v0_ r1 ∧ Below w.heap.size w w' := by
 have hu126 := Tryd.underlying126
 have HB := Aside0.mk (Below.refl w.heap.size w)
 have H : ((some (([] : List (S126)) : List (S126))).bind fun y369 => (if a0.toList = ([] : List UInt8) then (some (y369, true)) else (impl_readDn.l0 k a0 y369 false 0 (⟨#[]⟩ : ByteArray) (⟨#[]⟩ : ByteArray)))) = some (r1, r2) := h
 clear h
 obtain ⟨y369, hy369⟩ : ∃ y_ : List (S126), y_ = (([] : List (S126))) := ⟨_, rfl⟩
 replace H : (if a0.toList = ([] : List UInt8) then (some (y369, true)) else (impl_readDn.l0 k a0 y369 false 0 (⟨#[]⟩ : ByteArray) (⟨#[]⟩ : ByteArray))) = some (r1, r2) := by first | (rw [hy369]; with_reducible exact H) | (have H2_ := (Option.bind_some _ _).symm.trans H; rw [hy369]; with_reducible exact H2_) | (have H2_ := (Option.bind_some _ _).symm.trans H; with_reducible exact H2_) | with_reducible exact H | (rw [hy369]; exact H) | exact H
 have Ny369 := Aside0.mk hy369
 clear hy369
 by_cases c2 : a0.toList = ([] : List UInt8)
 ·rw [if_pos c2] at H
  have c2b0 : (a0.toList == ([] : List UInt8)) = true := beq_iff_eq.mpr c2
  have c2b1 : (a0.toList != ([] : List UInt8)) = false := bne_eq_false_iff_eq.mpr c2
  clear c2
  simp only [Option.some.injEq, Prod.mk.injEq] at H
  obtain ⟨rfl, rfl⟩ := H
  go_enter Tryd.func129, Tryd.ntmps129
  go_wp2_with (first | ((with_reducible refine gate_dst (N := 9) rfl ?_); (try (refine gate_guard (by rfl) ?_; dsimp only)); refine Kd.R_lit k126 _ 126 ?hg (N := 9) ?hd (xs := ([] : List (S126))) (inner := []) (ok := fun _ => True) (okp := fun _ => True) ?hr ?hp (fun _ hk => hk) trivial (Below.refl _ _) (Nat.le_refl _) (by simp) ?_; (case hd => rfl); (case hg => rfl); (case hr => first | (go_simp; done) | (go_simp; rfl)); (case hp => exact (Reps.none _ _)); intro v370 w3 ho4 hb hg_ hnew_; clear hg_ hnew_; (first | rw [← Ny369.out] at ho4 | (simp only [Int.reduceToNat] at ho4; rw [← Ny369.out] at ho4)); have n0_ := Aside0.mk (Kd.R_lower ho4 (below_size HBa)); have n1_ := Aside0.mk (below_step HBa hb); clear HB; have HO371 := n0_; have HB := n1_; clear n0_ n1_; clear hb ho4))
  go_ret2
  exact ⟨_, EZa, by (with_reducible repeat (first | apply Kd.R_alloc | apply Kd.R_drewN | apply Kd.R_drew)); exact HO371.out, HBa⟩
 rw [if_neg c2] at H
 have c2b0 : (a0.toList == ([] : List UInt8)) = false := beq_eq_false_iff_ne.mpr c2
 have c2b1 : (a0.toList != ([] : List UInt8)) = true := bne_iff_ne.mpr c2
 have H' := Aside0.mk H
 clear H
 go_enter Tryd.func129, Tryd.ntmps129
 go_wp2_with (first | ((with_reducible refine gate_dst (N := 9) rfl ?_); (try (refine gate_guard (by rfl) ?_; dsimp only)); refine Kd.R_lit k126 _ 126 ?hg (N := 9) ?hd (xs := ([] : List (S126))) (inner := []) (ok := fun _ => True) (okp := fun _ => True) ?hr ?hp (fun _ hk => hk) trivial (Below.refl _ _) (Nat.le_refl _) (by simp) ?_; (case hd => rfl); (case hg => rfl); (case hr => first | (go_simp; done) | (go_simp; rfl)); (case hp => exact (Reps.none _ _)); intro v370 w5 ho6 hb hg_ hnew_; clear hg_ hnew_; (first | rw [← Ny369.out] at ho6 | (simp only [Int.reduceToNat] at ho6; rw [← Ny369.out] at ho6)); have n0_ := Aside0.mk (Kd.R_lower ho6 (below_size HBa)); have n1_ := Aside0.mk (below_step HBa hb); clear HB; have HO371 := n0_; have HB := n1_; clear n0_ n1_; clear hb ho6) | ((with_reducible refine gate_dst (N := 5) rfl ?_); (try (refine gate_guard (by rfl) ?_; dsimp only)); refine box_event ?hg (N := 5) ?hd (cs := #[.string (⟨#[]⟩ : ByteArray), .string (⟨#[]⟩ : ByteArray)]) (t := 126) ?hr ?_; (case hd => rfl); (case hg => rfl); (case hr => first | (go_simp; done) | (go_simp; rfl)); intro gb372 hg w7 hbox hb; have n0_ := Aside0.mk (Kd.R_below (Kd.R_elderB (KRz HO371) gb372 (Nat.le_of_eq hg.symm)) hb); have n1_ := Aside0.mk (below_step HBa hb); have n2_ := Aside0.mk (hbox); have n3_ := BSz w hg HBa; have n4_ := BSz w hg HBa; clear HO371; clear HB; have HO371 := n0_; have HB := n1_; have BK372 := n2_; have GW372 := n3_; have GE372 := n4_; clear n0_ n1_ n2_ n3_ n4_; clear hb hbox hg; have hcz8_0 := C1z BK372; have hcz8_1 := C2z BK372; have hfz8_0 := blk_frozen BK372.out 0; have hfz8_1 := blk_frozen BK372.out 1))
 go_loopg [4, 6, 7] k (fun kq v4 v6 v7 w' => ∃ (x4_1 : List (S126)) (x6_1 : Bool) (x7_1 : Int) (x373000_1 : ByteArray) (x373001_1 : ByteArray), v6 = .bool x6_1 ∧ v7 = .int .i64 x7_1 ∧ Aside0 (impl_readDn.l0 kq a0 x4_1 x6_1 x7_1 x373000_1 x373001_1 = some (r1, r2)) ∧ Aside0 (kq ≤ k) ∧ Aside0 (Kd.R k126 126 w' w.heap.size (fun k_ => k_ ≠ gb372) v4 x4_1) ∧ Aside0 (w'.heap[gb372]? = some (.cells #[.string x373000_1, .string x373001_1] 126 (0, 0))) ∧ Aside0 (Below w.heap.size w w'))
 case atStart => exact ⟨(y369), (false), (0), ((⟨#[]⟩ : ByteArray)), ((⟨#[]⟩ : ByteArray)), EZc, EZc, H', ⟨Nat.le_refl _⟩, ⟨by (with_reducible repeat (first | apply Kd.R_alloc | apply Kd.R_drewN | apply Kd.R_drew)); exact Kd.R_mono (Kd.R_far (p := ⟨gb372, 1, none⟩) (Kd.R_far (p := ⟨gb372, 0, none⟩) (Kd.R_mono HO371.out (fun k_ hk => (⟨hk, hk.2⟩ : _ ∧ k_ ≠ gb372))) (fun _ hk => hk.2) (.string (⟨#[]⟩ : ByteArray))) (fun _ hk => hk.2) (.string (⟨#[]⟩ : ByteArray))) (fun _ hk => hk.1.2)⟩, ⟨by (with_reducible repeat (first | refine blk_drewN ?_ _ | refine blk_drew ?_ | refine blk_alloc ?_ _)); refine blk_put (cs := #[.string (⟨#[]⟩ : ByteArray), .string (⟨#[]⟩ : ByteArray)]) ?_ 1 _ rfl; (with_reducible repeat (first | refine blk_drewN ?_ _ | refine blk_drew ?_ | refine blk_alloc ?_ _)); refine blk_put (cs := #[.string (⟨#[]⟩ : ByteArray), .string (⟨#[]⟩ : ByteArray)]) ?_ 0 _ rfl; (with_reducible repeat (first | refine blk_drewN ?_ _ | refine blk_drew ?_ | refine blk_alloc ?_ _)); exact BK372.out⟩, ⟨by repeat (first | (with_reducible first | exact HB.out | apply below_alloc | apply pw_below_drewN | apply below_drew1 | refine below_set ?_ GE372.out) | exact HB.out)⟩⟩
 case round =>
  clear H'
  try clear c1
  try clear c2
  try clear c2b0
  try clear c2b1
  try clear p2
  try clear hcz8_0
  try clear hcz8_1
  try clear hfz8_0
  try clear hfz8_1
  obtain ⟨x4_1, x6_1, x7_1, x373000_1, x373001_1, rfl, rfl, HA, HK1, HO_4, BK372, HB⟩ := hrel
  cases gk with
  | zero => exact absurd HA.out (by simp [impl_readDn.l0])
  | succ k1 =>
   have H := HA.out
   clear HA
   simp only [impl_readDn.l0] at H
   by_cases c9 : x7_1 < (a0.size : Int)
   rotate_left
   ·rw [if_neg c9] at H
    have c9b0 : decide (x7_1 < (a0.size : Int)) = false := decide_eq_false c9
    clear c9
    by_cases c48 : x4_1.length < 4398046511104
    rotate_left
    ·rw [if_neg c48] at H
     exact absurd H (by simp)
    rw [if_pos c48] at H
    have LMc48 := Aside0.mk c48
    clear c48
    obtain ⟨y373, hy373⟩ : ∃ y_ : List (S126), y_ = (x4_1 ++ [(⟨x373000_1, x373001_1⟩ : S126)]) := ⟨_, rfl⟩
    replace H : ((impl_DnRight.f k1 y373).bind fun t376 => (if t376 = true then ((impl_dnText.f k1 y373).bind fun t377 => (some (y373, (t377.toList == a0.toList)))) else (some (y373, false)))) = some (r1, r2) := by first | (rw [hy373]; with_reducible exact H) | (have H2_ := (Option.bind_some _ _).symm.trans H; rw [hy373]; with_reducible exact H2_) | (have H2_ := (Option.bind_some _ _).symm.trans H; with_reducible exact H2_) | with_reducible exact H | (rw [hy373]; exact H) | exact H
    have Ny373 := Aside0.mk hy373
    clear hy373
    replace H := Option.bind_eq_some_iff.mp H
    obtain ⟨t376, A490, H⟩ := H
    replace H : (if t376 = true then ((impl_dnText.f k1 y373).bind fun t377 => (some (y373, (t377.toList == a0.toList)))) else (some (y373, false))) = some (r1, r2) := H
    have A49 := Aside0.mk A490
    clear A490
    by_cases c50 : t376 = true
    ·subst c50
     have H1 : ((impl_dnText.f k1 y373).bind fun t377 => (some (y373, (t377.toList == a0.toList)))) = some (r1, r2) := by rw [if_pos rfl] at H; exact H
     clear H
     have H := H1
     clear H1
     replace H := Option.bind_eq_some_iff.mp H
     obtain ⟨t377, A510, H⟩ := H
     replace H : (some (y373, (t377.toList == a0.toList))) = some (r1, r2) := H
     have A51 := Aside0.mk A510
     clear A510
     simp only [Option.some.injEq, Prod.mk.injEq] at H
     obtain ⟨rfl, rfl⟩ := H
     have hcz52_0 := C1z BK372
     have hcz52_1 := C2z BK372
     have hfz52_0 := blk_frozen BK372.out 0
     have hfz52_1 := blk_frozen BK372.out 1
     go_wp2_with (first | ((with_reducible refine gate_builtin (b := .append) (xs := #[.tmp 69, .tmp 71]) rfl ?_); (try (refine gate_guard (by rfl) ?_; dsimp only)); at_builtin; refine Kd.R_append k126 (w0 := w) w.heap.size rfl (.tmp 69) (.tmp 71) 78 126 (.agg #[(.string ⟨#[]⟩), (.string ⟨#[]⟩)]) 32 rfl Tryd.underlying78 info126 rfl (by decide) (by omega) u4 x4_1 (⟨x373000_1, x373001_1⟩ : S126) [.string x373000_1, .string x373001_1] (fun k_ => k_ ≠ gb372) (fun _ => False) rfl rfl ?aP (fun _ hk => hk.elim) ?aF ?aO ?aB ?aS ?aL ?_; (case aP => exact k126_mkM _ _ _ (⟨x373000_1, x373001_1⟩ : S126)); (case aB => exact (HBb GE372)); (case aF => exact (fun k_ hk => Kd.freshB (g := gb372) (o := .cells #[.string x373000_1, .string x373001_1] 126 (0, 0)) (BKz BK372) k_ hk)); (case aO => exact (KRz HO_4)); (case aS => exact (below_size (HBb GE372))); (case aL => have := LMc48.out; omega); intro v374 w53 ho hb hg hat; rw [← Ny373.out] at ho; have n0_ := Aside0.mk (blk_grown (g := gb372) (o := .cells #[.string x373000_1, .string x373001_1] 126 (0, 0)) (BKz BK372) hg (Kd.R_away HO_4.out (fun _ hk => hk))); have n1_ := Aside0.mk (hb); have n2_ := Aside0.mk (ho); clear BK372; clear HB; clear HO_4; have BK372 := n0_; have HB := n1_; have HO375 := n2_; clear n0_ n1_ n2_; clear ho hb hg hat; obtain ⟨Ao54, co54, eo54⟩ := Kd.R_slice HO375.out; subst eo54) | ((with_reducible refine gate_callee (f := 158) rfl ?_); refine goesL_ (some 75) rfl rfl Tryd.func158 (by kernel_rfl) rfl #[.slice Ao54 y373.length co54] rfl MPz ?_; (with_reducible refine (impl_DnRight.calls k1 _ _ y373 true _ ?side1 ?side2 A49.out).mono ?_); (case side1 => repeat (first | exact (Kd.R_reads' HO375.out).2.2 | (with_reducible refine Kd.C_alloc ?_ _) | (with_reducible refine Kd.C_drewN ?_ _) | (with_reducible refine Kd.C_drew ?_))); (case side2 => exact (Kd.R_reads' HO375.out).2.1); rintro e w55 ⟨rfl, hb⟩; refine ⟨_, rfl, ?_⟩; have n0_ := Aside0.mk (Kd.R_below (KRz HO375) hb); have n1_ := BBz BK372 hb; have n2_ := Aside0.mk (below_step (HBb GE372) hb); clear HO375; clear BK372; clear HB; have HO375 := n0_; have BK372 := n1_; have HB := n2_; clear n0_ n1_ n2_; (try clear hb); (try clear hb2); (try clear hk); (try clear hi)) | (go_at_call 159; (with_reducible refine (impl_dnText.calls k1 _ _ y373 t377 _ ?side1 ?side2 A51.out).mono ?_); (case side1 => repeat (first | exact (Kd.R_reads' HO375.out).2.2 | (with_reducible refine Kd.C_alloc ?_ _) | (with_reducible refine Kd.C_drewN ?_ _) | (with_reducible refine Kd.C_drew ?_))); (case side2 => exact (Kd.R_reads' HO375.out).2.1); rintro e w56 ⟨rfl, hb⟩; have n0_ := Aside0.mk (Kd.R_below (KRz HO375) hb); have n1_ := BBz BK372 hb; have n2_ := Aside0.mk (below_step (HBb GE372) hb); clear HO375; clear BK372; clear HB; have HO375 := n0_; have BK372 := n1_; have HB := n2_; clear n0_ n1_ n2_; (try clear hb); (try clear hb2); (try clear hk); (try clear hi)))
     go_ret2
     exact ⟨_, EZa, by (with_reducible repeat (first | apply Kd.R_alloc | apply Kd.R_drewN | apply Kd.R_drew)); exact Kd.R_mono HO375.out (fun _ hk => trivial), HBb GE372⟩
    replace c50 := Bool.eq_false_iff.mpr c50
    subst c50
    have H1 : (some (y373, false)) = some (r1, r2) := by rw [if_neg (show ¬ (false = true) by decide)] at H; exact H
    clear H
    have H := H1
    clear H1
    simp only [Option.some.injEq, Prod.mk.injEq] at H
    obtain ⟨rfl, rfl⟩ := H
    have hcz57_0 := C1z BK372
    have hcz57_1 := C2z BK372
    have hfz57_0 := blk_frozen BK372.out 0
    have hfz57_1 := blk_frozen BK372.out 1
    go_wp2_with (first | ((with_reducible refine gate_builtin (b := .append) (xs := #[.tmp 69, .tmp 71]) rfl ?_); (try (refine gate_guard (by rfl) ?_; dsimp only)); at_builtin; refine Kd.R_append k126 (w0 := w) w.heap.size rfl (.tmp 69) (.tmp 71) 78 126 (.agg #[(.string ⟨#[]⟩), (.string ⟨#[]⟩)]) 32 rfl Tryd.underlying78 info126 rfl (by decide) (by omega) u4 x4_1 (⟨x373000_1, x373001_1⟩ : S126) [.string x373000_1, .string x373001_1] (fun k_ => k_ ≠ gb372) (fun _ => False) rfl rfl ?aP (fun _ hk => hk.elim) ?aF ?aO ?aB ?aS ?aL ?_; (case aP => exact k126_mkM _ _ _ (⟨x373000_1, x373001_1⟩ : S126)); (case aB => exact (HBb GE372)); (case aF => exact (fun k_ hk => Kd.freshB (g := gb372) (o := .cells #[.string x373000_1, .string x373001_1] 126 (0, 0)) (BKz BK372) k_ hk)); (case aO => exact (KRz HO_4)); (case aS => exact (below_size (HBb GE372))); (case aL => have := LMc48.out; omega); intro v374 w58 ho hb hg hat; rw [← Ny373.out] at ho; have n0_ := Aside0.mk (blk_grown (g := gb372) (o := .cells #[.string x373000_1, .string x373001_1] 126 (0, 0)) (BKz BK372) hg (Kd.R_away HO_4.out (fun _ hk => hk))); have n1_ := Aside0.mk (hb); have n2_ := Aside0.mk (ho); clear BK372; clear HB; clear HO_4; have BK372 := n0_; have HB := n1_; have HO375 := n2_; clear n0_ n1_ n2_; clear ho hb hg hat; obtain ⟨Ao59, co59, eo59⟩ := Kd.R_slice HO375.out; subst eo59) | ((with_reducible refine gate_callee (f := 158) rfl ?_); refine goesL_ (some 75) rfl rfl Tryd.func158 (by kernel_rfl) rfl #[.slice Ao59 y373.length co59] rfl MPz ?_; (with_reducible refine (impl_DnRight.calls k1 _ _ y373 false _ ?side1 ?side2 A49.out).mono ?_); (case side1 => repeat (first | exact (Kd.R_reads' HO375.out).2.2 | (with_reducible refine Kd.C_alloc ?_ _) | (with_reducible refine Kd.C_drewN ?_ _) | (with_reducible refine Kd.C_drew ?_))); (case side2 => exact (Kd.R_reads' HO375.out).2.1); rintro e w60 ⟨rfl, hb⟩; refine ⟨_, rfl, ?_⟩; have n0_ := Aside0.mk (Kd.R_below (KRz HO375) hb); have n1_ := BBz BK372 hb; have n2_ := Aside0.mk (below_step (HBb GE372) hb); clear HO375; clear BK372; clear HB; have HO375 := n0_; have BK372 := n1_; have HB := n2_; clear n0_ n1_ n2_; (try clear hb); (try clear hb2); (try clear hk); (try clear hi)))
    go_ret2
    exact ⟨_, EZa, by (with_reducible repeat (first | apply Kd.R_alloc | apply Kd.R_drewN | apply Kd.R_drew)); exact Kd.R_mono HO375.out (fun _ hk => trivial), HBb GE372⟩
   rw [if_pos c9] at H
   have c9b0 : decide (x7_1 < (a0.size : Int)) = true := decide_eq_true c9
   clear c9
   by_cases c10 : 0 ≤ x7_1
   rotate_left
   ·rw [if_neg c10] at H
    exact absurd H (by simp)
   rw [if_pos c10] at H
   have c10b0 : decide (0 ≤ x7_1) = true := decide_eq_true c10
   clear c10
   have HC12 := Aside0.mk H
   clear H
   have p11 : 0 ≤ (x7_1 : Int) := ODz
   have q11 : x7_1 < (a0.size : Int) := ODz
   have hx11 := bt_at a0 x7_1
   replace p11 := eq_true p11
   replace q11 := eq_true q11
   go_upto_region 9 with (fail)
   go_cut [23] (fun v23 wc => ∃ (kq : Nat) (x23_11 : Bool), v23 = .bool x23_11 ∧ Aside0 (impl_readDn.j1 kq a0 x4_1 x6_1 x7_1 (bt a0 x7_1) x23_11 x373000_1 x373001_1 = some (r1, r2)) ∧ Aside0 (kq ≤ k1) ∧ Aside0 (Kd.R k126 126 wc w.heap.size (fun k_ => k_ ≠ gb372) u4 x4_1) ∧ Aside0 (wc.heap[gb372]? = some (.cells #[.string x373000_1, .string x373001_1] 126 (0, 0))) ∧ Aside0 (Below w.heap.size w wc))
   case first =>
    have H := HC12.out
    clear HC12
    by_cases c13 : x6_1 = true
    ·subst c13
     have H1 : (impl_readDn.j1 k1 a0 x4_1 true x7_1 (bt a0 x7_1) false x373000_1 x373001_1) = some (r1, r2) := by rw [if_pos rfl] at H; exact H
     clear H
     have H := H1
     clear H1
     have H' := Aside0.mk H
     clear H
     go_wp2
     go_meet
     case rel => exact ⟨_, (false), EZc, H', ⟨by have := HK1.out; first | omega | exact Nat.le_refl _⟩, ⟨by (with_reducible repeat (first | apply Kd.R_alloc | apply Kd.R_drewN | apply Kd.R_drew)); exact HO_4.out⟩, ⟨by (with_reducible repeat (first | refine blk_drewN ?_ _ | refine blk_drew ?_ | refine blk_alloc ?_ _)); exact BK372.out⟩, ⟨by repeat (first | (with_reducible first | exact HB.out | apply below_alloc | apply pw_below_drewN | apply below_drew1 | refine below_set ?_ GE372.out) | exact HB.out)⟩⟩
    replace c13 := Bool.eq_false_iff.mpr c13
    subst c13
    have H1 : (impl_readDn.j1 k1 a0 x4_1 false x7_1 (bt a0 x7_1) ((bt a0 x7_1) == 61) x373000_1 x373001_1) = some (r1, r2) := by rw [if_neg (show ¬ (false = true) by decide)] at H; exact H
    clear H
    have H := H1
    clear H1
    have H' := Aside0.mk H
    clear H
    go_wp2
    go_meet
    case rel => exact ⟨_, (((bt a0 x7_1) == 61)), EZc, H', ⟨by have := HK1.out; first | omega | exact Nat.le_refl _⟩, ⟨by (with_reducible repeat (first | apply Kd.R_alloc | apply Kd.R_drewN | apply Kd.R_drew)); exact HO_4.out⟩, ⟨by (with_reducible repeat (first | refine blk_drewN ?_ _ | refine blk_drew ?_ | refine blk_alloc ?_ _)); exact BK372.out⟩, ⟨by repeat (first | (with_reducible first | exact HB.out | apply below_alloc | apply pw_below_drewN | apply below_drew1 | refine below_set ?_ GE372.out) | exact HB.out)⟩⟩
   case rest =>
    clear HC12
    try clear c1
    try clear p1
    try clear q1
    try clear hx1
    try clear c2
    try clear c2b0
    try clear c2b1
    try clear p2
    try clear c9
    try clear c9b0
    try clear c10
    try clear c10b0
    try clear p11
    try clear q11
    try clear hx11
    try clear c12
    try clear c13
    try clear hcz8_0
    try clear hcz8_1
    try clear hfz8_0
    try clear hfz8_1
    try clear p11
    try clear p2
    try clear q11
    obtain ⟨kq, x23_11, rfl, HA, HJ11, HO_4, BK372, HB⟩ := hcut
    cases kq with
    | zero => exact absurd HA.out (by simp [impl_readDn.j1])
    | succ kj11 =>
     have H := HA.out
     clear HA
     simp only [impl_readDn.j1] at H
     by_cases c14 : x23_11 = true
     ·subst c14
      have H1 : (impl_readDn.l0 kj11 a0 x4_1 true (wrap64 (x7_1 + 1)) x373000_1 x373001_1) = some (r1, r2) := by rw [if_pos rfl] at H; exact H
      clear H
      have H := H1
      clear H1
      have H' := Aside0.mk H
      clear H
      go_wp2
      go_roundg kj11
      case measure => have := HK1.out; have := HJ11.out; omega
      case rel => exact ⟨(x4_1), (true), (wrap64 (x7_1 + 1)), (x373000_1), (x373001_1), EZc, EZc, H', ⟨by have := HK1.out; have := HJ11.out; omega⟩, ⟨by (with_reducible repeat (first | apply Kd.R_alloc | apply Kd.R_drewN | apply Kd.R_drew)); exact HO_4.out⟩, ⟨by (with_reducible repeat (first | refine blk_drewN ?_ _ | refine blk_drew ?_ | refine blk_alloc ?_ _)); exact BK372.out⟩, ⟨by repeat (first | (with_reducible first | exact HB.out | apply below_alloc | apply pw_below_drewN | apply below_drew1 | refine below_set ?_ GE372.out) | exact HB.out)⟩⟩
     replace c14 := Bool.eq_false_iff.mpr c14
     subst c14
     have H1 : (if x6_1 = true then (if (bt a0 x7_1) = 44 then (if x4_1.length < 4398046511104 then (impl_readDn.l0 kj11 a0 (x4_1 ++ [(⟨x373000_1, x373001_1⟩ : S126)]) false (wrap64 (x7_1 + 1)) (⟨#[]⟩ : ByteArray) (⟨#[]⟩ : ByteArray)) else (none)) else (if (bt a0 x7_1) = 92 then (if (wrap64 (x7_1 + 1)) < (a0.size : Int) then (if 0 ≤ (wrap64 (x7_1 + 1)) then (if (wrap64 (x7_1 + 1)) ≤ (wrap64 ((wrap64 (x7_1 + 1)) + 1)) then (if (wrap64 ((wrap64 (x7_1 + 1)) + 1)) ≤ (a0.size : Int) then (if x373001_1.size + (a0.extract ((wrap64 (x7_1 + 1)) : Int).toNat ((wrap64 ((wrap64 (x7_1 + 1)) + 1)) : Int).toNat).size ≤ 9223372036854775807 then (impl_readDn.l0 kj11 a0 x4_1 x6_1 (wrap64 ((wrap64 (x7_1 + 1)) + 1)) x373000_1 (x373001_1 ++ (a0.extract ((wrap64 (x7_1 + 1)) : Int).toNat ((wrap64 ((wrap64 (x7_1 + 1)) + 1)) : Int).toNat))) else (none)) else (none)) else (none)) else (none)) else (if 0 ≤ x7_1 then (if x7_1 ≤ (wrap64 (x7_1 + 1)) then (if (wrap64 (x7_1 + 1)) ≤ (a0.size : Int) then (if x373001_1.size + (a0.extract (x7_1 : Int).toNat ((wrap64 (x7_1 + 1)) : Int).toNat).size ≤ 9223372036854775807 then (impl_readDn.l0 kj11 a0 x4_1 x6_1 (wrap64 (x7_1 + 1)) x373000_1 (x373001_1 ++ (a0.extract (x7_1 : Int).toNat ((wrap64 (x7_1 + 1)) : Int).toNat))) else (none)) else (none)) else (none)) else (none))) else (if 0 ≤ x7_1 then (if x7_1 ≤ (wrap64 (x7_1 + 1)) then (if (wrap64 (x7_1 + 1)) ≤ (a0.size : Int) then (if x373001_1.size + (a0.extract (x7_1 : Int).toNat ((wrap64 (x7_1 + 1)) : Int).toNat).size ≤ 9223372036854775807 then (impl_readDn.l0 kj11 a0 x4_1 x6_1 (wrap64 (x7_1 + 1)) x373000_1 (x373001_1 ++ (a0.extract (x7_1 : Int).toNat ((wrap64 (x7_1 + 1)) : Int).toNat))) else (none)) else (none)) else (none)) else (none)))) else ((some (([(bt a0 x7_1)] : List Int) : List Int)).bind fun y381 => (if x373000_1.size + (strOfNums y381).size ≤ 9223372036854775807 then (impl_readDn.l0 kj11 a0 x4_1 x6_1 (wrap64 (x7_1 + 1)) (x373000_1 ++ (strOfNums y381)) x373001_1) else (none)))) = some (r1, r2) := by rw [if_neg (show ¬ (false = true) by decide)] at H; exact H
     clear H
     have H := H1
     clear H1
     by_cases c15 : x6_1 = true
     rotate_left
     ·replace c15 := Bool.eq_false_iff.mpr c15
      subst c15
      have H1 : ((some (([(bt a0 x7_1)] : List Int) : List Int)).bind fun y381 => (if x373000_1.size + (strOfNums y381).size ≤ 9223372036854775807 then (impl_readDn.l0 kj11 a0 x4_1 false (wrap64 (x7_1 + 1)) (x373000_1 ++ (strOfNums y381)) x373001_1) else (none))) = some (r1, r2) := by rw [if_neg (show ¬ (false = true) by decide)] at H; exact H
      clear H
      have H := H1
      clear H1
      obtain ⟨y381, hy381⟩ : ∃ y_ : List Int, y_ = (([(bt a0 x7_1)] : List Int)) := ⟨_, rfl⟩
      replace H : (if x373000_1.size + (strOfNums y381).size ≤ 9223372036854775807 then (impl_readDn.l0 kj11 a0 x4_1 false (wrap64 (x7_1 + 1)) (x373000_1 ++ (strOfNums y381)) x373001_1) else (none)) = some (r1, r2) := by first | (rw [hy381]; with_reducible exact H) | (have H2_ := (Option.bind_some _ _).symm.trans H; rw [hy381]; with_reducible exact H2_) | (have H2_ := (Option.bind_some _ _).symm.trans H; with_reducible exact H2_) | with_reducible exact H | (rw [hy381]; exact H) | exact H
      have Ny381 := Aside0.mk hy381
      clear hy381
      by_cases c42 : x373000_1.size + (strOfNums y381).size ≤ 9223372036854775807
      ·rw [if_pos c42] at H
       have c42b0 := eq_true c42
       have c42b1 : decide (x373000_1.size + (strOfNums y381).size ≤ 9223372036854775807) = true := decide_eq_true c42
       try have c42b2 : (9223372036854775807 < x373000_1.size + (strOfNums y381).size) = False := eq_false (Nat.not_lt.2 c42)
       have H' := Aside0.mk H
       clear H
       have hcz43_0 := C1z BK372
       have hcz43_1 := C2z BK372
       have hfz43_0 := blk_frozen BK372.out 0
       have hfz43_1 := blk_frozen BK372.out 1
       go_wp2_with (first | ((with_reducible refine gate_dst (N := 36) rfl ?_); (try (refine gate_guard (by rfl) ?_; dsimp only)); refine Kd.R_lit (Kd.int .u8) _ 5 ?hg (N := 36) ?hd (xs := ([(bt a0 x7_1)] : List Int)) (inner := [.int .u8 (bt a0 x7_1)]) (ok := fun _ => True) (okp := fun _ => True) ?hr ?hp (fun _ hk => hk) trivial (Below.refl _ _) (Nat.le_refl _) (by simp) ?_; (case hd => rfl); (case hg => rfl); (case hr => first | (go_simp; done) | (go_simp; rfl)); (case hp => exact (Reps.one (show Kd.M (Kd.int .u8) _ _ _ (bt a0 x7_1) [.int .u8 (bt a0 x7_1)] from rfl) (Reps.none _ _))); intro v382 w44 ho45 hb hg_ hnew_; clear hg_ hnew_; (first | rw [← Ny381.out] at ho45 | (simp only [Int.reduceToNat] at ho45; rw [← Ny381.out] at ho45)); have n0_ := Aside0.mk (Kd.R_below (KRz HO_4) hb); have n1_ := Aside0.mk (Kd.R_lower ho45 (below_size (HBb GE372))); have n2_ := BBz BK372 hb; have n3_ := Aside0.mk (below_step (HBb GE372) hb); clear HO_4; clear BK372; clear HB; have HO_4 := n0_; have HO383 := n1_; have BK372 := n2_; have HB := n3_; clear n0_ n1_ n2_ n3_; clear hb ho45; have hcv46 := own_string (P := Tryd.prog) Tryd.underlying135 Tryd.underlying5 Tryd.underlying9 (Kd.own_of_R HO383.out); have hcz47_0 := C1z BK372; have hcz47_1 := C2z BK372; have hfz47_0 := blk_frozen BK372.out 0; have hfz47_1 := blk_frozen BK372.out 1))
       go_roundg kj11
       case measure => have := HK1.out; have := HJ11.out; omega
       case rel => exact ⟨(x4_1), (false), (wrap64 (x7_1 + 1)), (x373000_1 ++ (strOfNums y381)), (x373001_1), EZc, EZc, H', ⟨by have := HK1.out; have := HJ11.out; omega⟩, ⟨by (with_reducible repeat (first | apply Kd.R_alloc | apply Kd.R_drewN | apply Kd.R_drew)); exact Kd.R_mono (Kd.R_far (p := ⟨gb372, 0, none⟩) (Kd.R_mono HO_4.out (fun k_ hk => (⟨hk, hk⟩ : _ ∧ k_ ≠ gb372))) (fun _ hk => hk.2) (.string (x373000_1 ++ (strOfNums y381)))) (fun _ hk => hk.1)⟩, ⟨by (with_reducible repeat (first | refine blk_drewN ?_ _ | refine blk_drew ?_ | refine blk_alloc ?_ _)); refine blk_put (cs := #[.string x373000_1, .string x373001_1]) ?_ 0 _ rfl; (with_reducible repeat (first | refine blk_drewN ?_ _ | refine blk_drew ?_ | refine blk_alloc ?_ _)); exact BK372.out⟩, ⟨by repeat (first | (with_reducible first | exact HB.out | apply below_alloc | apply pw_below_drewN | apply below_drew1 | refine below_set ?_ GE372.out) | exact HB.out)⟩⟩
      rw [if_neg c42] at H
      exact absurd H (by simp)
     subst c15
     have H1 : (if (bt a0 x7_1) = 44 then (if x4_1.length < 4398046511104 then (impl_readDn.l0 kj11 a0 (x4_1 ++ [(⟨x373000_1, x373001_1⟩ : S126)]) false (wrap64 (x7_1 + 1)) (⟨#[]⟩ : ByteArray) (⟨#[]⟩ : ByteArray)) else (none)) else (if (bt a0 x7_1) = 92 then (if (wrap64 (x7_1 + 1)) < (a0.size : Int) then (if 0 ≤ (wrap64 (x7_1 + 1)) then (if (wrap64 (x7_1 + 1)) ≤ (wrap64 ((wrap64 (x7_1 + 1)) + 1)) then (if (wrap64 ((wrap64 (x7_1 + 1)) + 1)) ≤ (a0.size : Int) then (if x373001_1.size + (a0.extract ((wrap64 (x7_1 + 1)) : Int).toNat ((wrap64 ((wrap64 (x7_1 + 1)) + 1)) : Int).toNat).size ≤ 9223372036854775807 then (impl_readDn.l0 kj11 a0 x4_1 true (wrap64 ((wrap64 (x7_1 + 1)) + 1)) x373000_1 (x373001_1 ++ (a0.extract ((wrap64 (x7_1 + 1)) : Int).toNat ((wrap64 ((wrap64 (x7_1 + 1)) + 1)) : Int).toNat))) else (none)) else (none)) else (none)) else (none)) else (if 0 ≤ x7_1 then (if x7_1 ≤ (wrap64 (x7_1 + 1)) then (if (wrap64 (x7_1 + 1)) ≤ (a0.size : Int) then (if x373001_1.size + (a0.extract (x7_1 : Int).toNat ((wrap64 (x7_1 + 1)) : Int).toNat).size ≤ 9223372036854775807 then (impl_readDn.l0 kj11 a0 x4_1 true (wrap64 (x7_1 + 1)) x373000_1 (x373001_1 ++ (a0.extract (x7_1 : Int).toNat ((wrap64 (x7_1 + 1)) : Int).toNat))) else (none)) else (none)) else (none)) else (none))) else (if 0 ≤ x7_1 then (if x7_1 ≤ (wrap64 (x7_1 + 1)) then (if (wrap64 (x7_1 + 1)) ≤ (a0.size : Int) then (if x373001_1.size + (a0.extract (x7_1 : Int).toNat ((wrap64 (x7_1 + 1)) : Int).toNat).size ≤ 9223372036854775807 then (impl_readDn.l0 kj11 a0 x4_1 true (wrap64 (x7_1 + 1)) x373000_1 (x373001_1 ++ (a0.extract (x7_1 : Int).toNat ((wrap64 (x7_1 + 1)) : Int).toNat))) else (none)) else (none)) else (none)) else (none)))) = some (r1, r2) := by rw [if_pos rfl] at H; exact H
     clear H
     have H := H1
     clear H1
     by_cases c16 : (bt a0 x7_1) = 44
     ·rw [if_pos c16] at H
      have c16b0 : ((bt a0 x7_1) == 44) = true := beq_iff_eq.mpr c16
      have c16b1 : ((bt a0 x7_1) != 44) = false := bne_eq_false_iff_eq.mpr c16
      clear c16
      by_cases c17 : x4_1.length < 4398046511104
      ·rw [if_pos c17] at H
       have LMc17 := Aside0.mk c17
       clear c17
       obtain ⟨y378, hy378⟩ : ∃ y_ : List (S126), y_ = (x4_1 ++ [(⟨x373000_1, x373001_1⟩ : S126)]) := ⟨_, rfl⟩
       replace H : (impl_readDn.l0 kj11 a0 y378 false (wrap64 (x7_1 + 1)) (⟨#[]⟩ : ByteArray) (⟨#[]⟩ : ByteArray)) = some (r1, r2) := by first | (rw [hy378]; with_reducible exact H) | (have H2_ := (Option.bind_some _ _).symm.trans H; rw [hy378]; with_reducible exact H2_) | (have H2_ := (Option.bind_some _ _).symm.trans H; with_reducible exact H2_) | with_reducible exact H | (rw [hy378]; exact H) | exact H
       have Ny378 := Aside0.mk hy378
       clear hy378
       have H' := Aside0.mk H
       clear H
       have hcz18_0 := C1z BK372
       have hcz18_1 := C2z BK372
       have hfz18_0 := blk_frozen BK372.out 0
       have hfz18_1 := blk_frozen BK372.out 1
       go_wp2_with (first | ((with_reducible refine gate_builtin (b := .append) (xs := #[.tmp 43, .tmp 45]) rfl ?_); (try (refine gate_guard (by rfl) ?_; dsimp only)); at_builtin; refine Kd.R_append k126 (w0 := w) w.heap.size rfl (.tmp 43) (.tmp 45) 78 126 (.agg #[(.string ⟨#[]⟩), (.string ⟨#[]⟩)]) 32 rfl Tryd.underlying78 info126 rfl (by decide) (by omega) u4 x4_1 (⟨x373000_1, x373001_1⟩ : S126) [.string x373000_1, .string x373001_1] (fun k_ => k_ ≠ gb372) (fun _ => False) rfl rfl ?aP (fun _ hk => hk.elim) ?aF ?aO ?aB ?aS ?aL ?_; (case aP => exact k126_mkM _ _ _ (⟨x373000_1, x373001_1⟩ : S126)); (case aB => exact (HBb GE372)); (case aF => exact (fun k_ hk => Kd.freshB (g := gb372) (o := .cells #[.string x373000_1, .string x373001_1] 126 (0, 0)) (BKz BK372) k_ hk)); (case aO => exact (KRz HO_4)); (case aS => exact (below_size (HBb GE372))); (case aL => have := LMc17.out; omega); intro v379 w19 ho hb hg hat; rw [← Ny378.out] at ho; have n0_ := Aside0.mk (blk_grown (g := gb372) (o := .cells #[.string x373000_1, .string x373001_1] 126 (0, 0)) (BKz BK372) hg (Kd.R_away HO_4.out (fun _ hk => hk))); have n1_ := Aside0.mk (hb); have n2_ := Aside0.mk (ho); clear BK372; clear HB; clear HO_4; have BK372 := n0_; have HB := n1_; have HO380 := n2_; clear n0_ n1_ n2_; clear ho hb hg hat; have hcz20_0 := C1z BK372; have hcz20_1 := C2z BK372; have hfz20_0 := blk_frozen BK372.out 0; have hfz20_1 := blk_frozen BK372.out 1))
       go_roundg kj11
       case measure => have := HK1.out; have := HJ11.out; omega
       case rel => exact ⟨(y378), (false), (wrap64 (x7_1 + 1)), ((⟨#[]⟩ : ByteArray)), ((⟨#[]⟩ : ByteArray)), EZc, EZc, H', ⟨by have := HK1.out; have := HJ11.out; omega⟩, ⟨by (with_reducible repeat (first | apply Kd.R_alloc | apply Kd.R_drewN | apply Kd.R_drew)); exact Kd.R_mono (Kd.R_far (p := ⟨gb372, 1, none⟩) (Kd.R_far (p := ⟨gb372, 0, none⟩) (Kd.R_mono HO380.out (fun k_ hk => (⟨hk, hk⟩ : _ ∧ k_ ≠ gb372))) (fun _ hk => hk.2) (.string (⟨#[]⟩ : ByteArray))) (fun _ hk => hk.2) (.string (⟨#[]⟩ : ByteArray))) (fun _ hk => hk.1)⟩, ⟨by (with_reducible repeat (first | refine blk_drewN ?_ _ | refine blk_drew ?_ | refine blk_alloc ?_ _)); refine blk_put (cs := #[.string (⟨#[]⟩ : ByteArray), .string x373001_1]) ?_ 1 _ rfl; (with_reducible repeat (first | refine blk_drewN ?_ _ | refine blk_drew ?_ | refine blk_alloc ?_ _)); refine blk_put (cs := #[.string x373000_1, .string x373001_1]) ?_ 0 _ rfl; (with_reducible repeat (first | refine blk_drewN ?_ _ | refine blk_drew ?_ | refine blk_alloc ?_ _)); exact BK372.out⟩, ⟨by repeat (first | (with_reducible first | exact HB.out | apply below_alloc | apply pw_below_drewN | apply below_drew1 | refine below_set ?_ GE372.out) | exact HB.out)⟩⟩
      rw [if_neg c17] at H
      exact absurd H (by simp)
     rw [if_neg c16] at H
     have c16b0 : ((bt a0 x7_1) == 44) = false := beq_eq_false_iff_ne.mpr c16
     have c16b1 : ((bt a0 x7_1) != 44) = true := bne_iff_ne.mpr c16
     by_cases c21 : (bt a0 x7_1) = 92
     rotate_left
     ·rw [if_neg c21] at H
      have c21b0 : ((bt a0 x7_1) == 92) = false := beq_eq_false_iff_ne.mpr c21
      have c21b1 : ((bt a0 x7_1) != 92) = true := bne_iff_ne.mpr c21
      by_cases c36 : 0 ≤ x7_1
      rotate_left
      ·rw [if_neg c36] at H
       exact absurd H (by simp)
      rw [if_pos c36] at H
      have c36b0 := eq_true c36
      have c36b1 : decide (0 ≤ x7_1) = true := decide_eq_true c36
      clear c36
      by_cases c37 : x7_1 ≤ (wrap64 (x7_1 + 1))
      rotate_left
      ·rw [if_neg c37] at H
       exact absurd H (by simp)
      rw [if_pos c37] at H
      have c37b0 := eq_true c37
      have c37b1 : decide (x7_1 ≤ (wrap64 (x7_1 + 1))) = true := decide_eq_true c37
      by_cases c38 : (wrap64 (x7_1 + 1)) ≤ (a0.size : Int)
      rotate_left
      ·rw [if_neg c38] at H
       exact absurd H (by simp)
      rw [if_pos c38] at H
      have c38b0 := eq_true c38
      have c38b1 : decide ((wrap64 (x7_1 + 1)) ≤ (a0.size : Int)) = true := decide_eq_true c38
      by_cases c39 : x373001_1.size + (a0.extract (x7_1 : Int).toNat ((wrap64 (x7_1 + 1)) : Int).toNat).size ≤ 9223372036854775807
      rotate_left
      ·rw [if_neg c39] at H
       exact absurd H (by simp)
      rw [if_pos c39] at H
      (try (have c37b0wc39 := c37b0; (try rw [show wrap64 (x7_1 + 1) = x7_1 + 1 from by unfold wrap64; omega] at c37b0wc39)))
      (try (have c37b1wc39 := c37b1; (try rw [show wrap64 (x7_1 + 1) = x7_1 + 1 from by unfold wrap64; omega] at c37b1wc39)))
      (try (have c37wc39 := c37; (try rw [show wrap64 (x7_1 + 1) = x7_1 + 1 from by unfold wrap64; omega] at c37wc39)))
      (try (have c38b0wc39 := c38b0; (try rw [show wrap64 (x7_1 + 1) = x7_1 + 1 from by unfold wrap64; omega] at c38b0wc39)))
      (try (have c38b1wc39 := c38b1; (try rw [show wrap64 (x7_1 + 1) = x7_1 + 1 from by unfold wrap64; omega] at c38b1wc39)))
      (try (have c38wc39 := c38; (try rw [show wrap64 (x7_1 + 1) = x7_1 + 1 from by unfold wrap64; omega] at c38wc39)))
      (try (have c39m := c39; simp only [ByteArray.size_extract, ByteArray.size_append, Nat.min_self] at c39m; replace c39m := eq_true c39m))
      have c39b0 := eq_true c39
      have c39b1 : decide (x373001_1.size + (a0.extract (x7_1 : Int).toNat ((wrap64 (x7_1 + 1)) : Int).toNat).size ≤ 9223372036854775807) = true := decide_eq_true c39
      try have c39b2 : (9223372036854775807 < x373001_1.size + (a0.extract (x7_1 : Int).toNat ((wrap64 (x7_1 + 1)) : Int).toNat).size) = False := eq_false (Nat.not_lt.2 c39)
      (try have c39z : (9223372036854775807 < x373001_1.size + (((wrap64 (x7_1 + 1)) : Int).toNat - (x7_1 : Int).toNat)) = False := eq_false (by have hz_ := c39; rw [ByteArray.size_extract, Nat.min_eq_left (by omega)] at hz_; omega))
      have H' := Aside0.mk H
      clear H
      try go_wp2
      have n0_ := Aside0.mk (Kd.R_drew HO_4.out)
      have n1_ := Aside0.mk (blk_drew BK372.out)
      have n2_ := Aside0.mk (below_drew1 HB.out)
      clear HO_4
      clear BK372
      clear HB
      have HO_4 := n0_
      have BK372 := n1_
      have HB := n2_
      clear n0_ n1_ n2_
      refine start_ (n := 10) (S := fun w' => w'.cell? ⟨gb372, 0, none⟩ = some (.string x373000_1) ∧ w'.cell? ⟨gb372, 1, none⟩ = some (.string x373001_1)) (ds := [9]) (bz 10 0) (by kernel_rfl) rfl (by kernel_rfl) ⟨(blk_cell BK372.out 0).trans rfl, (blk_cell BK372.out 1).trans rfl⟩ (fun hHeld => ?_); refine with_tabW impl_readDn.tab18 impl_readDn.bits18 (fun HT_ HW_ => ?_)
      generalize wc.drew = w40 at HO_4 BK372 HB hHeld ⊢
      refine PYz 0 60 (bz 10 1) rfl rfl (any_of HT_.out (by kernel_rfl)) ?_
      refine PYz 2 62 (bz 10 5) rfl rfl (any_of HT_.out (by kernel_rfl)) ?_
      refine PYz 3 63 (bz 10 13) rfl rfl (any_of HT_.out (by kernel_rfl)) ?_
      refine PYz 4 64 (bz 10 29) rfl rfl (any_of HT_.out (by kernel_rfl)) ?_
      refine PYz 5 65 (bz 10 61) rfl rfl (any_of HT_.out (by kernel_rfl)) ?_
      refine PYz 6 66 (bz 10 125) rfl rfl (any_of HT_.out (by kernel_rfl)) ?_
      refine take_ (i := 1) (N := some 61) (v := ?_) (a' := ?_) (bz 10 127) rfl rfl (take_ofW HT_.out HW_.out (by kernel_rfl)) (fun _ _ _ h => h) (Or.inl ⟨by rfl, ?_⟩) hHeld ?_ ?_
      rotate_left
      ·rintro w' ⟨s0, s1⟩
       go_simp
       with_reducible rfl
      rotate_left
      ·simp only [PUz]
       rfl
      refine PYz 7 67 (bz 10 255) rfl rfl (any_of HT_.out (by kernel_rfl)) ?_
      refine PYz 8 68 (bz 10 511) rfl rfl (any_of HT_.out (by kernel_rfl)) ?_
      refine last_ (i := 9) (N := none) (bz 10 1023) rfl rfl (one_of HT_.out (by kernel_rfl)) (by decide) (fun K hK => ?_)
      have hs41 : w40.cell? ⟨gb372, 1, none⟩ = some (.string x373001_1) := (blk_cell BK372.out 1).trans rfl
      have hfs41 := blk_frozen BK372.out 1
      refine skip_ (w1 := ?_) (by rfl) rfl ?_ ?_
      rotate_left
      ·go_simp
       rfl
      refine hK.out _ _ ?_
      clear hK K
      refine done_ (done_of HT_.out (by kernel_rfl)) ?_
      try go_wp2
      go_roundg kj11
      case measure => have := HK1.out; have := HJ11.out; omega
      case rel => exact ⟨(x4_1), (true), (wrap64 (x7_1 + 1)), (x373000_1), (x373001_1 ++ (a0.extract (x7_1 : Int).toNat ((wrap64 (x7_1 + 1)) : Int).toNat)), EZc, EZc, H', ⟨by have := HK1.out; have := HJ11.out; omega⟩, ⟨by (with_reducible repeat (first | apply Kd.R_alloc | apply Kd.R_drewN | apply Kd.R_drew)); exact Kd.R_mono (Kd.R_far (p := ⟨gb372, 1, none⟩) (Kd.R_mono HO_4.out (fun k_ hk => (⟨hk, hk⟩ : _ ∧ k_ ≠ gb372))) (fun _ hk => hk.2) (.string (x373001_1 ++ (a0.extract (x7_1 : Int).toNat ((wrap64 (x7_1 + 1)) : Int).toNat)))) (fun _ hk => hk.1)⟩, ⟨by (with_reducible repeat (first | refine blk_drewN ?_ _ | refine blk_drew ?_ | refine blk_alloc ?_ _)); refine blk_put (cs := #[.string x373000_1, .string x373001_1]) ?_ 1 _ rfl; (with_reducible repeat (first | refine blk_drewN ?_ _ | refine blk_drew ?_ | refine blk_alloc ?_ _)); exact BK372.out⟩, ⟨by repeat (first | (with_reducible first | exact HB.out | apply below_alloc | apply pw_below_drewN | apply below_drew1 | refine below_set ?_ GE372.out) | exact HB.out)⟩⟩
     rw [if_pos c21] at H
     have c21b0 : ((bt a0 x7_1) == 92) = true := beq_iff_eq.mpr c21
     have c21b1 : ((bt a0 x7_1) != 92) = false := bne_eq_false_iff_eq.mpr c21
     clear c21
     by_cases c22 : (wrap64 (x7_1 + 1)) < (a0.size : Int)
     rotate_left
     ·rw [if_neg c22] at H
      have c22b0 : decide ((wrap64 (x7_1 + 1)) < (a0.size : Int)) = false := decide_eq_false c22
      (try (have c22v0 := c22b0; (try rw [show wrap64 (x7_1 + 1) = x7_1 + 1 from by unfold wrap64; omega] at c22v0)))
      clear c22
      by_cases c30 : 0 ≤ x7_1
      rotate_left
      ·rw [if_neg c30] at H
       exact absurd H (by simp)
      rw [if_pos c30] at H
      have c30b0 := eq_true c30
      have c30b1 : decide (0 ≤ x7_1) = true := decide_eq_true c30
      clear c30
      by_cases c31 : x7_1 ≤ (wrap64 (x7_1 + 1))
      rotate_left
      ·rw [if_neg c31] at H
       exact absurd H (by simp)
      rw [if_pos c31] at H
      have c31b0 := eq_true c31
      have c31b1 : decide (x7_1 ≤ (wrap64 (x7_1 + 1))) = true := decide_eq_true c31
      by_cases c32 : (wrap64 (x7_1 + 1)) ≤ (a0.size : Int)
      rotate_left
      ·rw [if_neg c32] at H
       exact absurd H (by simp)
      rw [if_pos c32] at H
      have c32b0 := eq_true c32
      have c32b1 : decide ((wrap64 (x7_1 + 1)) ≤ (a0.size : Int)) = true := decide_eq_true c32
      by_cases c33 : x373001_1.size + (a0.extract (x7_1 : Int).toNat ((wrap64 (x7_1 + 1)) : Int).toNat).size ≤ 9223372036854775807
      rotate_left
      ·rw [if_neg c33] at H
       exact absurd H (by simp)
      rw [if_pos c33] at H
      (try (have c22b0wc33 := c22b0; (try rw [show wrap64 (x7_1 + 1) = x7_1 + 1 from by unfold wrap64; omega] at c22b0wc33)))
      (try (have c31b0wc33 := c31b0; (try rw [show wrap64 (x7_1 + 1) = x7_1 + 1 from by unfold wrap64; omega] at c31b0wc33)))
      (try (have c31b1wc33 := c31b1; (try rw [show wrap64 (x7_1 + 1) = x7_1 + 1 from by unfold wrap64; omega] at c31b1wc33)))
      (try (have c31wc33 := c31; (try rw [show wrap64 (x7_1 + 1) = x7_1 + 1 from by unfold wrap64; omega] at c31wc33)))
      (try (have c32b0wc33 := c32b0; (try rw [show wrap64 (x7_1 + 1) = x7_1 + 1 from by unfold wrap64; omega] at c32b0wc33)))
      (try (have c32b1wc33 := c32b1; (try rw [show wrap64 (x7_1 + 1) = x7_1 + 1 from by unfold wrap64; omega] at c32b1wc33)))
      (try (have c32wc33 := c32; (try rw [show wrap64 (x7_1 + 1) = x7_1 + 1 from by unfold wrap64; omega] at c32wc33)))
      (try (have c33m := c33; simp only [ByteArray.size_extract, ByteArray.size_append, Nat.min_self] at c33m; replace c33m := eq_true c33m))
      have c33b0 := eq_true c33
      have c33b1 : decide (x373001_1.size + (a0.extract (x7_1 : Int).toNat ((wrap64 (x7_1 + 1)) : Int).toNat).size ≤ 9223372036854775807) = true := decide_eq_true c33
      try have c33b2 : (9223372036854775807 < x373001_1.size + (a0.extract (x7_1 : Int).toNat ((wrap64 (x7_1 + 1)) : Int).toNat).size) = False := eq_false (Nat.not_lt.2 c33)
      (try have c33z : (9223372036854775807 < x373001_1.size + (((wrap64 (x7_1 + 1)) : Int).toNat - (x7_1 : Int).toNat)) = False := eq_false (by have hz_ := c33; rw [ByteArray.size_extract, Nat.min_eq_left (by omega)] at hz_; omega))
      have H' := Aside0.mk H
      clear H
      try go_wp2
      have n0_ := Aside0.mk (Kd.R_drew HO_4.out)
      have n1_ := Aside0.mk (blk_drew BK372.out)
      have n2_ := Aside0.mk (below_drew1 HB.out)
      clear HO_4
      clear BK372
      clear HB
      have HO_4 := n0_
      have BK372 := n1_
      have HB := n2_
      clear n0_ n1_ n2_
      refine start_ (n := 10) (S := fun w' => w'.cell? ⟨gb372, 0, none⟩ = some (.string x373000_1) ∧ w'.cell? ⟨gb372, 1, none⟩ = some (.string x373001_1)) (ds := [9]) (bz 10 0) (by kernel_rfl) rfl (by kernel_rfl) ⟨(blk_cell BK372.out 0).trans rfl, (blk_cell BK372.out 1).trans rfl⟩ (fun hHeld => ?_); refine with_tabW impl_readDn.tab18 impl_readDn.bits18 (fun HT_ HW_ => ?_)
      generalize wc.drew = w34 at HO_4 BK372 HB hHeld ⊢
      refine PYz 0 60 (bz 10 1) rfl rfl (any_of HT_.out (by kernel_rfl)) ?_
      refine PYz 2 62 (bz 10 5) rfl rfl (any_of HT_.out (by kernel_rfl)) ?_
      refine PYz 3 63 (bz 10 13) rfl rfl (any_of HT_.out (by kernel_rfl)) ?_
      refine PYz 4 64 (bz 10 29) rfl rfl (any_of HT_.out (by kernel_rfl)) ?_
      refine PYz 5 65 (bz 10 61) rfl rfl (any_of HT_.out (by kernel_rfl)) ?_
      refine PYz 6 66 (bz 10 125) rfl rfl (any_of HT_.out (by kernel_rfl)) ?_
      refine take_ (i := 1) (N := some 61) (v := ?_) (a' := ?_) (bz 10 127) rfl rfl (take_ofW HT_.out HW_.out (by kernel_rfl)) (fun _ _ _ h => h) (Or.inl ⟨by rfl, ?_⟩) hHeld ?_ ?_
      rotate_left
      ·rintro w' ⟨s0, s1⟩
       go_simp
       with_reducible rfl
      rotate_left
      ·simp only [PUz]
       rfl
      refine PYz 7 67 (bz 10 255) rfl rfl (any_of HT_.out (by kernel_rfl)) ?_
      refine PYz 8 68 (bz 10 511) rfl rfl (any_of HT_.out (by kernel_rfl)) ?_
      refine last_ (i := 9) (N := none) (bz 10 1023) rfl rfl (one_of HT_.out (by kernel_rfl)) (by decide) (fun K hK => ?_)
      have hs35 : w34.cell? ⟨gb372, 1, none⟩ = some (.string x373001_1) := (blk_cell BK372.out 1).trans rfl
      have hfs35 := blk_frozen BK372.out 1
      refine skip_ (w1 := ?_) (by rfl) rfl ?_ ?_
      rotate_left
      ·go_simp
       rfl
      refine hK.out _ _ ?_
      clear hK K
      refine done_ (done_of HT_.out (by kernel_rfl)) ?_
      try go_wp2
      go_roundg kj11
      case measure => have := HK1.out; have := HJ11.out; omega
      case rel => exact ⟨(x4_1), (true), (wrap64 (x7_1 + 1)), (x373000_1), (x373001_1 ++ (a0.extract (x7_1 : Int).toNat ((wrap64 (x7_1 + 1)) : Int).toNat)), EZc, EZc, H', ⟨by have := HK1.out; have := HJ11.out; omega⟩, ⟨by (with_reducible repeat (first | apply Kd.R_alloc | apply Kd.R_drewN | apply Kd.R_drew)); exact Kd.R_mono (Kd.R_far (p := ⟨gb372, 1, none⟩) (Kd.R_mono HO_4.out (fun k_ hk => (⟨hk, hk⟩ : _ ∧ k_ ≠ gb372))) (fun _ hk => hk.2) (.string (x373001_1 ++ (a0.extract (x7_1 : Int).toNat ((wrap64 (x7_1 + 1)) : Int).toNat)))) (fun _ hk => hk.1)⟩, ⟨by (with_reducible repeat (first | refine blk_drewN ?_ _ | refine blk_drew ?_ | refine blk_alloc ?_ _)); refine blk_put (cs := #[.string x373000_1, .string x373001_1]) ?_ 1 _ rfl; (with_reducible repeat (first | refine blk_drewN ?_ _ | refine blk_drew ?_ | refine blk_alloc ?_ _)); exact BK372.out⟩, ⟨by repeat (first | (with_reducible first | exact HB.out | apply below_alloc | apply pw_below_drewN | apply below_drew1 | refine below_set ?_ GE372.out) | exact HB.out)⟩⟩
     rw [if_pos c22] at H
     have c22b0 : decide ((wrap64 (x7_1 + 1)) < (a0.size : Int)) = true := decide_eq_true c22
     (try (have c22v0 := c22b0; (try rw [show wrap64 (x7_1 + 1) = x7_1 + 1 from by unfold wrap64; omega] at c22v0)))
     clear c22
     obtain ⟨ji23, hji23⟩ : ∃ j_ : Int, (wrap64 (x7_1 + 1)) = j_ := ⟨_, rfl⟩
     replace H : (if 0 ≤ (ji23) then (if (ji23) ≤ (wrap64 ((ji23) + 1)) then (if (wrap64 ((ji23) + 1)) ≤ (a0.size : Int) then (if x373001_1.size + (a0.extract ((ji23) : Int).toNat ((wrap64 ((ji23) + 1)) : Int).toNat).size ≤ 9223372036854775807 then (impl_readDn.l0 kj11 a0 x4_1 true (wrap64 ((ji23) + 1)) x373000_1 (x373001_1 ++ (a0.extract ((ji23) : Int).toNat ((wrap64 ((ji23) + 1)) : Int).toNat))) else (none)) else (none)) else (none)) else (none)) = some (r1, r2) := by first | (rw [hji23] at H; exact H) | (simp only [hji23] at H ⊢; exact H)
     (try rw [hji23] at c22b0)
     have hji23w : (IntKind.i64.wrap (x7_1 + 1)) = ji23 := (i64_w _).trans hji23
     by_cases c24 : 0 ≤ (ji23)
     rotate_left
     ·rw [if_neg c24] at H
      exact absurd H (by simp)
     rw [if_pos c24] at H
     have c24b0 := eq_true c24
     have c24b1 : decide (0 ≤ (ji23)) = true := decide_eq_true c24
     clear c24
     by_cases c25 : (ji23) ≤ (wrap64 ((ji23) + 1))
     rotate_left
     ·rw [if_neg c25] at H
      exact absurd H (by simp)
     rw [if_pos c25] at H
     have c25b0 := eq_true c25
     have c25b1 : decide ((ji23) ≤ (wrap64 ((ji23) + 1))) = true := decide_eq_true c25
     by_cases c26 : (wrap64 ((ji23) + 1)) ≤ (a0.size : Int)
     rotate_left
     ·rw [if_neg c26] at H
      exact absurd H (by simp)
     rw [if_pos c26] at H
     have c26b0 := eq_true c26
     have c26b1 : decide ((wrap64 ((ji23) + 1)) ≤ (a0.size : Int)) = true := decide_eq_true c26
     by_cases c27 : x373001_1.size + (a0.extract ((ji23) : Int).toNat ((wrap64 ((ji23) + 1)) : Int).toNat).size ≤ 9223372036854775807
     rotate_left
     ·rw [if_neg c27] at H
      exact absurd H (by simp)
     rw [if_pos c27] at H
     (try (have c22b0wc27 := c22b0; (try rw [show wrap64 (x7_1 + 1) = x7_1 + 1 from by unfold wrap64; omega] at c22b0wc27)))
     (try (have c25b0wc27 := c25b0; (try rw [show wrap64 ((ji23) + 1) = (ji23) + 1 from by unfold wrap64; omega] at c25b0wc27)))
     (try (have c25b1wc27 := c25b1; (try rw [show wrap64 ((ji23) + 1) = (ji23) + 1 from by unfold wrap64; omega] at c25b1wc27)))
     (try (have c25wc27 := c25; (try rw [show wrap64 ((ji23) + 1) = (ji23) + 1 from by unfold wrap64; omega] at c25wc27)))
     (try (have c26b0wc27 := c26b0; (try rw [show wrap64 ((ji23) + 1) = (ji23) + 1 from by unfold wrap64; omega] at c26b0wc27)))
     (try (have c26b1wc27 := c26b1; (try rw [show wrap64 ((ji23) + 1) = (ji23) + 1 from by unfold wrap64; omega] at c26b1wc27)))
     (try (have c26wc27 := c26; (try rw [show wrap64 ((ji23) + 1) = (ji23) + 1 from by unfold wrap64; omega] at c26wc27)))
     (try (have c27m := c27; simp only [ByteArray.size_extract, ByteArray.size_append, Nat.min_self] at c27m; replace c27m := eq_true c27m))
     have c27b0 := eq_true c27
     have c27b1 : decide (x373001_1.size + (a0.extract ((ji23) : Int).toNat ((wrap64 ((ji23) + 1)) : Int).toNat).size ≤ 9223372036854775807) = true := decide_eq_true c27
     try have c27b2 : (9223372036854775807 < x373001_1.size + (a0.extract ((ji23) : Int).toNat ((wrap64 ((ji23) + 1)) : Int).toNat).size) = False := eq_false (Nat.not_lt.2 c27)
     (try have c27z : (9223372036854775807 < x373001_1.size + (((wrap64 ((ji23) + 1)) : Int).toNat - ((ji23) : Int).toNat)) = False := eq_false (by have hz_ := c27; rw [ByteArray.size_extract, Nat.min_eq_left (by omega)] at hz_; omega))
     have H' := Aside0.mk H
     clear H
     try go_wp2
     have n0_ := Aside0.mk (Kd.R_drew HO_4.out)
     have n1_ := Aside0.mk (blk_drew BK372.out)
     have n2_ := Aside0.mk (below_drew1 HB.out)
     clear HO_4
     clear BK372
     clear HB
     have HO_4 := n0_
     have BK372 := n1_
     have HB := n2_
     clear n0_ n1_ n2_
     refine start_ (n := 10) (S := fun w' => w'.cell? ⟨gb372, 0, none⟩ = some (.string x373000_1) ∧ w'.cell? ⟨gb372, 1, none⟩ = some (.string x373001_1)) (ds := [9]) (bz 10 0) (by kernel_rfl) rfl (by kernel_rfl) ⟨(blk_cell BK372.out 0).trans rfl, (blk_cell BK372.out 1).trans rfl⟩ (fun hHeld => ?_); refine with_tabW impl_readDn.tab18 impl_readDn.bits18 (fun HT_ HW_ => ?_)
     generalize wc.drew = w28 at HO_4 BK372 HB hHeld ⊢
     refine PYz 0 60 (bz 10 1) rfl rfl (any_of HT_.out (by kernel_rfl)) ?_
     refine PYz 2 62 (bz 10 5) rfl rfl (any_of HT_.out (by kernel_rfl)) ?_
     refine PYz 3 63 (bz 10 13) rfl rfl (any_of HT_.out (by kernel_rfl)) ?_
     refine PYz 4 64 (bz 10 29) rfl rfl (any_of HT_.out (by kernel_rfl)) ?_
     refine PYz 5 65 (bz 10 61) rfl rfl (any_of HT_.out (by kernel_rfl)) ?_
     refine PYz 6 66 (bz 10 125) rfl rfl (any_of HT_.out (by kernel_rfl)) ?_
     refine take_ (i := 1) (N := some 61) (v := ?_) (a' := ?_) (bz 10 127) rfl rfl (take_ofW HT_.out HW_.out (by kernel_rfl)) (fun _ _ _ h => h) (Or.inl ⟨by rfl, ?_⟩) hHeld ?_ ?_
     rotate_left
     ·rintro w' ⟨s0, s1⟩
      go_simp
      with_reducible rfl
     rotate_left
     ·simp only [PUz]
      rfl
     refine PYz 7 67 (bz 10 255) rfl rfl (any_of HT_.out (by kernel_rfl)) ?_
     refine PYz 8 68 (bz 10 511) rfl rfl (any_of HT_.out (by kernel_rfl)) ?_
     refine last_ (i := 9) (N := none) (bz 10 1023) rfl rfl (one_of HT_.out (by kernel_rfl)) (by decide) (fun K hK => ?_)
     have hs29 : w28.cell? ⟨gb372, 1, none⟩ = some (.string x373001_1) := (blk_cell BK372.out 1).trans rfl
     have hfs29 := blk_frozen BK372.out 1
     refine skip_ (w1 := ?_) (by rfl) rfl ?_ ?_
     rotate_left
     ·go_simp
      rfl
     refine hK.out _ _ ?_
     clear hK K
     refine done_ (done_of HT_.out (by kernel_rfl)) ?_
     try go_wp2
     go_roundg kj11
     case measure => have := HK1.out; have := HJ11.out; omega
     case rel => exact ⟨(x4_1), (true), (wrap64 ((ji23) + 1)), (x373000_1), (x373001_1 ++ (a0.extract ((ji23) : Int).toNat ((wrap64 ((ji23) + 1)) : Int).toNat)), EZc, (by first | rfl | (simp; done) | (simp only [← hji23] <;> (first | rfl | simp)) | (simp [*]; done)), H', ⟨by have := HK1.out; have := HJ11.out; omega⟩, ⟨by (with_reducible repeat (first | apply Kd.R_alloc | apply Kd.R_drewN | apply Kd.R_drew)); exact Kd.R_mono (Kd.R_far (p := ⟨gb372, 1, none⟩) (Kd.R_mono HO_4.out (fun k_ hk => (⟨hk, hk⟩ : _ ∧ k_ ≠ gb372))) (fun _ hk => hk.2) (.string (x373001_1 ++ (a0.extract ((ji23) : Int).toNat ((wrap64 ((ji23) + 1)) : Int).toNat)))) (fun _ hk => hk.1)⟩, ⟨by (with_reducible repeat (first | refine blk_drewN ?_ _ | refine blk_drew ?_ | refine blk_alloc ?_ _)); refine blk_put (cs := #[.string x373000_1, .string x373001_1]) ?_ 1 _ (by first | rfl | (simp only [← hji23]; first | rfl | (simp; done))); (with_reducible repeat (first | refine blk_drewN ?_ _ | refine blk_drew ?_ | refine blk_alloc ?_ _)); exact BK372.out⟩, ⟨by repeat (first | (with_reducible first | exact HB.out | apply below_alloc | apply pw_below_drewN | apply below_drew1 | refine below_set ?_ GE372.out) | exact HB.out)⟩⟩
def impl_isDnText.f (k : Nat) (a0 : ByteArray) : Option (Bool) := (impl_readDn.f k a0).bind fun bt384 => (if (a0.size : Int) ≤ 8000 then (if bt384.2 = true then (some (decide ((bt384.1.length : Int) > 0))) else (some false)) else (some false))
theorem impl_isDnText.mono : ∀ a0 k, LeO (impl_isDnText.f k a0) (impl_isDnText.f (k + 1) a0) := by
 intro a0 k
 unfold impl_isDnText.f
 repeat' first
   | (with_reducible exact impl_readDn.mono _ _)
   | (with_reducible exact LeO.refl _)
   | (with_reducible exact LeO.none _)
   | (with_reducible refine LeO.ite ?_ ?_)
   | (with_reducible refine LeO.bind ?_ (fun _ => ?_))
   | exact impl_readDn.mono _ _
   | exact LeO.none _
   | refine LeO.ite ?_ ?_
   | refine LeO.bind ?_ (fun _ => ?_)
set_option maxHeartbeats 8000000 in
set_option maxRecDepth 100000 in
theorem impl_isDnText.calls (k : Nat) (a0 : ByteArray) (r : Bool) (w : World) (h : impl_isDnText.f k a0 = some r) :
  Calls Tryd.prog 98 #[.string a0] w fun e w' => e = .returned (.bool r) ∧ Below w.heap.size w w' := by
 have HB := Aside0.mk (Below.refl w.heap.size w)
 have H : ((impl_readDn.f k a0).bind fun bt384 => (if (a0.size : Int) ≤ 8000 then (if bt384.2 = true then (some (decide ((bt384.1.length : Int) > 0))) else (some false)) else (some false))) = some r := h
 clear h
 replace H := Option.bind_eq_some_iff.mp H
 obtain ⟨⟨t384, t385⟩, A20, H⟩ := H
 replace H : (if (a0.size : Int) ≤ 8000 then (if t385 = true then (some (decide ((t384.length : Int) > 0))) else (some false)) else (some false)) = some r := H
 have A2 := Aside0.mk A20
 clear A20
 by_cases c3 : (a0.size : Int) ≤ 8000
 rotate_left
 ·rw [if_neg c3] at H
  have c3b0 : decide ((a0.size : Int) ≤ 8000) = false := decide_eq_false c3
  have c3b1 : decide (a0.size ≤ 8000) = false := decide_eq_false (by omega)
  clear c3
  obtain rfl := Option.some.inj H
  go_enter Tryd.func98, Tryd.ntmps98
  go_wp2_with (first | ((with_reducible refine gate_callee (f := 129) rfl ?_); refine goesL_ (some 7) rfl rfl Tryd.func129 (by kernel_rfl) rfl #[.string a0] rfl MPz ?_; (with_reducible refine (impl_readDn.calls k a0 t384 t385 _ A2.out).mono ?_); rintro e w8 ⟨v386, rfl, ho0, hb⟩; refine ⟨_, rfl, ?_⟩; have n0_ := Aside0.mk (Kd.R_lower ho0 (below_size HBa)); have n1_ := Aside0.mk (below_step HBa hb); clear HB; have HO387 := n0_; have HB := n1_; clear n0_ n1_; (try clear hb); (try clear hb2); (try clear hk); (try clear hi); (try clear ho0)))
  go_ret
  exact ⟨EZa, HBa⟩
 rw [if_pos c3] at H
 have c3b0 : decide ((a0.size : Int) ≤ 8000) = true := decide_eq_true c3
 have c3b1 : decide (a0.size ≤ 8000) = true := decide_eq_true (by omega)
 clear c3
 by_cases c4 : t385 = true
 ·subst c4
  have H1 : (some (decide ((t384.length : Int) > 0))) = some r := by rw [if_pos rfl] at H; exact H
  clear H
  have H := H1
  clear H1
  obtain rfl := Option.some.inj H
  go_enter Tryd.func98, Tryd.ntmps98
  go_wp2_with (first | ((with_reducible refine gate_callee (f := 129) rfl ?_); refine goesL_ (some 7) rfl rfl Tryd.func129 (by kernel_rfl) rfl #[.string a0] rfl MPz ?_; (with_reducible refine (impl_readDn.calls k a0 t384 true _ A2.out).mono ?_); rintro e w5 ⟨v386, rfl, ho0, hb⟩; refine ⟨_, rfl, ?_⟩; have n0_ := Aside0.mk (Kd.R_lower ho0 (below_size HBa)); have n1_ := Aside0.mk (below_step HBa hb); clear HB; have HO387 := n0_; have HB := n1_; clear n0_ n1_; (try clear hb); (try clear hb2); (try clear hk); (try clear hi); (try clear ho0); obtain ⟨Ao6, co6, eo6⟩ := Kd.R_slice HO387.out; subst eo6))
  go_ret
  exact ⟨EZa, HBa⟩
 replace c4 := Bool.eq_false_iff.mpr c4
 subst c4
 have H1 : (some false) = some r := by rw [if_neg (show ¬ (false = true) by decide)] at H; exact H
 clear H
 have H := H1
 clear H1
 obtain rfl := Option.some.inj H
 go_enter Tryd.func98, Tryd.ntmps98
 go_wp2_with (first | ((with_reducible refine gate_callee (f := 129) rfl ?_); refine goesL_ (some 7) rfl rfl Tryd.func129 (by kernel_rfl) rfl #[.string a0] rfl MPz ?_; (with_reducible refine (impl_readDn.calls k a0 t384 false _ A2.out).mono ?_); rintro e w7 ⟨v386, rfl, ho0, hb⟩; refine ⟨_, rfl, ?_⟩; have n0_ := Aside0.mk (Kd.R_lower ho0 (below_size HBa)); have n1_ := Aside0.mk (below_step HBa hb); clear HB; have HO387 := n0_; have HB := n1_; clear n0_ n1_; (try clear hb); (try clear hb2); (try clear hk); (try clear hi); (try clear ho0)))
 go_ret
 exact ⟨EZa, HBa⟩
def impl_isZeroEntry.f (l0_0 : List (S126)) (l0_1 : List (S111)) : Option (Bool) := if (l0_0.length : Int) = 0 then (some ((l0_1.length : Int) == 0)) else (some false)
set_option maxHeartbeats 8000000 in
set_option maxRecDepth 100000 in
theorem impl_isZeroEntry.calls (A0_0 : Option Addr) (c0_0 : Nat) (l0_0 : List (S126)) (A0_1 : Option Addr) (c0_1 : Nat) (l0_1 : List (S111)) (r : Bool) (w : World) (hr0_0 : Kd.C k126 w A0_0 l0_0.length l0_0) (hc0_0 : l0_0.length ≤ c0_0) (hr0_1 : Kd.C k111 w A0_1 l0_1.length l0_1) (hc0_1 : l0_1.length ≤ c0_1) (h : impl_isZeroEntry.f l0_0 l0_1 = some r) :
  Calls Tryd.prog 130 #[.agg #[.slice A0_0 l0_0.length c0_0, .slice A0_1 l0_1.length c0_1]] w fun e w' => e = .returned (.bool r) ∧ Below w.heap.size w w' := by
 have hu81 := Tryd.underlying81
 have HR0_0 := Aside0.mk hr0_0
 have HC0_0 := Aside0.mk hc0_0
 clear hr0_0 hc0_0
 have HR0_1 := Aside0.mk hr0_1
 have HC0_1 := Aside0.mk hc0_1
 clear hr0_1 hc0_1
 have HB := Aside0.mk (Below.refl w.heap.size w)
 have H : (if (l0_0.length : Int) = 0 then (some ((l0_1.length : Int) == 0)) else (some false)) = some r := h
 clear h
 by_cases c2 : (l0_0.length : Int) = 0
 ·rw [if_pos c2] at H
  have c2b0 : ((l0_0.length : Int) == 0) = true := beq_iff_eq.mpr c2
  have c2b1 : ((l0_0.length : Int) != 0) = false := bne_eq_false_iff_eq.mpr c2
  clear c2
  obtain rfl := Option.some.inj H
  go_enter Tryd.func130, Tryd.ntmps130
  go_wp2_with (first | ((with_reducible refine gate_dst (N := 1) rfl ?_); (try (refine gate_guard (by rfl) ?_; dsimp only)); refine box_event ?hg (N := 1) ?hd (cs := #[.slice A0_0 l0_0.length c0_0, .slice A0_1 l0_1.length c0_1]) (t := 81) ?hr ?_; (case hd => rfl); (case hg => rfl); (case hr => first | (go_simp; done) | (go_simp; rfl)); intro gb388 hg w3 hbox hb; have n0_ := Aside0.mk (below_step HBa hb); have n1_ := Aside0.mk (hbox); have n2_ := BSz w hg HBa; have n3_ := BSz w hg HBa; clear HB; have HB := n0_; have BK388 := n1_; have GW388 := n2_; have GE388 := n3_; clear n0_ n1_ n2_ n3_; clear hb hbox hg; have hcz4_0 := C1z BK388; have hcz4_1 := C2z BK388; have hfz4_0 := blk_frozen BK388.out 0; have hfz4_1 := blk_frozen BK388.out 1))
  go_ret
  exact ⟨EZa, HBb GE388⟩
 rw [if_neg c2] at H
 have c2b0 : ((l0_0.length : Int) == 0) = false := beq_eq_false_iff_ne.mpr c2
 have c2b1 : ((l0_0.length : Int) != 0) = true := bne_iff_ne.mpr c2
 have c2b2 : ¬ (l0_0 = []) := fun h_ => c2 (by rw [h_]; rfl)
 obtain rfl := Option.some.inj H
 go_enter Tryd.func130, Tryd.ntmps130
 go_wp2_with (first | ((with_reducible refine gate_dst (N := 1) rfl ?_); (try (refine gate_guard (by rfl) ?_; dsimp only)); refine box_event ?hg (N := 1) ?hd (cs := #[.slice A0_0 l0_0.length c0_0, .slice A0_1 l0_1.length c0_1]) (t := 81) ?hr ?_; (case hd => rfl); (case hg => rfl); (case hr => first | (go_simp; done) | (go_simp; rfl)); intro gb388 hg w5 hbox hb; have n0_ := Aside0.mk (below_step HBa hb); have n1_ := Aside0.mk (hbox); have n2_ := BSz w hg HBa; have n3_ := BSz w hg HBa; clear HB; have HB := n0_; have BK388 := n1_; have GW388 := n2_; have GE388 := n3_; clear n0_ n1_ n2_ n3_; clear hb hbox hg; have hcz6_0 := C1z BK388; have hcz6_1 := C2z BK388; have hfz6_0 := blk_frozen BK388.out 0; have hfz6_1 := blk_frozen BK388.out 1))
 go_ret
 exact ⟨EZa, HBb GE388⟩
def strings_Compare.f (a0 : ByteArray) (a1 : ByteArray) : Option (Int) := some (Lib.compareBytes a0.data.toList a1.data.toList)
theorem strings_Compare.calls (a0 : ByteArray) (a1 : ByteArray) (r : Int) (w : World) (h : strings_Compare.f a0 a1 = some r) :
  Calls Tryd.prog 109 #[.string a0, .string a1] w fun e w' => e = .returned (.int .i64 r) ∧ Drawn0 w w' := by
 obtain rfl := Option.some.inj h
 refine (show Calls Tryd.prog 109 _ _ _ from Any.strings_Compare Tryd.lays106 a0 a1 w).mono ?_
 rintro e w' ⟨he, rfl⟩
 exact ⟨he, Drawn0.refl _⟩
end Go.Proofs.YtgkjlfimjnhbbaaDoor.PFnExactChangesRight
