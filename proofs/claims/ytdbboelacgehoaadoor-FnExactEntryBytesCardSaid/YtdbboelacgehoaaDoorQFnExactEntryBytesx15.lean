-- Laid by this session's own program out of the translation; Lean checks it.
import Derived.Test.YtdbboelacgehoaaDoorQFnExactEntryBytesx0
import Derived.Test.YtdbboelacgehoaaDoorQFnExactEntryBytesx12
import Derived.Test.YtdbboelacgehoaaDoorQFnExactEntryBytesx13
import Derived.Test.YtdbboelacgehoaaDoorQFnExactEntryBytesx14
namespace Go.Proofs.YtdbboelacgehoaaDoor.PFnExactEntryBytes
open Go.RowKit Go.Proofs.YtdbboelacgehoaaDoorW.PrintWords Go.Proofs.YtdbboelacgehoaaDoorW.PrintLast Go.Proofs.YtdbboelacgehoaaDoorW.PrintMore
attribute [local go_sem] max2_int min2_int max_two min_two max_three min_three max_four min_four   -- for this text's walks alone
set_option linter.unusedVariables false
set_option linter.unusedSimpArgs false
mutual
def impl_Entry_bytes.l0 : Nat → ByteArray → List (S114) → Int → Int → Option (ByteArray)
 | 0, _, _, _, _ => none
 | k + 1, x3, x18, x19, x20 => if x20 < x19 then (if 0 ≤ x20 then (if x20 < (x18.length : Int) then ((impl_PutText.f k ((rd_T114 x18 x20).f0)).bind fun t349 => ((impl_size_string.f ((rd_T114 x18 x20).f1)).bind fun t350 => ((impl_PutNum.f k t350).bind fun t351 => (if t349.size + t351.size ≤ 9223372036854775807 then (if x3.size + (t349 ++ t351).size ≤ 9223372036854775807 then (impl_Entry_bytes.l1 k (x3 ++ (t349 ++ t351)) x18 x19 x20 ((rd_T114 x18 x20).f1) (((rd_T114 x18 x20).f1).length : Int) 0) else (none)) else (none))))) else (none)) else (none)) else (some x3)
def impl_Entry_bytes.l1 : Nat → ByteArray → List (S114) → Int → Int → List ByteArray → Int → Int → Option (ByteArray)
 | 0, _, _, _, _, _, _, _ => none
 | k + 1, x3, x18, x19, x20, x35, x36, x37 => if x37 < x36 then (if 0 ≤ x37 then (if x37 < (x35.length : Int) then ((impl_PutText.f k (rdOf ByteArray.empty x35 x37)).bind fun t353 => (if x3.size + t353.size ≤ 9223372036854775807 then (impl_Entry_bytes.l1 k (x3 ++ t353) x18 x19 x20 x35 x36 (wrap64 (x37 + 1))) else (none))) else (none)) else (none)) else (impl_Entry_bytes.l0 k x3 x18 x19 (wrap64 (x20 + 1)))
end
def impl_Entry_bytes.f (k : Nat) (l0_0 : List (S42)) (l0_1 : List (S114)) : Option (ByteArray) := (impl_dnText.f k l0_0).bind fun t343 => ((impl_PutText.f k t343).bind fun t344 => ((impl_Attr.f l0_1).bind fun t345 => ((impl_PutNum.f k t345).bind fun t346 => (if t344.size + t346.size ≤ 9223372036854775807 then (impl_Entry_bytes.l0 k (t344 ++ t346) l0_1 (l0_1.length : Int) 0) else (none)))))
theorem impl_Entry_bytes.mono_l : ∀ k, (∀ y0 y1 y2 y3, LeO (impl_Entry_bytes.l0 k y0 y1 y2 y3) (impl_Entry_bytes.l0 (k + 1) y0 y1 y2 y3)) ∧ (∀ y0 y1 y2 y3 y4 y5 y6, LeO (impl_Entry_bytes.l1 k y0 y1 y2 y3 y4 y5 y6) (impl_Entry_bytes.l1 (k + 1) y0 y1 y2 y3 y4 y5 y6))
 | 0 => ⟨fun _ _ _ _ r h => by simp [impl_Entry_bytes.l0] at h, fun _ _ _ _ _ _ _ r h => by simp [impl_Entry_bytes.l1] at h⟩
 | k + 1 => by
  obtain ⟨ih0, ih1⟩ := impl_Entry_bytes.mono_l k
  refine ⟨?_, ?_⟩
  ·intro y0 y1 y2 y3
   unfold impl_Entry_bytes.l0
   repeat' first
   | (with_reducible exact ih0 _ _ _ _)
   | (with_reducible exact ih1 _ _ _ _ _ _ _)
   | (with_reducible exact impl_PutNum.mono _ _)
   | (with_reducible exact impl_PutText.mono _ _)
   | (with_reducible exact impl_dnText.mono _ _)
   | (with_reducible exact LeO.refl _)
   | (with_reducible exact LeO.none _)
   | (with_reducible refine LeO.ite ?_ ?_)
   | (with_reducible refine LeO.bind ?_ (fun _ => ?_))
   | exact ih0 _ _ _ _
   | exact ih1 _ _ _ _ _ _ _
   | exact impl_PutNum.mono _ _
   | exact impl_PutText.mono _ _
   | exact impl_dnText.mono _ _
   | exact LeO.none _
   | refine LeO.ite ?_ ?_
   | refine LeO.bind ?_ (fun _ => ?_)
  ·intro y0 y1 y2 y3 y4 y5 y6
   unfold impl_Entry_bytes.l1
   repeat' first
   | (with_reducible exact ih0 _ _ _ _)
   | (with_reducible exact ih1 _ _ _ _ _ _ _)
   | (with_reducible exact impl_PutNum.mono _ _)
   | (with_reducible exact impl_PutText.mono _ _)
   | (with_reducible exact impl_dnText.mono _ _)
   | (with_reducible exact LeO.refl _)
   | (with_reducible exact LeO.none _)
   | (with_reducible refine LeO.ite ?_ ?_)
   | (with_reducible refine LeO.bind ?_ (fun _ => ?_))
   | exact ih0 _ _ _ _
   | exact ih1 _ _ _ _ _ _ _
   | exact impl_PutNum.mono _ _
   | exact impl_PutText.mono _ _
   | exact impl_dnText.mono _ _
   | exact LeO.none _
   | refine LeO.ite ?_ ?_
   | refine LeO.bind ?_ (fun _ => ?_)
theorem impl_Entry_bytes.mono : ∀ a0 a1 k, LeO (impl_Entry_bytes.f k a0 a1) (impl_Entry_bytes.f (k + 1) a0 a1) := by
 intro a0 a1 k
 obtain ⟨ih0, ih1⟩ := impl_Entry_bytes.mono_l k
 unfold impl_Entry_bytes.f
 repeat' first
   | (with_reducible exact ih0 _ _ _ _)
   | (with_reducible exact ih1 _ _ _ _ _ _ _)
   | (with_reducible exact impl_PutNum.mono _ _)
   | (with_reducible exact impl_PutText.mono _ _)
   | (with_reducible exact impl_dnText.mono _ _)
   | (with_reducible exact LeO.refl _)
   | (with_reducible exact LeO.none _)
   | (with_reducible refine LeO.ite ?_ ?_)
   | (with_reducible refine LeO.bind ?_ (fun _ => ?_))
   | exact ih0 _ _ _ _
   | exact ih1 _ _ _ _ _ _ _
   | exact impl_PutNum.mono _ _
   | exact impl_PutText.mono _ _
   | exact impl_dnText.mono _ _
   | exact LeO.none _
   | refine LeO.ite ?_ ?_
   | refine LeO.bind ?_ (fun _ => ?_)
def impl_Entry_bytes.T1 : Bool × List (List Nat × List Nat) := (true, [([], []), ([0], [0]), ([1], [1]), ([2, 2], [2]), ([], []), ([4], [4]), ([5, 3], [5]), ([6, 6], [6]), ([3, 7], [3, 7]), ([8, 7, 0, 1, 2, 3, 4, 5, 6, 7, 8], [8])])
def impl_Entry_bytes.B1 : List Nat := [0, 1, 3, 7, 0, 16, 63, 127, 255, 511]
theorem impl_Entry_bytes.tab1 : rtab .any (opsOf Tryd.f119 1) = impl_Entry_bytes.T1 := by kernel_rfl
theorem impl_Entry_bytes.bits1 : waitsOk impl_Entry_bytes.T1.2 impl_Entry_bytes.B1 = true := by kernel_rfl
def impl_Entry_bytes.T5 : Bool × List (List Nat × List Nat) := (true, [([], []), ([], []), ([1], [1]), ([2], [2]), ([], []), ([4], [4]), ([5, 3], [5]), ([6, 6], [6]), ([3, 7], [3, 7]), ([0, 8], [0, 8]), ([9, 7, 0, 1, 2, 3, 4, 5, 6, 7, 8, 9], [0, 9])])
def impl_Entry_bytes.B5 : List Nat := [0, 0, 2, 6, 0, 16, 62, 126, 254, 511, 1023]
theorem impl_Entry_bytes.tab5 : rtab .any (opsOf Tryd.f119 5) = impl_Entry_bytes.T5 := by kernel_rfl
theorem impl_Entry_bytes.bits5 : waitsOk impl_Entry_bytes.T5.2 impl_Entry_bytes.B5 = true := by kernel_rfl
set_option maxHeartbeats 8000000 in
set_option maxRecDepth 100000 in
theorem impl_Entry_bytes.calls (k : Nat) (A0_0 : Option Addr) (c0_0 : Nat) (l0_0 : List (S42)) (A0_1 : Option Addr) (c0_1 : Nat) (l0_1 : List (S114)) (r : ByteArray) (w : World) (hr0_0 : Kd.C k42 w A0_0 l0_0.length l0_0) (hc0_0 : l0_0.length ≤ c0_0) (hr0_1 : Kd.C k114 w A0_1 l0_1.length l0_1) (hc0_1 : l0_1.length ≤ c0_1) (h : impl_Entry_bytes.f k l0_0 l0_1 = some r) :
  Calls Tryd.prog 119 #[.agg #[.slice A0_0 l0_0.length c0_0, .slice A0_1 l0_1.length c0_1]] w fun e w' => e = .returned (.string r) ∧ Below w.heap.size w w' := by
 have hu71 := Tryd.underlying71
 have hu114 := Tryd.underlying114
 have HR0_0 := Aside0.mk hr0_0
 have HC0_0 := Aside0.mk hc0_0
 clear hr0_0 hc0_0
 have HR0_1 := Aside0.mk hr0_1
 have HC0_1 := Aside0.mk hc0_1
 clear hr0_1 hc0_1
 have HB := Aside0.mk (Below.refl w.heap.size w)
 have H : ((impl_dnText.f k l0_0).bind fun t343 => ((impl_PutText.f k t343).bind fun t344 => ((impl_Attr.f l0_1).bind fun t345 => ((impl_PutNum.f k t345).bind fun t346 => (if t344.size + t346.size ≤ 9223372036854775807 then (impl_Entry_bytes.l0 k (t344 ++ t346) l0_1 (l0_1.length : Int) 0) else (none)))))) = some r := h
 clear h
 replace H := Option.bind_eq_some_iff.mp H
 obtain ⟨t343, A20, H⟩ := H
 replace H : ((impl_PutText.f k t343).bind fun t344 => ((impl_Attr.f l0_1).bind fun t345 => ((impl_PutNum.f k t345).bind fun t346 => (if t344.size + t346.size ≤ 9223372036854775807 then (impl_Entry_bytes.l0 k (t344 ++ t346) l0_1 (l0_1.length : Int) 0) else (none))))) = some r := H
 have A2 := Aside0.mk A20
 clear A20
 replace H := Option.bind_eq_some_iff.mp H
 obtain ⟨t344, A30, H⟩ := H
 replace H : ((impl_Attr.f l0_1).bind fun t345 => ((impl_PutNum.f k t345).bind fun t346 => (if t344.size + t346.size ≤ 9223372036854775807 then (impl_Entry_bytes.l0 k (t344 ++ t346) l0_1 (l0_1.length : Int) 0) else (none)))) = some r := H
 have A3 := Aside0.mk A30
 clear A30
 replace H := Option.bind_eq_some_iff.mp H
 obtain ⟨t345, A40, H⟩ := H
 replace H : ((impl_PutNum.f k t345).bind fun t346 => (if t344.size + t346.size ≤ 9223372036854775807 then (impl_Entry_bytes.l0 k (t344 ++ t346) l0_1 (l0_1.length : Int) 0) else (none))) = some r := H
 have A4 := Aside0.mk A40
 clear A40
 replace H := Option.bind_eq_some_iff.mp H
 obtain ⟨t346, A50, H⟩ := H
 replace H : (if t344.size + t346.size ≤ 9223372036854775807 then (impl_Entry_bytes.l0 k (t344 ++ t346) l0_1 (l0_1.length : Int) 0) else (none)) = some r := H
 have A5 := Aside0.mk A50
 clear A50
 by_cases c6 : t344.size + t346.size ≤ 9223372036854775807
 ·rw [if_pos c6] at H
  have c6b0 := eq_true c6
  have c6b1 : decide (t344.size + t346.size ≤ 9223372036854775807) = true := decide_eq_true c6
  try have c6b2 : (9223372036854775807 < t344.size + t346.size) = False := eq_false (Nat.not_lt.2 c6)
  have H' := Aside0.mk H
  clear H
  go_enter Tryd.func119, Tryd.ntmps119
  try go_wp2_with (first | ((with_reducible refine gate_dst (N := 1) rfl ?_); refine box_event ?hg (N := 1) ?hd (cs := #[.slice A0_0 l0_0.length c0_0, .slice A0_1 l0_1.length c0_1]) (t := 71) ?hr ?_; (case hd => rfl); (case hg => rfl); (case hr => first | (go_simp; done) | (go_simp; rfl)); intro gb342 hg w7 hbox hb; have n0_ := Aside0.mk (below_step HBa hb); have n1_ := Aside0.mk (hbox); have n2_ := Aside0.mk ((by rw [hg]; exact (below_size HBa) : w.heap.size ≤ gb342)); have n3_ := Aside0.mk ((by rw [hg]; exact (below_size HBa) : w.heap.size ≤ gb342)); clear HB; have HB := n0_; have BK342 := n1_; have GW342 := n2_; have GE342 := n3_; clear n0_ n1_ n2_ n3_; clear hb hbox hg))
  have n0_ := Aside0.mk (blk_drew BK342.out)
  have n1_ := Aside0.mk (below_drew1 HB.out)
  clear BK342
  clear HB
  have BK342 := n0_
  have HB := n1_
  clear n0_ n1_
  refine start_ (n := 10) (S := fun w' => w'.cell? ⟨gb342, 0, none⟩ = some (.slice A0_0 l0_0.length c0_0) ∧ w'.cell? ⟨gb342, 1, none⟩ = some (.slice A0_1 l0_1.length c0_1)) (ds := []) #[false, false, false, false, false, false, false, false, false, false] (by kernel_rfl) rfl rfl ⟨(blk_cell BK342.out 0).trans rfl, (blk_cell BK342.out 1).trans rfl⟩ (fun hHeld => ?_); refine with_tabW impl_Entry_bytes.tab1 impl_Entry_bytes.bits1 (fun HT_ HW_ => ?_)
  generalize w7.drew = w8 at BK342 HB hHeld ⊢
  refine pure_ (i := 0) (N := some 8) (v := ?_) (a' := ?_) #[true, false, false, false, false, false, false, false, false, false] rfl rfl (any_of HT_.out (by kernel_rfl)) (fun _ _ _ h => h) (Or.inl ⟨by rfl, ?_⟩) ?_ ?_
  rotate_left
  ·intro w'
   go_simp
   with_reducible rfl
  rotate_left
  ·simp only [Act.put, List.setIfInBounds_toArray, List.set_cons_zero, List.set_cons_succ, i64_w, i32_w]
   rfl
  refine pure_ (i := 4) (N := some 12) (v := ?_) (a' := ?_) #[true, false, false, false, true, false, false, false, false, false] rfl rfl (any_of HT_.out (by kernel_rfl)) (fun _ _ _ h => h) (Or.inl ⟨by rfl, ?_⟩) ?_ ?_
  rotate_left
  ·intro w'
   go_simp
   with_reducible rfl
  rotate_left
  ·simp only [Act.put, List.setIfInBounds_toArray, List.set_cons_zero, List.set_cons_succ, i64_w, i32_w]
   rfl
  refine take_ (i := 1) (N := some 9) (v := ?_) (a' := ?_) #[true, true, false, false, true, false, false, false, false, false] rfl rfl (take_ofW HT_.out HW_.out (by kernel_rfl)) (fun _ _ _ h => h) (Or.inl ⟨by rfl, ?_⟩) hHeld ?_ ?_
  rotate_left
  ·rintro w' ⟨s0, s1⟩
   go_simp
   with_reducible rfl
  rotate_left
  ·simp only [Act.put, List.setIfInBounds_toArray, List.set_cons_zero, List.set_cons_succ, i64_w, i32_w]
   rfl
  refine take_ (i := 5) (N := some 13) (v := ?_) (a' := ?_) #[true, true, false, false, true, true, false, false, false, false] rfl rfl (take_ofW HT_.out HW_.out (by kernel_rfl)) (fun _ _ _ h => h) (Or.inl ⟨by rfl, ?_⟩) hHeld ?_ ?_
  rotate_left
  ·rintro w' ⟨s0, s1⟩
   go_simp
   with_reducible rfl
  rotate_left
  ·simp only [Act.put, List.setIfInBounds_toArray, List.set_cons_zero, List.set_cons_succ, i64_w, i32_w]
   rfl
  refine one_ (i := 2) (N := some 10) #[true, true, true, false, true, true, false, false, false, false] rfl rfl (one_of HT_.out (by kernel_rfl)) (by decide) (fun K hK => ?_)
  refine goes_ Tryd.func74 (by kernel_rfl) rfl #[.slice A0_0 l0_0.length c0_0] (by rfl) rfl rfl MPz ?_
  with_reducible refine (impl_dnText.calls k _ _ l0_0 t343 _ ?side1 ?side2 A2.out).mono ?_
  (case side1 => repeat (first | exact (Kd.C_below HR0_0.out HB.out) | (with_reducible refine Kd.C_alloc ?_ _) | (with_reducible refine Kd.C_drewN ?_ _) | (with_reducible refine Kd.C_drew ?_)))
  (case side2 => exact HC0_0.out)
  rintro e w9 ⟨rfl, hb⟩
  refine ⟨_, rfl, ?_⟩
  have n0_ := Aside0.mk (blk_below (g := gb342) (o := .cells #[.slice A0_0 l0_0.length c0_0, .slice A0_1 l0_1.length c0_1] 71 (0, 0)) (BKz BK342) hb)
  have n1_ := Aside0.mk (below_step (HBb GE342) hb)
  clear BK342
  clear HB
  have BK342 := n0_
  have HB := n1_
  clear n0_ n1_
  (try clear hb)
  (try clear hb2)
  (try clear hk)
  (try clear hi)
  refine hK.out _ _ ⟨(blk_cell BK342.out 0).trans rfl, (blk_cell BK342.out 1).trans rfl⟩ (fun hHeld => ?_)
  clear hK K
  refine norm_ (a' := ?_) ?_ ?_
  rotate_left
  ·show Act.put _ (some 10) _ = _
   simp only [Act.put, List.setIfInBounds_toArray, List.set_cons_zero, List.set_cons_succ, i64_w, i32_w]
   rfl
  refine one_ (i := 3) (N := some 11) #[true, true, true, true, true, true, false, false, false, false] rfl rfl (one_of HT_.out (by kernel_rfl)) (by decide) (fun K hK => ?_)
  refine goes_ Tryd.func153 (by kernel_rfl) rfl #[.string t343] (by rfl) rfl rfl MPz ?_
  with_reducible refine (impl_PutText.calls k t343 t344 _ A3.out).mono ?_
  rintro e w10 ⟨rfl, hb⟩
  refine ⟨_, rfl, ?_⟩
  have n0_ := Aside0.mk (blk_below (g := gb342) (o := .cells #[.slice A0_0 l0_0.length c0_0, .slice A0_1 l0_1.length c0_1] 71 (0, 0)) (BKz BK342) hb)
  have n1_ := Aside0.mk (below_step (HBb GE342) hb)
  clear BK342
  clear HB
  have BK342 := n0_
  have HB := n1_
  clear n0_ n1_
  (try clear hb)
  (try clear hb2)
  (try clear hk)
  (try clear hi)
  refine hK.out _ _ ⟨(blk_cell BK342.out 0).trans rfl, (blk_cell BK342.out 1).trans rfl⟩ (fun hHeld => ?_)
  clear hK K
  refine norm_ (a' := ?_) ?_ ?_
  rotate_left
  ·show Act.put _ (some 11) _ = _
   simp only [Act.put, List.setIfInBounds_toArray, List.set_cons_zero, List.set_cons_succ, i64_w, i32_w]
   rfl
  refine one_ (i := 6) (N := some 14) #[true, true, true, true, true, true, true, false, false, false] rfl rfl (one_of HT_.out (by kernel_rfl)) (by decide) (fun K hK => ?_)
  refine goes_ Tryd.func155 (by kernel_rfl) rfl #[.slice A0_1 l0_1.length c0_1] (by rfl) rfl rfl MPz ?_
  with_reducible refine (impl_Attr.calls _ _ l0_1 t345 _ ?side1 ?side2 A4.out).mono ?_
  (case side1 => repeat (first | exact (Kd.C_below HR0_1.out HB.out) | (with_reducible refine Kd.C_alloc ?_ _) | (with_reducible refine Kd.C_drewN ?_ _) | (with_reducible refine Kd.C_drew ?_)))
  (case side2 => exact HC0_1.out)
  rintro e w' ⟨rfl, ⟨nd, rfl⟩⟩
  refine ⟨_, rfl, ?_⟩
  refine hK.out _ _ ⟨(blk_cell BK342.out 0).trans rfl, (blk_cell BK342.out 1).trans rfl⟩ (fun hHeld => ?_)
  clear hK K
  refine norm_ (a' := ?_) ?_ ?_
  rotate_left
  ·show Act.put _ (some 14) _ = _
   simp only [Act.put, List.setIfInBounds_toArray, List.set_cons_zero, List.set_cons_succ, i64_w, i32_w]
   rfl
  refine one_ (i := 7) (N := some 15) #[true, true, true, true, true, true, true, true, false, false] rfl rfl (one_of HT_.out (by kernel_rfl)) (by decide) (fun K hK => ?_)
  refine goes_ Tryd.func154 (by kernel_rfl) rfl #[.int .i64 t345] (by rfl) rfl rfl MPz ?_
  with_reducible refine (impl_PutNum.calls k t345 t346 _ A5.out).mono ?_
  rintro e w11 ⟨rfl, hb⟩
  refine ⟨_, rfl, ?_⟩
  have n0_ := Aside0.mk (blk_below (g := gb342) (o := .cells #[.slice A0_0 l0_0.length c0_0, .slice A0_1 l0_1.length c0_1] 71 (0, 0)) (BKz BK342) hb)
  have n1_ := Aside0.mk (below_step (HBb GE342) hb)
  clear BK342
  clear HB
  have BK342 := n0_
  have HB := n1_
  clear n0_ n1_
  (try clear hb)
  (try clear hb2)
  (try clear hk)
  (try clear hi)
  refine hK.out _ _ ⟨(blk_cell BK342.out 0).trans rfl, (blk_cell BK342.out 1).trans rfl⟩ (fun hHeld => ?_)
  clear hK K
  refine norm_ (a' := ?_) ?_ ?_
  rotate_left
  ·show Act.put _ (some 15) _ = _
   simp only [Act.put, List.setIfInBounds_toArray, List.set_cons_zero, List.set_cons_succ, i64_w, i32_w]
   rfl
  refine pure_ (i := 8) (N := some 16) (v := ?_) (a' := ?_) #[true, true, true, true, true, true, true, true, true, false] rfl rfl (any_of HT_.out (by kernel_rfl)) (fun _ _ _ h => h) (Or.inl ⟨by rfl, ?_⟩) ?_ ?_
  rotate_left
  ·intro w'
   go_simp
   with_reducible rfl
  rotate_left
  ·simp only [Act.put, List.setIfInBounds_toArray, List.set_cons_zero, List.set_cons_succ, i64_w, i32_w]
   rfl
  refine pure_ (i := 9) (N := some 3) (v := ?_) (a' := ?_) #[true, true, true, true, true, true, true, true, true, true] rfl rfl (any_of HT_.out (by kernel_rfl)) (fun _ _ _ h => h) (Or.inl ⟨by rfl, ?_⟩) ?_ ?_
  rotate_left
  ·intro w'
   go_simp
   with_reducible rfl
  rotate_left
  ·simp only [Act.put, List.setIfInBounds_toArray, List.set_cons_zero, List.set_cons_succ, i64_w, i32_w]
   rfl
  refine done_ (done_of HT_.out (by kernel_rfl)) ?_
  have hcz12_0 : w11.cell? ⟨gb342, 0, none⟩ = some (.slice A0_0 l0_0.length c0_0) := (blk_cell BK342.out 0).trans rfl
  have hcz12_1 : w11.cell? ⟨gb342, 1, none⟩ = some (.slice A0_1 l0_1.length c0_1) := (blk_cell BK342.out 1).trans rfl
  have hfz12_0 := blk_frozen BK342.out 0
  have hfz12_1 := blk_frozen BK342.out 1
  try go_wp2
  go_loopg [3, 20] k (fun kq v3 v20 w' => ∃ (x3_1 : ByteArray) (x20_1 : Int), v3 = .string x3_1 ∧ v20 = .int .i64 x20_1 ∧ Aside0 (impl_Entry_bytes.l0 kq x3_1 l0_1 (l0_1.length : Int) x20_1 = some r) ∧ Aside0 (kq ≤ k) ∧ Aside0 (w'.heap[gb342]? = some (.cells #[(.slice A0_0 l0_0.length c0_0), (.slice A0_1 l0_1.length c0_1)] 71 (0, 0))) ∧ Aside0 (Below w.heap.size w w'))
  case atStart => exact ⟨(t344 ++ t346), (0), EZc, EZc, H', ⟨Nat.le_refl _⟩, ⟨by (with_reducible repeat (first | refine blk_drewN ?_ _ | refine blk_drew ?_ | refine blk_alloc ?_ _)); exact BK342.out⟩, ⟨by repeat (first | (with_reducible first | exact HB.out | apply below_alloc | apply pw_below_drewN | apply below_drew1 | refine below_set ?_ GE342.out) | exact HB.out)⟩⟩
  case round =>
   clear H'
   try clear c1
   try clear p2
   try clear c6
   try clear c6b0
   try clear c6b1
   try clear c6b2
   try clear c7
   try clear c11
   try clear hcz12_0
   try clear hcz12_1
   try clear hfz12_0
   try clear hfz12_1
   obtain ⟨x3_1, x20_1, rfl, rfl, HA, HK1, BK342, HB⟩ := hrel
   cases gk with
   | zero => exact absurd HA.out (by simp [impl_Entry_bytes.l0])
   | succ k1 =>
    have H := HA.out
    clear HA
    simp only [impl_Entry_bytes.l0] at H
    by_cases c13 : x20_1 < (l0_1.length : Int)
    ·rw [if_pos c13] at H
     have c13b0 : decide (x20_1 < (l0_1.length : Int)) = true := decide_eq_true c13
     clear c13
     by_cases c14 : 0 ≤ x20_1
     ·rw [if_pos c14] at H
      have c14b0 : decide (0 ≤ x20_1) = true := decide_eq_true c14
      clear c14
      by_cases c15 : x20_1 < (l0_1.length : Int)
      ·rw [if_pos c15] at H
       have c15b0 : decide (x20_1 < (l0_1.length : Int)) = true := decide_eq_true c15
       clear c15
       replace H := Option.bind_eq_some_iff.mp H
       obtain ⟨t349, A160, H⟩ := H
       replace H : ((impl_size_string.f ((rd_T114 l0_1 x20_1).f1)).bind fun t350 => ((impl_PutNum.f k1 t350).bind fun t351 => (if t349.size + t351.size ≤ 9223372036854775807 then (if x3_1.size + (t349 ++ t351).size ≤ 9223372036854775807 then (impl_Entry_bytes.l1 k1 (x3_1 ++ (t349 ++ t351)) l0_1 (l0_1.length : Int) x20_1 ((rd_T114 l0_1 x20_1).f1) (((rd_T114 l0_1 x20_1).f1).length : Int) 0) else (none)) else (none)))) = some r := H
       have A16 := Aside0.mk A160
       clear A160
       replace H := Option.bind_eq_some_iff.mp H
       obtain ⟨t350, A170, H⟩ := H
       replace H : ((impl_PutNum.f k1 t350).bind fun t351 => (if t349.size + t351.size ≤ 9223372036854775807 then (if x3_1.size + (t349 ++ t351).size ≤ 9223372036854775807 then (impl_Entry_bytes.l1 k1 (x3_1 ++ (t349 ++ t351)) l0_1 (l0_1.length : Int) x20_1 ((rd_T114 l0_1 x20_1).f1) (((rd_T114 l0_1 x20_1).f1).length : Int) 0) else (none)) else (none))) = some r := H
       have A17 := Aside0.mk A170
       clear A170
       replace H := Option.bind_eq_some_iff.mp H
       obtain ⟨t351, A180, H⟩ := H
       replace H : (if t349.size + t351.size ≤ 9223372036854775807 then (if x3_1.size + (t349 ++ t351).size ≤ 9223372036854775807 then (impl_Entry_bytes.l1 k1 (x3_1 ++ (t349 ++ t351)) l0_1 (l0_1.length : Int) x20_1 ((rd_T114 l0_1 x20_1).f1) (((rd_T114 l0_1 x20_1).f1).length : Int) 0) else (none)) else (none)) = some r := H
       have A18 := Aside0.mk A180
       clear A180
       by_cases c19 : t349.size + t351.size ≤ 9223372036854775807
       ·rw [if_pos c19] at H
        have c19b0 := eq_true c19
        have c19b1 : decide (t349.size + t351.size ≤ 9223372036854775807) = true := decide_eq_true c19
        try have c19b2 : (9223372036854775807 < t349.size + t351.size) = False := eq_false (Nat.not_lt.2 c19)
        by_cases c20 : x3_1.size + (t349 ++ t351).size ≤ 9223372036854775807
        ·rw [if_pos c20] at H
         have c20b0 := eq_true c20
         have c20b1 : decide (x3_1.size + (t349 ++ t351).size ≤ 9223372036854775807) = true := decide_eq_true c20
         have c20n : ¬ (9223372036854775807 < x3_1.size + (t349 ++ t351).size) := Nat.not_lt.2 c20
         try simp only [ByteArray.size_append] at c20n
         try have c20b2 : (9223372036854775807 < x3_1.size + (t349 ++ t351).size) = False := eq_false (Nat.not_lt.2 c20)
         have H' := Aside0.mk H
         clear H
         have p347 : 0 ≤ (x20_1 : Int) := ODz
         have q347 : x20_1 < (l0_1.length : Int) := ODz
         obtain ⟨ad347, A347_1, c347_1, e347, hx347_0, hx347_1, hl347_1, hi347_1⟩ := at_T114 HR0_1.out x20_1 p347 q347
         cases e347
         replace hx347_0 := (HB.out.cell (World.block_lt_of_cell? w _ hx347_0)).trans hx347_0
         replace hx347_1 := (HB.out.cell (World.block_lt_of_cell? w _ hx347_1)).trans hx347_1
         have HR347_1 := Aside0.mk hi347_1
         have HC347_1 := Aside0.mk hl347_1
         clear hi347_1 hl347_1
         replace p347 := eq_true p347
         replace q347 := eq_true q347
         try go_wp2_with (first | ((with_reducible refine gate_dst (N := 5) rfl ?_); refine box_event ?hg (N := 5) ?hd (cs := #[.string (⟨#[]⟩ : ByteArray), .slice none 0 0]) (t := 114) ?hr ?_; (case hd => rfl); (case hg => rfl); (case hr => first | (go_simp; done) | (go_simp; rfl)); intro gb348 hg w21 hbox hb; have n0_ := Aside0.mk (blk_below (g := gb342) (o := .cells #[.slice A0_0 l0_0.length c0_0, .slice (some ad347) l0_1.length c0_1] 71 (0, 0)) (BKz BK342) hb); have n1_ := Aside0.mk (below_step (HBb GE342) hb); have n2_ := Aside0.mk (hbox); have n3_ := Aside0.mk ((by rw [hg]; exact (below_size (HBb GE342)) : w.heap.size ≤ gb348)); have n4_ := Aside0.mk ((by rw [hg]; exact (below_size (HBb GE342)) : w.heap.size ≤ gb348)); have n5_ := Aside0.mk ((by rw [hg]; exact Nat.ne_of_lt (blk_lt (g := gb342) (o := .cells #[.slice A0_0 l0_0.length c0_0, .slice (some ad347) l0_1.length c0_1] 71 (0, 0)) (BKz BK342)) : gb342 ≠ gb348)); have n6_ := Aside0.mk ((by rw [hg]; exact Nat.ne_of_gt (blk_lt (g := gb342) (o := .cells #[.slice A0_0 l0_0.length c0_0, .slice (some ad347) l0_1.length c0_1] 71 (0, 0)) (BKz BK342)) : gb348 ≠ gb342)); clear BK342; clear HB; have BK342 := n0_; have HB := n1_; have BK348 := n2_; have GW348 := n3_; have GE348 := n4_; have NB342_348 := n5_; have NB348_342 := n6_; clear n0_ n1_ n2_ n3_ n4_ n5_ n6_; clear hb hbox hg; have hnb22 := NB348_342.out; have hnc22 := NB342_348.out; have hcz23_0 : w21.cell? ⟨gb348, 0, none⟩ = some (.string (⟨#[]⟩ : ByteArray)) := (blk_cell BK348.out 0).trans rfl; have hcz23_1 : w21.cell? ⟨gb348, 1, none⟩ = some (.slice none 0 0) := (blk_cell BK348.out 1).trans rfl; have hfz23_0 := blk_frozen BK348.out 0; have hfz23_1 := blk_frozen BK348.out 1))
         have n0_ : Aside0 (((w21.setCell ⟨gb348, 0, none⟩ (.string ((rd_T114 l0_1 x20_1).f0))).setCell ⟨gb348, 1, none⟩ (.slice A347_1 ((rd_T114 l0_1 x20_1).f1).length c347_1)).heap[gb342]? = some (.cells #[.slice A0_0 l0_0.length c0_0, .slice (some ad347) l0_1.length c0_1] 71 (0, 0))) := ⟨by (with_reducible repeat (first | refine blk_drewN ?_ _ | refine blk_drew ?_ | refine blk_alloc ?_ _)); refine blk_far ?_ NB342_348.out _; (with_reducible repeat (first | refine blk_drewN ?_ _ | refine blk_drew ?_ | refine blk_alloc ?_ _)); refine blk_far ?_ NB342_348.out _; (with_reducible repeat (first | refine blk_drewN ?_ _ | refine blk_drew ?_ | refine blk_alloc ?_ _)); exact BK342.out⟩
         have n1_ : Aside0 (((w21.setCell ⟨gb348, 0, none⟩ (.string ((rd_T114 l0_1 x20_1).f0))).setCell ⟨gb348, 1, none⟩ (.slice A347_1 ((rd_T114 l0_1 x20_1).f1).length c347_1)).heap[gb348]? = some (.cells #[.string ((rd_T114 l0_1 x20_1).f0), .slice A347_1 ((rd_T114 l0_1 x20_1).f1).length c347_1] 114 (0, 0))) := ⟨by (with_reducible repeat (first | refine blk_drewN ?_ _ | refine blk_drew ?_ | refine blk_alloc ?_ _)); refine blk_put (cs := #[.string ((rd_T114 l0_1 x20_1).f0), .slice none 0 0]) ?_ 1 _ rfl; (with_reducible repeat (first | refine blk_drewN ?_ _ | refine blk_drew ?_ | refine blk_alloc ?_ _)); refine blk_put (cs := #[.string (⟨#[]⟩ : ByteArray), .slice none 0 0]) ?_ 0 _ rfl; (with_reducible repeat (first | refine blk_drewN ?_ _ | refine blk_drew ?_ | refine blk_alloc ?_ _)); exact BK348.out⟩
         have n2_ : Aside0 (Below w.heap.size w ((w21.setCell ⟨gb348, 0, none⟩ (.string ((rd_T114 l0_1 x20_1).f0))).setCell ⟨gb348, 1, none⟩ (.slice A347_1 ((rd_T114 l0_1 x20_1).f1).length c347_1))) := ⟨by repeat (first | (with_reducible first | exact HB.out | apply below_alloc | apply pw_below_drewN | apply below_drew1 | refine below_set ?_ GE342.out | refine below_set ?_ GE348.out) | exact HB.out)⟩
         (try clear BK342)
         (try clear BK348)
         (try clear HB)
         generalize ((w21.setCell ⟨gb348, 0, none⟩ (.string ((rd_T114 l0_1 x20_1).f0))).setCell ⟨gb348, 1, none⟩ (.slice A347_1 ((rd_T114 l0_1 x20_1).f1).length c347_1)) = w24 at n0_ n1_ n2_ ⊢
         have BK342 := n0_
         have BK348 := n1_
         have HB := n2_
         clear n0_ n1_ n2_
         have n0_ := Aside0.mk (blk_drew BK342.out)
         have n1_ := Aside0.mk (blk_drew BK348.out)
         have n2_ := Aside0.mk (below_drew1 HB.out)
         clear BK342
         clear BK348
         clear HB
         have BK342 := n0_
         have BK348 := n1_
         have HB := n2_
         clear n0_ n1_ n2_
         refine start_ (n := 11) (S := fun w' => w'.cell? ⟨gb348, 0, none⟩ = some (.string ((rd_T114 l0_1 x20_1).f0)) ∧ w'.cell? ⟨gb348, 1, none⟩ = some (.slice A347_1 ((rd_T114 l0_1 x20_1).f1).length c347_1)) (ds := []) #[false, false, false, false, false, false, false, false, false, false, false] (by kernel_rfl) rfl rfl ⟨(blk_cell BK348.out 0).trans rfl, (blk_cell BK348.out 1).trans rfl⟩ (fun hHeld => ?_); refine with_tabW impl_Entry_bytes.tab5 impl_Entry_bytes.bits5 (fun HT_ HW_ => ?_)
         generalize w24.drew = w25 at BK342 BK348 HB hHeld ⊢
         refine pure_ (i := 0) (N := some 24) (v := ?_) (a' := ?_) #[true, false, false, false, false, false, false, false, false, false, false] rfl rfl (any_of HT_.out (by kernel_rfl)) (fun _ _ _ h => h) (Or.inl ⟨by rfl, ?_⟩) ?_ ?_
         rotate_left
         ·intro w'
          go_simp
          with_reducible rfl
         rotate_left
         ·simp only [Act.put, List.setIfInBounds_toArray, List.set_cons_zero, List.set_cons_succ, i64_w, i32_w]
          rfl
         refine pure_ (i := 1) (N := some 25) (v := ?_) (a' := ?_) #[true, true, false, false, false, false, false, false, false, false, false] rfl rfl (any_of HT_.out (by kernel_rfl)) (fun _ _ _ h => h) (Or.inl ⟨by rfl, ?_⟩) ?_ ?_
         rotate_left
         ·intro w'
          go_simp
          with_reducible rfl
         rotate_left
         ·simp only [Act.put, List.setIfInBounds_toArray, List.set_cons_zero, List.set_cons_succ, i64_w, i32_w]
          rfl
         refine pure_ (i := 4) (N := some 28) (v := ?_) (a' := ?_) #[true, true, false, false, true, false, false, false, false, false, false] rfl rfl (any_of HT_.out (by kernel_rfl)) (fun _ _ _ h => h) (Or.inl ⟨by rfl, ?_⟩) ?_ ?_
         rotate_left
         ·intro w'
          go_simp
          with_reducible rfl
         rotate_left
         ·simp only [Act.put, List.setIfInBounds_toArray, List.set_cons_zero, List.set_cons_succ, i64_w, i32_w]
          rfl
         refine take_ (i := 2) (N := some 26) (v := ?_) (a' := ?_) #[true, true, true, false, true, false, false, false, false, false, false] rfl rfl (take_ofW HT_.out HW_.out (by kernel_rfl)) (fun _ _ _ h => h) (Or.inl ⟨by rfl, ?_⟩) hHeld ?_ ?_
         rotate_left
         ·rintro w' ⟨s0, s1⟩
          go_simp
          with_reducible rfl
         rotate_left
         ·simp only [Act.put, List.setIfInBounds_toArray, List.set_cons_zero, List.set_cons_succ, i64_w, i32_w]
          rfl
         refine take_ (i := 5) (N := some 29) (v := ?_) (a' := ?_) #[true, true, true, false, true, true, false, false, false, false, false] rfl rfl (take_ofW HT_.out HW_.out (by kernel_rfl)) (fun _ _ _ h => h) (Or.inl ⟨by rfl, ?_⟩) hHeld ?_ ?_
         rotate_left
         ·rintro w' ⟨s0, s1⟩
          go_simp
          with_reducible rfl
         rotate_left
         ·simp only [Act.put, List.setIfInBounds_toArray, List.set_cons_zero, List.set_cons_succ, i64_w, i32_w]
          rfl
         refine one_ (i := 3) (N := some 27) #[true, true, true, true, true, true, false, false, false, false, false] rfl rfl (one_of HT_.out (by kernel_rfl)) (by decide) (fun K hK => ?_)
         refine goes_ Tryd.func153 (by kernel_rfl) rfl #[.string ((rd_T114 l0_1 x20_1).f0)] (by rfl) rfl rfl MPz ?_
         with_reducible refine (impl_PutText.calls k1 ((rd_T114 l0_1 x20_1).f0) t349 _ A16.out).mono ?_
         rintro e w26 ⟨rfl, hb⟩
         refine ⟨_, rfl, ?_⟩
         have n0_ := Aside0.mk (blk_below (g := gb342) (o := .cells #[.slice A0_0 l0_0.length c0_0, .slice (some ad347) l0_1.length c0_1] 71 (0, 0)) (BKz BK342) hb)
         have n1_ := Aside0.mk (blk_below (g := gb348) (o := .cells #[.string ((rd_T114 l0_1 x20_1).f0), .slice A347_1 ((rd_T114 l0_1 x20_1).f1).length c347_1] 114 (0, 0)) (BKz BK348) hb)
         have n2_ := Aside0.mk (below_step (HBc GE342 GE348) hb)
         clear BK342
         clear BK348
         clear HB
         have BK342 := n0_
         have BK348 := n1_
         have HB := n2_
         clear n0_ n1_ n2_
         (try clear hb)
         (try clear hb2)
         (try clear hk)
         (try clear hi)
         refine hK.out _ _ ⟨(blk_cell BK348.out 0).trans rfl, (blk_cell BK348.out 1).trans rfl⟩ (fun hHeld => ?_)
         clear hK K
         refine norm_ (a' := ?_) ?_ ?_
         rotate_left
         ·show Act.put _ (some 27) _ = _
          simp only [Act.put, List.setIfInBounds_toArray, List.set_cons_zero, List.set_cons_succ, i64_w, i32_w]
          rfl
         refine one_ (i := 6) (N := some 30) #[true, true, true, true, true, true, true, false, false, false, false] rfl rfl (one_of HT_.out (by kernel_rfl)) (by decide) (fun K hK => ?_)
         refine goes_ Tryd.func137 (by kernel_rfl) rfl #[.slice A347_1 ((rd_T114 l0_1 x20_1).f1).length c347_1] (by rfl) rfl rfl MPz ?_
         with_reducible refine (impl_size_string.calls _ _ ((rd_T114 l0_1 x20_1).f1) t350 _ ?side1 ?side2 A17.out).mono ?_
         (case side1 => repeat (first | exact (Kd.C_below HR347_1.out HB.out) | (with_reducible refine Kd.C_alloc ?_ _) | (with_reducible refine Kd.C_drewN ?_ _) | (with_reducible refine Kd.C_drew ?_)))
         (case side2 => exact HC347_1.out)
         rintro e w' ⟨rfl, ⟨nd, rfl⟩⟩
         refine ⟨_, rfl, ?_⟩
         refine hK.out _ _ ⟨(blk_cell BK348.out 0).trans rfl, (blk_cell BK348.out 1).trans rfl⟩ (fun hHeld => ?_)
         clear hK K
         refine norm_ (a' := ?_) ?_ ?_
         rotate_left
         ·show Act.put _ (some 30) _ = _
          simp only [Act.put, List.setIfInBounds_toArray, List.set_cons_zero, List.set_cons_succ, i64_w, i32_w]
          rfl
         refine one_ (i := 7) (N := some 31) #[true, true, true, true, true, true, true, true, false, false, false] rfl rfl (one_of HT_.out (by kernel_rfl)) (by decide) (fun K hK => ?_)
         refine goes_ Tryd.func154 (by kernel_rfl) rfl #[.int .i64 t350] (by rfl) rfl rfl MPz ?_
         with_reducible refine (impl_PutNum.calls k1 t350 t351 _ A18.out).mono ?_
         rintro e w27 ⟨rfl, hb⟩
         refine ⟨_, rfl, ?_⟩
         have n0_ := Aside0.mk (blk_below (g := gb342) (o := .cells #[.slice A0_0 l0_0.length c0_0, .slice (some ad347) l0_1.length c0_1] 71 (0, 0)) (BKz BK342) hb)
         have n1_ := Aside0.mk (blk_below (g := gb348) (o := .cells #[.string ((rd_T114 l0_1 x20_1).f0), .slice A347_1 ((rd_T114 l0_1 x20_1).f1).length c347_1] 114 (0, 0)) (BKz BK348) hb)
         have n2_ := Aside0.mk (below_step (HBc GE342 GE348) hb)
         clear BK342
         clear BK348
         clear HB
         have BK342 := n0_
         have BK348 := n1_
         have HB := n2_
         clear n0_ n1_ n2_
         (try clear hb)
         (try clear hb2)
         (try clear hk)
         (try clear hi)
         refine hK.out _ _ ⟨(blk_cell BK348.out 0).trans rfl, (blk_cell BK348.out 1).trans rfl⟩ (fun hHeld => ?_)
         clear hK K
         refine norm_ (a' := ?_) ?_ ?_
         rotate_left
         ·show Act.put _ (some 31) _ = _
          simp only [Act.put, List.setIfInBounds_toArray, List.set_cons_zero, List.set_cons_succ, i64_w, i32_w]
          rfl
         refine pure_ (i := 8) (N := some 32) (v := ?_) (a' := ?_) #[true, true, true, true, true, true, true, true, true, false, false] rfl rfl (any_of HT_.out (by kernel_rfl)) (fun _ _ _ h => h) (Or.inl ⟨by rfl, ?_⟩) ?_ ?_
         rotate_left
         ·intro w'
          go_simp
          with_reducible rfl
         rotate_left
         ·simp only [Act.put, List.setIfInBounds_toArray, List.set_cons_zero, List.set_cons_succ, i64_w, i32_w]
          rfl
         refine pure_ (i := 9) (N := some 33) (v := ?_) (a' := ?_) #[true, true, true, true, true, true, true, true, true, true, false] rfl rfl (any_of HT_.out (by kernel_rfl)) (fun _ _ _ h => h) (Or.inl ⟨by rfl, ?_⟩) ?_ ?_
         rotate_left
         ·intro w'
          go_simp
          with_reducible rfl
         rotate_left
         ·simp only [Act.put, List.setIfInBounds_toArray, List.set_cons_zero, List.set_cons_succ, i64_w, i32_w]
          rfl
         refine pure_ (i := 10) (N := some 3) (v := ?_) (a' := ?_) #[true, true, true, true, true, true, true, true, true, true, true] rfl rfl (any_of HT_.out (by kernel_rfl)) (fun _ _ _ h => h) (Or.inl ⟨by rfl, ?_⟩) ?_ ?_
         rotate_left
         ·intro w'
          go_simp
          with_reducible rfl
         rotate_left
         ·simp only [Act.put, List.setIfInBounds_toArray, List.set_cons_zero, List.set_cons_succ, i64_w, i32_w]
          rfl
         refine done_ (done_of HT_.out (by kernel_rfl)) ?_
         have hcz28_0 : w27.cell? ⟨gb348, 0, none⟩ = some (.string ((rd_T114 l0_1 x20_1).f0)) := (blk_cell BK348.out 0).trans rfl
         have hcz28_1 : w27.cell? ⟨gb348, 1, none⟩ = some (.slice A347_1 ((rd_T114 l0_1 x20_1).f1).length c347_1) := (blk_cell BK348.out 1).trans rfl
         have hfz28_0 := blk_frozen BK348.out 0
         have hfz28_1 := blk_frozen BK348.out 1
         try go_wp2
         go_loopg [3, 37] k1 (fun kq v3 v37 w' => ∃ (x3_2 : ByteArray) (x37_2 : Int), v3 = .string x3_2 ∧ v37 = .int .i64 x37_2 ∧ Aside0 (impl_Entry_bytes.l1 kq x3_2 l0_1 (l0_1.length : Int) x20_1 ((rd_T114 l0_1 x20_1).f1) (((rd_T114 l0_1 x20_1).f1).length : Int) x37_2 = some r) ∧ Aside0 (kq ≤ k1) ∧ Aside0 (w'.heap[gb342]? = some (.cells #[(.slice A0_0 l0_0.length c0_0), (.slice (some ad347) l0_1.length c0_1)] 71 (0, 0))) ∧ Aside0 (w'.heap[gb348]? = some (.cells #[.string ((rd_T114 l0_1 x20_1).f0), (.slice A347_1 ((rd_T114 l0_1 x20_1).f1).length c347_1)] 114 (0, 0))) ∧ Aside0 (Below w.heap.size w w'))
         case atStart => exact ⟨(x3_1 ++ (t349 ++ t351)), (0), EZc, EZc, H', ⟨Nat.le_refl _⟩, ⟨by (with_reducible repeat (first | refine blk_drewN ?_ _ | refine blk_drew ?_ | refine blk_alloc ?_ _)); exact BK342.out⟩, ⟨by (with_reducible repeat (first | refine blk_drewN ?_ _ | refine blk_drew ?_ | refine blk_alloc ?_ _)); exact BK348.out⟩, ⟨by repeat (first | (with_reducible first | exact HB.out | apply below_alloc | apply pw_below_drewN | apply below_drew1 | refine below_set ?_ GE342.out | refine below_set ?_ GE348.out) | exact HB.out)⟩⟩
         case round =>
          clear H'
          try clear c1
          try clear c2
          try clear p2
          try clear c3
          try clear p3
          try clear q3
          try clear hx3
          try clear c6
          try clear c6b0
          try clear c6b1
          try clear c6b2
          try clear c7
          try clear c11
          try clear c13
          try clear c13b0
          try clear c14
          try clear c14b0
          try clear c15
          try clear c15b0
          try clear c19
          try clear c19b0
          try clear c19b1
          try clear c19b2
          try clear c20
          try clear c20b0
          try clear c20b1
          try clear c20b2
          try clear c22
          try clear hcz12_0
          try clear hcz12_1
          try clear hcz23_0
          try clear hcz23_1
          try clear hcz28_0
          try clear hcz28_1
          try clear hfz12_0
          try clear hfz12_1
          try clear hfz23_0
          try clear hfz23_1
          try clear hfz28_0
          try clear hfz28_1
          try clear hx347_0
          try clear hx347_1
          try clear p2
          try clear p347
          try clear q347
          obtain ⟨x3_2, x37_2, rfl, rfl, HA, HK2, BK342, BK348, HB⟩ := hrel
          cases gk with
          | zero => exact absurd HA.out (by simp [impl_Entry_bytes.l1])
          | succ k2 =>
           have H := HA.out
           clear HA
           simp only [impl_Entry_bytes.l1] at H
           by_cases c29 : x37_2 < (((rd_T114 l0_1 x20_1).f1).length : Int)
           ·rw [if_pos c29] at H
            have c29b0 : decide (x37_2 < (((rd_T114 l0_1 x20_1).f1).length : Int)) = true := decide_eq_true c29
            clear c29
            by_cases c30 : 0 ≤ x37_2
            ·rw [if_pos c30] at H
             have c30b0 : decide (0 ≤ x37_2) = true := decide_eq_true c30
             clear c30
             by_cases c31 : x37_2 < (((rd_T114 l0_1 x20_1).f1).length : Int)
             ·rw [if_pos c31] at H
              have c31b0 : decide (x37_2 < (((rd_T114 l0_1 x20_1).f1).length : Int)) = true := decide_eq_true c31
              clear c31
              replace H := Option.bind_eq_some_iff.mp H
              obtain ⟨t353, A320, H⟩ := H
              replace H : (if x3_2.size + t353.size ≤ 9223372036854775807 then (impl_Entry_bytes.l1 k2 (x3_2 ++ t353) l0_1 (l0_1.length : Int) x20_1 ((rd_T114 l0_1 x20_1).f1) (((rd_T114 l0_1 x20_1).f1).length : Int) (wrap64 (x37_2 + 1))) else (none)) = some r := H
              have A32 := Aside0.mk A320
              clear A320
              by_cases c33 : x3_2.size + t353.size ≤ 9223372036854775807
              ·rw [if_pos c33] at H
               have c33b0 := eq_true c33
               have c33b1 : decide (x3_2.size + t353.size ≤ 9223372036854775807) = true := decide_eq_true c33
               try have c33b2 : (9223372036854775807 < x3_2.size + t353.size) = False := eq_false (Nat.not_lt.2 c33)
               have H' := Aside0.mk H
               clear H
               have p352 : 0 ≤ (x37_2 : Int) := ODz
               have q352 : x37_2 < (((rd_T114 l0_1 x20_1).f1).length : Int) := ODz
               obtain ⟨ad352, e352, hx352_0⟩ := Kd.at_string HR347_1.out x37_2 p352 q352
               cases e352
               replace hx352_0 := (HB.out.cell (World.block_lt_of_cell? w _ hx352_0)).trans hx352_0
               replace p352 := eq_true p352
               replace q352 := eq_true q352
               go_wp2_with (first | ((with_reducible refine gate_callee (f := 153) rfl ?_); refine goesL_ (some 43) rfl rfl Tryd.func153 (by kernel_rfl) rfl #[.string (rdOf ByteArray.empty ((rd_T114 l0_1 x20_1).f1) x37_2)] rfl MPz ?_; (with_reducible refine (impl_PutText.calls k2 (rdOf ByteArray.empty ((rd_T114 l0_1 x20_1).f1) x37_2) t353 _ A32.out).mono ?_); rintro e w34 ⟨rfl, hb⟩; refine ⟨_, rfl, ?_⟩; have n0_ := Aside0.mk (blk_below (g := gb342) (o := .cells #[.slice A0_0 l0_0.length c0_0, .slice (some ad347) l0_1.length c0_1] 71 (0, 0)) (BKz BK342) hb); have n1_ := Aside0.mk (blk_below (g := gb348) (o := .cells #[.string ((rd_T114 l0_1 x20_1).f0), .slice (some ad352) ((rd_T114 l0_1 x20_1).f1).length c347_1] 114 (0, 0)) (BKz BK348) hb); have n2_ := Aside0.mk (below_step (HBc GE342 GE348) hb); clear BK342; clear BK348; clear HB; have BK342 := n0_; have BK348 := n1_; have HB := n2_; clear n0_ n1_ n2_; (try clear hb); (try clear hb2); (try clear hk); (try clear hi)))
               go_roundg k2
               case measure => have := HK1.out; have := HK2.out; omega
               case rel => exact ⟨(x3_2 ++ t353), (wrap64 (x37_2 + 1)), EZc, EZc, H', ⟨by have := HK1.out; have := HK2.out; omega⟩, ⟨by (with_reducible repeat (first | refine blk_drewN ?_ _ | refine blk_drew ?_ | refine blk_alloc ?_ _)); exact BK342.out⟩, ⟨by (with_reducible repeat (first | refine blk_drewN ?_ _ | refine blk_drew ?_ | refine blk_alloc ?_ _)); exact BK348.out⟩, ⟨by repeat (first | (with_reducible first | exact HB.out | apply below_alloc | apply pw_below_drewN | apply below_drew1 | refine below_set ?_ GE342.out | refine below_set ?_ GE348.out) | exact HB.out)⟩⟩
              ·rw [if_neg c33] at H
               exact absurd H (by simp)
             ·rw [if_neg c31] at H
              exact absurd H (by simp)
            ·rw [if_neg c30] at H
             exact absurd H (by simp)
           ·rw [if_neg c29] at H
            have c29b0 : decide (x37_2 < (((rd_T114 l0_1 x20_1).f1).length : Int)) = false := decide_eq_false c29
            clear c29
            have H' := Aside0.mk H
            clear H
            go_wp2
            go_roundg k2
            case measure => have := HK1.out; have := HK2.out; omega
            case rel => exact ⟨(x3_2), (wrap64 (x20_1 + 1)), EZc, EZc, H', ⟨by have := HK1.out; have := HK2.out; omega⟩, ⟨by (with_reducible repeat (first | refine blk_drewN ?_ _ | refine blk_drew ?_ | refine blk_alloc ?_ _)); exact BK342.out⟩, ⟨by repeat (first | (with_reducible first | exact HB.out | apply below_alloc | apply pw_below_drewN | apply below_drew1 | refine below_set ?_ GE342.out | refine below_set ?_ GE348.out) | exact HB.out)⟩⟩
        ·rw [if_neg c20] at H
         exact absurd H (by simp)
       ·rw [if_neg c19] at H
        exact absurd H (by simp)
      ·rw [if_neg c15] at H
       exact absurd H (by simp)
     ·rw [if_neg c14] at H
      exact absurd H (by simp)
    ·rw [if_neg c13] at H
     have c13b0 : decide (x20_1 < (l0_1.length : Int)) = false := decide_eq_false c13
     clear c13
     obtain rfl := Option.some.inj H
     go_wp2
     go_ret
     exact ⟨EZa, HBb GE342⟩
 ·rw [if_neg c6] at H
  exact absurd H (by simp)
def impl_EntryBytes.f (k : Nat) (l0_0 : List (S42)) (l0_1 : List (S114)) : Option (ByteArray) := (impl_EntryRight.f k l0_0 l0_1).bind fun t355 => (if t355 = true then ((impl_Entry_bytes.f k l0_0 l0_1).bind fun t356 => (some t356)) else (some (⟨#[]⟩ : ByteArray)))
theorem impl_EntryBytes.mono : ∀ a0 a1 k, LeO (impl_EntryBytes.f k a0 a1) (impl_EntryBytes.f (k + 1) a0 a1) := by
 intro a0 a1 k
 unfold impl_EntryBytes.f
 repeat' first
   | (with_reducible exact impl_EntryRight.mono _ _ _)
   | (with_reducible exact impl_Entry_bytes.mono _ _ _)
   | (with_reducible exact LeO.refl _)
   | (with_reducible exact LeO.none _)
   | (with_reducible refine LeO.ite ?_ ?_)
   | (with_reducible refine LeO.bind ?_ (fun _ => ?_))
   | exact impl_EntryRight.mono _ _ _
   | exact impl_Entry_bytes.mono _ _ _
   | exact LeO.none _
   | refine LeO.ite ?_ ?_
   | refine LeO.bind ?_ (fun _ => ?_)
set_option maxHeartbeats 8000000 in
set_option maxRecDepth 100000 in
theorem impl_EntryBytes.calls (k : Nat) (A0_0 : Option Addr) (c0_0 : Nat) (l0_0 : List (S42)) (A0_1 : Option Addr) (c0_1 : Nat) (l0_1 : List (S114)) (r : ByteArray) (w : World) (hr0_0 : Kd.C k42 w A0_0 l0_0.length l0_0) (hc0_0 : l0_0.length ≤ c0_0) (hr0_1 : Kd.C k114 w A0_1 l0_1.length l0_1) (hc0_1 : l0_1.length ≤ c0_1) (h : impl_EntryBytes.f k l0_0 l0_1 = some r) :
  Calls Tryd.prog 67 #[.agg #[.slice A0_0 l0_0.length c0_0, .slice A0_1 l0_1.length c0_1]] w fun e w' => e = .returned (.string r) ∧ Below w.heap.size w w' := by
 have hu71 := Tryd.underlying71
 have HR0_0 := Aside0.mk hr0_0
 have HC0_0 := Aside0.mk hc0_0
 clear hr0_0 hc0_0
 have HR0_1 := Aside0.mk hr0_1
 have HC0_1 := Aside0.mk hc0_1
 clear hr0_1 hc0_1
 have HB := Aside0.mk (Below.refl w.heap.size w)
 have H : ((impl_EntryRight.f k l0_0 l0_1).bind fun t355 => (if t355 = true then ((impl_Entry_bytes.f k l0_0 l0_1).bind fun t356 => (some t356)) else (some (⟨#[]⟩ : ByteArray)))) = some r := h
 clear h
 replace H := Option.bind_eq_some_iff.mp H
 obtain ⟨t355, A20, H⟩ := H
 replace H : (if t355 = true then ((impl_Entry_bytes.f k l0_0 l0_1).bind fun t356 => (some t356)) else (some (⟨#[]⟩ : ByteArray))) = some r := H
 have A2 := Aside0.mk A20
 clear A20
 by_cases c3 : t355 = true
 ·subst c3
  have H1 : ((impl_Entry_bytes.f k l0_0 l0_1).bind fun t356 => (some t356)) = some r := by rw [if_pos rfl] at H; exact H
  clear H
  have H := H1
  clear H1
  replace H := Option.bind_eq_some_iff.mp H
  obtain ⟨t356, A40, H⟩ := H
  replace H : (some t356) = some r := H
  have A4 := Aside0.mk A40
  clear A40
  obtain rfl := Option.some.inj H
  go_enter Tryd.func67, Tryd.ntmps67
  go_wp2_with (first | ((with_reducible refine gate_dst (N := 1) rfl ?_); refine box_event ?hg (N := 1) ?hd (cs := #[.slice A0_0 l0_0.length c0_0, .slice A0_1 l0_1.length c0_1]) (t := 71) ?hr ?_; (case hd => rfl); (case hg => rfl); (case hr => first | (go_simp; done) | (go_simp; rfl)); intro gb354 hg w5 hbox hb; have n0_ := Aside0.mk (below_step HBa hb); have n1_ := Aside0.mk (hbox); have n2_ := Aside0.mk ((by rw [hg]; exact (below_size HBa) : w.heap.size ≤ gb354)); have n3_ := Aside0.mk ((by rw [hg]; exact (below_size HBa) : w.heap.size ≤ gb354)); clear HB; have HB := n0_; have BK354 := n1_; have GW354 := n2_; have GE354 := n3_; clear n0_ n1_ n2_ n3_; clear hb hbox hg; have hcz6_0 : w5.cell? ⟨gb354, 0, none⟩ = some (.slice A0_0 l0_0.length c0_0) := (blk_cell BK354.out 0).trans rfl; have hcz6_1 : w5.cell? ⟨gb354, 1, none⟩ = some (.slice A0_1 l0_1.length c0_1) := (blk_cell BK354.out 1).trans rfl; have hfz6_0 := blk_frozen BK354.out 0; have hfz6_1 := blk_frozen BK354.out 1) | ((with_reducible refine gate_callee (f := 55) rfl ?_); refine goesL_ (some 4) rfl rfl Tryd.func55 (by kernel_rfl) rfl #[.agg #[.slice A0_0 l0_0.length c0_0, .slice A0_1 l0_1.length c0_1]] rfl MPz ?_; (with_reducible refine (impl_EntryRight.calls k _ _ l0_0 _ _ l0_1 true _ ?side1 ?side2 ?side3 ?side4 A2.out).mono ?_); (case side1 => repeat (first | exact (Kd.C_below HR0_0.out HB.out) | (with_reducible refine Kd.C_alloc ?_ _) | (with_reducible refine Kd.C_drewN ?_ _) | (with_reducible refine Kd.C_drew ?_))); (case side2 => exact HC0_0.out); (case side3 => repeat (first | exact (Kd.C_below HR0_1.out HB.out) | (with_reducible refine Kd.C_alloc ?_ _) | (with_reducible refine Kd.C_drewN ?_ _) | (with_reducible refine Kd.C_drew ?_))); (case side4 => exact HC0_1.out); rintro e w7 ⟨rfl, hb⟩; refine ⟨_, rfl, ?_⟩; have n0_ := Aside0.mk (blk_below (g := gb354) (o := .cells #[.slice A0_0 l0_0.length c0_0, .slice A0_1 l0_1.length c0_1] 71 (0, 0)) (BKz BK354) hb); have n1_ := Aside0.mk (below_step (HBb GE354) hb); clear BK354; clear HB; have BK354 := n0_; have HB := n1_; clear n0_ n1_; (try clear hb); (try clear hb2); (try clear hk); (try clear hi); have hcz8_0 : w7.cell? ⟨gb354, 0, none⟩ = some (.slice A0_0 l0_0.length c0_0) := (blk_cell BK354.out 0).trans rfl; have hcz8_1 : w7.cell? ⟨gb354, 1, none⟩ = some (.slice A0_1 l0_1.length c0_1) := (blk_cell BK354.out 1).trans rfl; have hfz8_0 := blk_frozen BK354.out 0; have hfz8_1 := blk_frozen BK354.out 1) | ((with_reducible refine gate_callee (f := 119) rfl ?_); refine goesL_ (some 7) rfl rfl Tryd.func119 (by kernel_rfl) rfl #[.agg #[.slice A0_0 l0_0.length c0_0, .slice A0_1 l0_1.length c0_1]] rfl MPz ?_; (with_reducible refine (impl_Entry_bytes.calls k _ _ l0_0 _ _ l0_1 t356 _ ?side1 ?side2 ?side3 ?side4 A4.out).mono ?_); (case side1 => repeat (first | exact (Kd.C_below HR0_0.out HB.out) | (with_reducible refine Kd.C_alloc ?_ _) | (with_reducible refine Kd.C_drewN ?_ _) | (with_reducible refine Kd.C_drew ?_))); (case side2 => exact HC0_0.out); (case side3 => repeat (first | exact (Kd.C_below HR0_1.out HB.out) | (with_reducible refine Kd.C_alloc ?_ _) | (with_reducible refine Kd.C_drewN ?_ _) | (with_reducible refine Kd.C_drew ?_))); (case side4 => exact HC0_1.out); rintro e w9 ⟨rfl, hb⟩; refine ⟨_, rfl, ?_⟩; have n0_ := Aside0.mk (blk_below (g := gb354) (o := .cells #[.slice A0_0 l0_0.length c0_0, .slice A0_1 l0_1.length c0_1] 71 (0, 0)) (BKz BK354) hb); have n1_ := Aside0.mk (below_step (HBb GE354) hb); clear BK354; clear HB; have BK354 := n0_; have HB := n1_; clear n0_ n1_; (try clear hb); (try clear hb2); (try clear hk); (try clear hi)))
  go_ret
  exact ⟨EZa, HBb GE354⟩
 ·replace c3 := Bool.eq_false_iff.mpr c3
  subst c3
  have H1 : (some (⟨#[]⟩ : ByteArray)) = some r := by rw [if_neg (show ¬ (false = true) by decide)] at H; exact H
  clear H
  have H := H1
  clear H1
  obtain rfl := Option.some.inj H
  go_enter Tryd.func67, Tryd.ntmps67
  go_wp2_with (first | ((with_reducible refine gate_dst (N := 1) rfl ?_); refine box_event ?hg (N := 1) ?hd (cs := #[.slice A0_0 l0_0.length c0_0, .slice A0_1 l0_1.length c0_1]) (t := 71) ?hr ?_; (case hd => rfl); (case hg => rfl); (case hr => first | (go_simp; done) | (go_simp; rfl)); intro gb354 hg w10 hbox hb; have n0_ := Aside0.mk (below_step HBa hb); have n1_ := Aside0.mk (hbox); have n2_ := Aside0.mk ((by rw [hg]; exact (below_size HBa) : w.heap.size ≤ gb354)); have n3_ := Aside0.mk ((by rw [hg]; exact (below_size HBa) : w.heap.size ≤ gb354)); clear HB; have HB := n0_; have BK354 := n1_; have GW354 := n2_; have GE354 := n3_; clear n0_ n1_ n2_ n3_; clear hb hbox hg; have hcz11_0 : w10.cell? ⟨gb354, 0, none⟩ = some (.slice A0_0 l0_0.length c0_0) := (blk_cell BK354.out 0).trans rfl; have hcz11_1 : w10.cell? ⟨gb354, 1, none⟩ = some (.slice A0_1 l0_1.length c0_1) := (blk_cell BK354.out 1).trans rfl; have hfz11_0 := blk_frozen BK354.out 0; have hfz11_1 := blk_frozen BK354.out 1) | ((with_reducible refine gate_callee (f := 55) rfl ?_); refine goesL_ (some 4) rfl rfl Tryd.func55 (by kernel_rfl) rfl #[.agg #[.slice A0_0 l0_0.length c0_0, .slice A0_1 l0_1.length c0_1]] rfl MPz ?_; (with_reducible refine (impl_EntryRight.calls k _ _ l0_0 _ _ l0_1 false _ ?side1 ?side2 ?side3 ?side4 A2.out).mono ?_); (case side1 => repeat (first | exact (Kd.C_below HR0_0.out HB.out) | (with_reducible refine Kd.C_alloc ?_ _) | (with_reducible refine Kd.C_drewN ?_ _) | (with_reducible refine Kd.C_drew ?_))); (case side2 => exact HC0_0.out); (case side3 => repeat (first | exact (Kd.C_below HR0_1.out HB.out) | (with_reducible refine Kd.C_alloc ?_ _) | (with_reducible refine Kd.C_drewN ?_ _) | (with_reducible refine Kd.C_drew ?_))); (case side4 => exact HC0_1.out); rintro e w12 ⟨rfl, hb⟩; refine ⟨_, rfl, ?_⟩; have n0_ := Aside0.mk (blk_below (g := gb354) (o := .cells #[.slice A0_0 l0_0.length c0_0, .slice A0_1 l0_1.length c0_1] 71 (0, 0)) (BKz BK354) hb); have n1_ := Aside0.mk (below_step (HBb GE354) hb); clear BK354; clear HB; have BK354 := n0_; have HB := n1_; clear n0_ n1_; (try clear hb); (try clear hb2); (try clear hk); (try clear hi)))
  go_ret
  exact ⟨EZa, HBb GE354⟩
end Go.Proofs.YtdbboelacgehoaaDoor.PFnExactEntryBytes
