-- Laid by this session's own program out of the translation; Lean checks it.
import Derived.Test.YtgkjlfimjnhbbaaGreatDoorQFnExactMayChangex0
import Derived.Test.YtgkjlfimjnhbbaaGreatDoorQFnExactMayChangex3
import Derived.Test.YtgkjlfimjnhbbaaGreatDoorQFnExactMayChangex6
namespace Go.Proofs.YtgkjlfimjnhbbaaGreatDoor.PFnExactMayChange
open Go.RowKit Go.Proofs.YtgkjlfimjnhbbaaGreatDoorW.PrintWords Go.Proofs.YtgkjlfimjnhbbaaGreatDoorW.PrintLast Go.Proofs.YtgkjlfimjnhbbaaGreatDoorW.PrintMore
attribute [local go_sem] max2_int min2_int max_two min_two max_three min_three max_four min_four   -- for this text's walks alone
set_option linter.unusedVariables false
set_option linter.unusedSimpArgs false
def spec_EntryRight.f (k : Nat) (l0_0 : List (S98)) (l0_1 : List (S127)) : Option (Bool) := if (l0_0.length : Int) > 0 then ((spec_DnRight.f k l0_0).bind fun t173 => (if t173 = true then ((spec_l03Attrs.f k l0_1).bind fun t174 => (some t174)) else (some false))) else (some false)
theorem spec_EntryRight.mono : ∀ a0 a1 k, LeO (spec_EntryRight.f k a0 a1) (spec_EntryRight.f (k + 1) a0 a1) := by
 intro a0 a1 k
 unfold spec_EntryRight.f
 repeat' first
   | (with_reducible exact spec_DnRight.mono _ _)
   | (with_reducible exact spec_l03Attrs.mono _ _)
   | (with_reducible exact LeO.refl _)
   | (with_reducible exact LeO.none _)
   | (with_reducible refine LeO.ite ?_ ?_)
   | (with_reducible refine LeO.bind ?_ (fun _ => ?_))
   | exact spec_DnRight.mono _ _
   | exact spec_l03Attrs.mono _ _
   | exact LeO.none _
   | refine LeO.ite ?_ ?_
   | refine LeO.bind ?_ (fun _ => ?_)
set_option maxHeartbeats 8000000 in
set_option maxRecDepth 100000 in
theorem spec_EntryRight.calls (k : Nat) (A0_0 : Option Addr) (c0_0 : Nat) (l0_0 : List (S98)) (A0_1 : Option Addr) (c0_1 : Nat) (l0_1 : List (S127)) (r : Bool) (w : World) (hr0_0 : Kd.C k98 w A0_0 l0_0.length l0_0) (hc0_0 : l0_0.length ≤ c0_0) (hr0_1 : Kd.C k127 w A0_1 l0_1.length l0_1) (hc0_1 : l0_1.length ≤ c0_1) (h : spec_EntryRight.f k l0_0 l0_1 = some r) :
  Calls Tryz.prog 46 #[.agg #[.slice A0_0 l0_0.length c0_0, .slice A0_1 l0_1.length c0_1]] w fun e w' => e = .returned (.bool r) ∧ Below w.heap.size w w' := by
 have hu37 := Tryz.underlying37
 have HR0_0 := Aside0.mk hr0_0
 have HC0_0 := Aside0.mk hc0_0
 clear hr0_0 hc0_0
 have HR0_1 := Aside0.mk hr0_1
 have HC0_1 := Aside0.mk hc0_1
 clear hr0_1 hc0_1
 have HB := Aside0.mk (Below.refl w.heap.size w)
 have H : (if (l0_0.length : Int) > 0 then ((spec_DnRight.f k l0_0).bind fun t173 => (if t173 = true then ((spec_l03Attrs.f k l0_1).bind fun t174 => (some t174)) else (some false))) else (some false)) = some r := h
 clear h
 by_cases c2 : (l0_0.length : Int) > 0
 rotate_left
 ·rw [if_neg c2] at H
  have c2b0 : decide (0 < (l0_0.length : Int)) = false := decide_eq_false c2
  have c2b1 : decide (0 < l0_0.length) = false := decide_eq_false (by omega)
  clear c2
  obtain rfl := Option.some.inj H
  go_enter Tryz.func46, Tryz.ntmps46
  go_wp2_with (first | ((with_reducible refine gate_dst (N := 1) rfl ?_); refine box_event ?hg (N := 1) ?hd (cs := #[.slice A0_0 l0_0.length c0_0, .slice A0_1 l0_1.length c0_1]) (t := 37) ?hr ?_; (case hd => rfl); (case hg => rfl); (case hr => first | (go_simp; done) | (go_simp; rfl)); intro gb172 hg w14 hbox hb; have n0_ := Aside0.mk (below_step HBa hb); have n1_ := Aside0.mk (hbox); have n2_ := BSz w hg HBa; have n3_ := BSz w hg HBa; clear HB; have HB := n0_; have BK172 := n1_; have GW172 := n2_; have GE172 := n3_; clear n0_ n1_ n2_ n3_; clear hb hbox hg; have hcz15_0 := C1z BK172; have hcz15_1 := C2z BK172; have hfz15_0 := blk_frozen BK172.out 0; have hfz15_1 := blk_frozen BK172.out 1))
  go_ret
  exact ⟨EZa, HBb GE172⟩
 rw [if_pos c2] at H
 have c2b0 : decide (0 < (l0_0.length : Int)) = true := decide_eq_true c2
 have c2b1 : decide (0 < l0_0.length) = true := decide_eq_true (by omega)
 clear c2
 replace H := Option.bind_eq_some_iff.mp H
 obtain ⟨t173, A30, H⟩ := H
 replace H : (if t173 = true then ((spec_l03Attrs.f k l0_1).bind fun t174 => (some t174)) else (some false)) = some r := H
 have A3 := Aside0.mk A30
 clear A30
 by_cases c4 : t173 = true
 ·subst c4
  have H1 : ((spec_l03Attrs.f k l0_1).bind fun t174 => (some t174)) = some r := by rw [if_pos rfl] at H; exact H
  clear H
  have H := H1
  clear H1
  replace H := Option.bind_eq_some_iff.mp H
  obtain ⟨t174, A50, H⟩ := H
  replace H : (some t174) = some r := H
  have A5 := Aside0.mk A50
  clear A50
  obtain rfl := Option.some.inj H
  go_enter Tryz.func46, Tryz.ntmps46
  go_wp2_with (first | ((with_reducible refine gate_dst (N := 1) rfl ?_); refine box_event ?hg (N := 1) ?hd (cs := #[.slice A0_0 l0_0.length c0_0, .slice A0_1 l0_1.length c0_1]) (t := 37) ?hr ?_; (case hd => rfl); (case hg => rfl); (case hr => first | (go_simp; done) | (go_simp; rfl)); intro gb172 hg w6 hbox hb; have n0_ := Aside0.mk (below_step HBa hb); have n1_ := Aside0.mk (hbox); have n2_ := BSz w hg HBa; have n3_ := BSz w hg HBa; clear HB; have HB := n0_; have BK172 := n1_; have GW172 := n2_; have GE172 := n3_; clear n0_ n1_ n2_ n3_; clear hb hbox hg; have hcz7_0 := C1z BK172; have hcz7_1 := C2z BK172; have hfz7_0 := blk_frozen BK172.out 0; have hfz7_1 := blk_frozen BK172.out 1) | (go_at_call 25; (with_reducible refine (spec_DnRight.calls k _ _ l0_0 true _ ?side1 ?side2 A3.out).mono ?_); (case side1 => exact KCz (Kd.C_below HR0_0.out HB.out)); (case side2 => exact HC0_0.out); rintro e w8 ⟨rfl, hb⟩; have n0_ := BBz BK172 hb; have n1_ := Aside0.mk (below_step (HBb GE172) hb); clear BK172; clear HB; have BK172 := n0_; have HB := n1_; clear n0_ n1_; (try clear hb); (try clear hb2); (try clear hk); (try clear hi); have hcz9_0 := C1z BK172; have hcz9_1 := C2z BK172; have hfz9_0 := blk_frozen BK172.out 0; have hfz9_1 := blk_frozen BK172.out 1) | (go_at_call 91; (with_reducible refine (spec_l03Attrs.calls k _ _ l0_1 t174 _ ?side1 ?side2 A5.out).mono ?_); (case side1 => exact KCz (Kd.C_below HR0_1.out HB.out)); (case side2 => exact HC0_1.out); rintro e w10 ⟨rfl, hb⟩; have n0_ := BBz BK172 hb; have n1_ := Aside0.mk (below_step (HBb GE172) hb); clear BK172; clear HB; have BK172 := n0_; have HB := n1_; clear n0_ n1_; (try clear hb); (try clear hb2); (try clear hk); (try clear hi)))
  go_ret
  exact ⟨EZa, HBb GE172⟩
 replace c4 := Bool.eq_false_iff.mpr c4
 subst c4
 have H1 : (some false) = some r := by rw [if_neg (show ¬ (false = true) by decide)] at H; exact H
 clear H
 have H := H1
 clear H1
 obtain rfl := Option.some.inj H
 go_enter Tryz.func46, Tryz.ntmps46
 go_wp2_with (first | ((with_reducible refine gate_dst (N := 1) rfl ?_); refine box_event ?hg (N := 1) ?hd (cs := #[.slice A0_0 l0_0.length c0_0, .slice A0_1 l0_1.length c0_1]) (t := 37) ?hr ?_; (case hd => rfl); (case hg => rfl); (case hr => first | (go_simp; done) | (go_simp; rfl)); intro gb172 hg w11 hbox hb; have n0_ := Aside0.mk (below_step HBa hb); have n1_ := Aside0.mk (hbox); have n2_ := BSz w hg HBa; have n3_ := BSz w hg HBa; clear HB; have HB := n0_; have BK172 := n1_; have GW172 := n2_; have GE172 := n3_; clear n0_ n1_ n2_ n3_; clear hb hbox hg; have hcz12_0 := C1z BK172; have hcz12_1 := C2z BK172; have hfz12_0 := blk_frozen BK172.out 0; have hfz12_1 := blk_frozen BK172.out 1) | (go_at_call 25; (with_reducible refine (spec_DnRight.calls k _ _ l0_0 false _ ?side1 ?side2 A3.out).mono ?_); (case side1 => exact KCz (Kd.C_below HR0_0.out HB.out)); (case side2 => exact HC0_0.out); rintro e w13 ⟨rfl, hb⟩; have n0_ := BBz BK172 hb; have n1_ := Aside0.mk (below_step (HBb GE172) hb); clear BK172; clear HB; have BK172 := n0_; have HB := n1_; clear n0_ n1_; (try clear hb); (try clear hb2); (try clear hk); (try clear hi)))
 go_ret
 exact ⟨EZa, HBb GE172⟩
def spec_l02Key.l0 : Nat → List (S98) → ByteArray → Int → Option (ByteArray)
 | 0, _, _, _ => none
 | k + 1, x0, x3, x4 => if x4 ≥ 0 then (if x3.size + 1 ≤ 9223372036854775807 then (if 0 ≤ x4 then (if x4 < (x0.length : Int) then (if (x3 ++ (⟨#[1]⟩ : ByteArray)).size + ((rd_T98 x0 x4).f0).size ≤ 9223372036854775807 then (if ((x3 ++ (⟨#[1]⟩ : ByteArray)) ++ ((rd_T98 x0 x4).f0)).size + 1 ≤ 9223372036854775807 then ((spec_Norm.f k ((rd_T98 x0 x4).f1)).bind fun t177 => (if (((x3 ++ (⟨#[1]⟩ : ByteArray)) ++ ((rd_T98 x0 x4).f0)) ++ (⟨#[61]⟩ : ByteArray)).size + t177.size ≤ 9223372036854775807 then (spec_l02Key.l0 k x0 ((((x3 ++ (⟨#[1]⟩ : ByteArray)) ++ ((rd_T98 x0 x4).f0)) ++ (⟨#[61]⟩ : ByteArray)) ++ t177) (wrap64 (x4 - 1))) else (none))) else (none)) else (none)) else (none)) else (none)) else (none)) else (some x3)
def spec_l02Key.f (k : Nat) (l0 : List (S98)) : Option (ByteArray) := spec_l02Key.l0 k l0 (⟨#[]⟩ : ByteArray) (wrap64 ((l0.length : Int) - 1))
theorem spec_l02Key.mono_l : ∀ k, (∀ y0 y1 y2, LeO (spec_l02Key.l0 k y0 y1 y2) (spec_l02Key.l0 (k + 1) y0 y1 y2))
 | 0 => fun _ _ _ r h => by simp [spec_l02Key.l0] at h
 | k + 1 => by
  have ih0 := spec_l02Key.mono_l k
  ·intro y0 y1 y2
   unfold spec_l02Key.l0
   repeat' first
   | (with_reducible exact ih0 _ _ _)
   | (with_reducible exact spec_Norm.mono _ _)
   | (with_reducible exact LeO.refl _)
   | (with_reducible exact LeO.none _)
   | (with_reducible refine LeO.ite ?_ ?_)
   | (with_reducible refine LeO.bind ?_ (fun _ => ?_))
   | exact ih0 _ _ _
   | exact spec_Norm.mono _ _
   | exact LeO.none _
   | refine LeO.ite ?_ ?_
   | refine LeO.bind ?_ (fun _ => ?_)
theorem spec_l02Key.mono : ∀ a0 k, LeO (spec_l02Key.f k a0) (spec_l02Key.f (k + 1) a0) := by
 intro a0 k
 have ih0 := spec_l02Key.mono_l k
 unfold spec_l02Key.f
 repeat' first
   | (with_reducible exact ih0 _ _ _)
   | (with_reducible exact spec_Norm.mono _ _)
   | (with_reducible exact LeO.refl _)
   | (with_reducible exact LeO.none _)
   | (with_reducible refine LeO.ite ?_ ?_)
   | (with_reducible refine LeO.bind ?_ (fun _ => ?_))
   | exact ih0 _ _ _
   | exact spec_Norm.mono _ _
   | exact LeO.none _
   | refine LeO.ite ?_ ?_
   | refine LeO.bind ?_ (fun _ => ?_)
def spec_l02Key.T5 : Bool × List (List Nat × List Nat) := (true, [([], []), ([0], [0]), ([], []), ([], []), ([2, 3], [2, 3]), ([4], [4]), ([5], [5]), ([1, 6], [1, 6]), ([7], [7]), ([], []), ([], []), ([9, 10], [9, 10]), ([11], [11]), ([12], [12]), ([13], [13]), ([8, 14], [8, 14]), ([15, 14, 0, 1, 2, 3, 4, 5, 6, 7, 8, 9, 10, 11, 12, 13, 14, 15], [0, 15])])
def spec_l02Key.B5 : List Nat := [0, 1, 0, 0, 12, 28, 60, 127, 255, 0, 0, 1536, 3584, 7680, 15872, 32767, 65535]
theorem spec_l02Key.tab5 : rtab .any (opsOf Tryz.f130 5) = spec_l02Key.T5 := by kernel_rfl
theorem spec_l02Key.bits5 : waitsOk spec_l02Key.T5.2 spec_l02Key.B5 = true := by kernel_rfl
set_option maxHeartbeats 8000000 in
set_option maxRecDepth 100000 in
theorem spec_l02Key.calls (k : Nat) (A0 : Option Addr) (c0 : Nat) (l0 : List (S98)) (r : ByteArray) (w : World) (hr0 : Kd.C k98 w A0 l0.length l0) (hc0 : l0.length ≤ c0) (h : spec_l02Key.f k l0 = some r) :
  Calls Tryz.prog 130 #[.slice A0 l0.length c0] w fun e w' => e = .returned (.string r) ∧ Below w.heap.size w w' := by
 have HR0 := Aside0.mk hr0
 have HC0 := Aside0.mk hc0
 clear hr0 hc0
 have HB := Aside0.mk (Below.refl w.heap.size w)
 have H : (spec_l02Key.l0 k l0 (⟨#[]⟩ : ByteArray) (wrap64 ((l0.length : Int) - 1))) = some r := h
 clear h
 have H' := Aside0.mk H
 clear H
 go_enter Tryz.func130, Tryz.ntmps130
 go_wp2
 go_loopg [3, 4] k (fun kq v3 v4 w' => ∃ (x3_1 : ByteArray) (x4_1 : Int), v3 = .string x3_1 ∧ v4 = .int .i64 x4_1 ∧ Aside0 (spec_l02Key.l0 kq l0 x3_1 x4_1 = some r) ∧ Aside0 (kq ≤ k) ∧ Aside0 (Below w.heap.size w w'))
 case atStart => exact ⟨((⟨#[]⟩ : ByteArray)), (wrap64 ((l0.length : Int) - 1)), EZc, EZc, H', ⟨Nat.le_refl _⟩, ⟨HBa⟩⟩
 case round =>
  clear H'
  try clear c1
  obtain ⟨x3_1, x4_1, rfl, rfl, HA, HK1, HB⟩ := hrel
  cases gk with
  | zero => exact absurd HA.out (by simp [spec_l02Key.l0])
  | succ k1 =>
   have H := HA.out
   clear HA
   simp only [spec_l02Key.l0] at H
   by_cases c2 : x4_1 ≥ 0
   rotate_left
   ·rw [if_neg c2] at H
    have c2b0 : decide (0 ≤ x4_1) = false := decide_eq_false c2
    clear c2
    obtain rfl := Option.some.inj H
    go_wp2
    go_ret
    exact ⟨EZa, HBa⟩
   rw [if_pos c2] at H
   have c2b0 : decide (0 ≤ x4_1) = true := decide_eq_true c2
   clear c2
   by_cases c3 : x3_1.size + 1 ≤ 9223372036854775807
   rotate_left
   ·rw [if_neg c3] at H
    exact absurd H (by simp)
   rw [if_pos c3] at H
   have c3b0 := eq_true c3
   have c3b1 : decide (x3_1.size + 1 ≤ 9223372036854775807) = true := decide_eq_true c3
   try have c3b2 : (9223372036854775807 < x3_1.size + 1) = False := eq_false (Nat.not_lt.2 c3)
   by_cases c4 : 0 ≤ x4_1
   rotate_left
   ·rw [if_neg c4] at H
    exact absurd H (by simp)
   rw [if_pos c4] at H
   have c4b0 : decide (0 ≤ x4_1) = true := decide_eq_true c4
   clear c4
   by_cases c5 : x4_1 < (l0.length : Int)
   rotate_left
   ·rw [if_neg c5] at H
    exact absurd H (by simp)
   rw [if_pos c5] at H
   have c5b0 : decide (x4_1 < (l0.length : Int)) = true := decide_eq_true c5
   clear c5
   by_cases c6 : (x3_1 ++ (⟨#[1]⟩ : ByteArray)).size + ((rd_T98 l0 x4_1).f0).size ≤ 9223372036854775807
   rotate_left
   ·rw [if_neg c6] at H
    exact absurd H (by simp)
   rw [if_pos c6] at H
   have c6b0 := eq_true c6
   have c6b1 : decide ((x3_1 ++ (⟨#[1]⟩ : ByteArray)).size + ((rd_T98 l0 x4_1).f0).size ≤ 9223372036854775807) = true := decide_eq_true c6
   have c6n : ¬ (9223372036854775807 < (x3_1 ++ (⟨#[1]⟩ : ByteArray)).size + ((rd_T98 l0 x4_1).f0).size) := Nat.not_lt.2 c6
   try simp only [ByteArray.size_append, show (⟨#[1]⟩ : ByteArray).size = 1 from rfl] at c6n
   try have c6b2 : (9223372036854775807 < (x3_1 ++ (⟨#[1]⟩ : ByteArray)).size + ((rd_T98 l0 x4_1).f0).size) = False := eq_false (Nat.not_lt.2 c6)
   by_cases c7 : ((x3_1 ++ (⟨#[1]⟩ : ByteArray)) ++ ((rd_T98 l0 x4_1).f0)).size + 1 ≤ 9223372036854775807
   rotate_left
   ·rw [if_neg c7] at H
    exact absurd H (by simp)
   rw [if_pos c7] at H
   have c7b0 := eq_true c7
   have c7b1 : decide (((x3_1 ++ (⟨#[1]⟩ : ByteArray)) ++ ((rd_T98 l0 x4_1).f0)).size + 1 ≤ 9223372036854775807) = true := decide_eq_true c7
   have c7n : ¬ (9223372036854775807 < ((x3_1 ++ (⟨#[1]⟩ : ByteArray)) ++ ((rd_T98 l0 x4_1).f0)).size + 1) := Nat.not_lt.2 c7
   try simp only [ByteArray.size_append, show (⟨#[1]⟩ : ByteArray).size = 1 from rfl] at c7n
   try have c7b2 : (9223372036854775807 < ((x3_1 ++ (⟨#[1]⟩ : ByteArray)) ++ ((rd_T98 l0 x4_1).f0)).size + 1) = False := eq_false (Nat.not_lt.2 c7)
   replace H := Option.bind_eq_some_iff.mp H
   obtain ⟨t177, A80, H⟩ := H
   replace H : (if (((x3_1 ++ (⟨#[1]⟩ : ByteArray)) ++ ((rd_T98 l0 x4_1).f0)) ++ (⟨#[61]⟩ : ByteArray)).size + t177.size ≤ 9223372036854775807 then (spec_l02Key.l0 k1 l0 ((((x3_1 ++ (⟨#[1]⟩ : ByteArray)) ++ ((rd_T98 l0 x4_1).f0)) ++ (⟨#[61]⟩ : ByteArray)) ++ t177) (wrap64 (x4_1 - 1))) else (none)) = some r := H
   have A8 := Aside0.mk A80
   clear A80
   by_cases c9 : (((x3_1 ++ (⟨#[1]⟩ : ByteArray)) ++ ((rd_T98 l0 x4_1).f0)) ++ (⟨#[61]⟩ : ByteArray)).size + t177.size ≤ 9223372036854775807
   rotate_left
   ·rw [if_neg c9] at H
    exact absurd H (by simp)
   rw [if_pos c9] at H
   have c9b0 := eq_true c9
   have c9b1 : decide ((((x3_1 ++ (⟨#[1]⟩ : ByteArray)) ++ ((rd_T98 l0 x4_1).f0)) ++ (⟨#[61]⟩ : ByteArray)).size + t177.size ≤ 9223372036854775807) = true := decide_eq_true c9
   have c9n : ¬ (9223372036854775807 < (((x3_1 ++ (⟨#[1]⟩ : ByteArray)) ++ ((rd_T98 l0 x4_1).f0)) ++ (⟨#[61]⟩ : ByteArray)).size + t177.size) := Nat.not_lt.2 c9
   try simp only [ByteArray.size_append, show (⟨#[1]⟩ : ByteArray).size = 1 from rfl, show (⟨#[61]⟩ : ByteArray).size = 1 from rfl] at c9n
   try have c9b2 : (9223372036854775807 < (((x3_1 ++ (⟨#[1]⟩ : ByteArray)) ++ ((rd_T98 l0 x4_1).f0)) ++ (⟨#[61]⟩ : ByteArray)).size + t177.size) = False := eq_false (Nat.not_lt.2 c9)
   have H' := Aside0.mk H
   clear H
   try go_wp2
   have n0_ := Aside0.mk (below_drew1 HB.out)
   clear HB
   have HB := n0_
   clear n0_
   have p175 : 0 ≤ (x4_1 : Int) := ODz
   have q175 : x4_1 < (l0.length : Int) := ODz
   obtain ⟨ad175, e175, hx175_0, hx175_1⟩ := at_T98 HR0.out x4_1 p175 q175
   have hw175_1 := hx175_1
   have hw175_0 := hx175_0
   cases e175
   replace hx175_0 := HXz HB hx175_0
   replace hx175_1 := HXz HB hx175_1
   replace p175 := eq_true p175
   replace q175 := eq_true q175
   have p176 : 0 ≤ (x4_1 : Int) := ODz
   have q176 : x4_1 < (l0.length : Int) := ODz
   obtain ⟨ad176, e176, hx176_0, hx176_1⟩ := at_T98 HR0.out x4_1 p176 q176
   have hw176_1 := hx176_1
   have hw176_0 := hx176_0
   obtain rfl : ad175 = ad176 := (by injection e176)
   replace hx176_0 := HXz HB hx176_0
   replace hx176_1 := HXz HB hx176_1
   replace p176 := eq_true p176
   replace q176 := eq_true q176
   refine start_ (n := 17) (S := fun w' => w'.cell? (ad175.add ((x4_1).toNat * 2)) = some (.string ((rd_T98 l0 x4_1).f0)) ∧ w'.cell? ⟨(ad175.add ((x4_1).toNat * 2)).block, (ad175.add ((x4_1).toNat * 2)).off + 1, none⟩ = some (.string ((rd_T98 l0 x4_1).f1)) ∧ w'.cell? (ad175.add ((x4_1).toNat * 2)) = some (.string ((rd_T98 l0 x4_1).f0)) ∧ w'.cell? ⟨(ad175.add ((x4_1).toNat * 2)).block, (ad175.add ((x4_1).toNat * 2)).off + 1, none⟩ = some (.string ((rd_T98 l0 x4_1).f1))) (ds := []) (bz 17 0) (by kernel_rfl) rfl (by kernel_rfl) ⟨(HXz HB hw175_0 :), (HXz HB hw175_1 :), (HXz HB hw176_0 :), (HXz HB hw176_1 :)⟩ (fun hHeld => ?_); refine with_tabW spec_l02Key.tab5 spec_l02Key.bits5 (fun HT_ HW_ => ?_)
   generalize wr.drew = w10 at HB hx175_0 hx175_1 hx176_0 hx176_1 hHeld ⊢
   refine PYz 0 12 (bz 17 1) rfl rfl (any_of HT_.out (by kernel_rfl)) ?_
   refine PYz 1 13 (bz 17 3) rfl rfl (any_of HT_.out (by kernel_rfl)) ?_
   refine PYz 2 14 (bz 17 7) rfl rfl (any_of HT_.out (by kernel_rfl)) ?_
   refine PYz 3 15 (bz 17 15) rfl rfl (any_of HT_.out (by kernel_rfl)) ?_
   refine PYz 4 16 (bz 17 31) rfl rfl (any_of HT_.out (by kernel_rfl)) ?_
   refine PYz 5 17 (bz 17 63) rfl rfl (any_of HT_.out (by kernel_rfl)) ?_
   refine PYz 9 21 (bz 17 575) rfl rfl (any_of HT_.out (by kernel_rfl)) ?_
   refine PYz 10 22 (bz 17 1599) rfl rfl (any_of HT_.out (by kernel_rfl)) ?_
   refine PYz 11 23 (bz 17 3647) rfl rfl (any_of HT_.out (by kernel_rfl)) ?_
   refine PYz 12 24 (bz 17 7743) rfl rfl (any_of HT_.out (by kernel_rfl)) ?_
   refine take_ (i := 6) (N := some 18) (v := ?_) (a' := ?_) (bz 17 7807) rfl rfl (take_ofW HT_.out HW_.out (by kernel_rfl)) (fun _ _ _ h => h) (Or.inl ⟨by rfl, ?_⟩) hHeld ?_ ?_
   rotate_left
   ·rintro w' ⟨s0, s1, s2, s3⟩
    go_simp
    with_reducible rfl
   rotate_left
   ·simp only [PUz]
    rfl
   refine PYz 7 19 (bz 17 7935) rfl rfl (any_of HT_.out (by kernel_rfl)) ?_
   refine PYz 8 20 (bz 17 8191) rfl rfl (any_of HT_.out (by kernel_rfl)) ?_
   refine take_ (i := 13) (N := some 25) (v := ?_) (a' := ?_) (bz 17 16383) rfl rfl (take_ofW HT_.out HW_.out (by kernel_rfl)) (fun _ _ _ h => h) (Or.inl ⟨by rfl, ?_⟩) hHeld ?_ ?_
   rotate_left
   ·rintro w' ⟨s0, s1, s2, s3⟩
    go_simp
    with_reducible rfl
   rotate_left
   ·simp only [PUz]
    rfl
   refine one_ (i := 14) (N := some 26) (bz 17 32767) rfl rfl (one_of HT_.out (by kernel_rfl)) (by decide) (fun K hK => ?_)
   refine goes_ Tryz.func115 (by kernel_rfl) rfl #[.string ((rd_T98 l0 x4_1).f1)] (by rfl) rfl rfl MPz ?_
   with_reducible refine (spec_Norm.calls k1 ((rd_T98 l0 x4_1).f1) t177 _ A8.out).mono ?_
   rintro e w11 ⟨rfl, hb⟩
   refine ⟨_, rfl, ?_⟩
   have n0_ := Aside0.mk (below_step HBa hb)
   clear HB
   have HB := n0_
   clear n0_
   (try clear hb)
   (try clear hb2)
   (try clear hk)
   (try clear hi)
   refine hK.out _ _ ⟨(HXz HB hw175_0 :), (HXz HB hw175_1 :), (HXz HB hw176_0 :), (HXz HB hw176_1 :)⟩ (fun hHeld => ?_)
   clear hK K
   refine norm_ (a' := ?_) ?_ ?_
   rotate_left
   ·show Act.put _ (some 26) _ = _
    simp only [PUz]
    rfl
   refine PYz 15 27 (bz 17 65535) rfl rfl (any_of HT_.out (by kernel_rfl)) ?_
   refine PYz 16 3 (bz 17 131071) rfl rfl (any_of HT_.out (by kernel_rfl)) ?_
   refine done_ (done_of HT_.out (by kernel_rfl)) ?_
   try go_wp2
   go_roundg k1
   case measure => have := HK1.out; omega
   case rel => exact ⟨((((x3_1 ++ (⟨#[1]⟩ : ByteArray)) ++ ((rd_T98 l0 x4_1).f0)) ++ (⟨#[61]⟩ : ByteArray)) ++ t177), (wrap64 (x4_1 - 1)), EZc, EZc, H', ⟨by have := HK1.out; omega⟩, ⟨HBa⟩⟩
def spec_DnUnder.j0 : Nat → List (S98) → List (S98) → Bool → Option (Bool)
 | 0, _, _, _ => none
 | k + 1, x0, x1, x29 => if x29 = true then (some false) else (if 0 ≤ (wrap64 ((x0.length : Int) - (x1.length : Int))) then (if (wrap64 ((x0.length : Int) - (x1.length : Int))) ≤ (x0.length : Int) then ((spec_l02Key.f k (x0.drop ((wrap64 ((x0.length : Int) - (x1.length : Int))) : Int).toNat)).bind fun t184 => ((spec_l02Key.f k x1).bind fun t185 => (some (t184.toList == t185.toList)))) else (none)) else (none))
def spec_DnUnder.f (k : Nat) (l0 : List (S98)) (l1 : List (S98)) : Option (Bool) := if (l0.length : Int) > 400 then (spec_DnUnder.j0 k l0 l1 true) else (if (l1.length : Int) > 400 then (spec_DnUnder.j0 k l0 l1 true) else ((spec_DnRight.f k l0).bind fun t178 => (if t178 = true then ((spec_DnRight.f k l1).bind fun t179 => (if t179 = true then (spec_DnUnder.j0 k l0 l1 (decide ((l1.length : Int) > (l0.length : Int)))) else (spec_DnUnder.j0 k l0 l1 true))) else (spec_DnUnder.j0 k l0 l1 true))))
theorem spec_DnUnder.mono_l : ∀ k, (∀ y0 y1 y2, LeO (spec_DnUnder.j0 k y0 y1 y2) (spec_DnUnder.j0 (k + 1) y0 y1 y2))
 | 0 => fun _ _ _ r h => by simp [spec_DnUnder.j0] at h
 | k + 1 => by
  have ih0 := spec_DnUnder.mono_l k
  ·intro y0 y1 y2
   unfold spec_DnUnder.j0
   repeat' first
   | (with_reducible exact ih0 _ _ _)
   | (with_reducible exact spec_DnRight.mono _ _)
   | (with_reducible exact spec_l02Key.mono _ _)
   | (with_reducible exact LeO.refl _)
   | (with_reducible exact LeO.none _)
   | (with_reducible refine LeO.ite ?_ ?_)
   | (with_reducible refine LeO.bind ?_ (fun _ => ?_))
   | exact ih0 _ _ _
   | exact spec_DnRight.mono _ _
   | exact spec_l02Key.mono _ _
   | exact LeO.none _
   | refine LeO.ite ?_ ?_
   | refine LeO.bind ?_ (fun _ => ?_)
theorem spec_DnUnder.mono : ∀ a0 a1 k, LeO (spec_DnUnder.f k a0 a1) (spec_DnUnder.f (k + 1) a0 a1) := by
 intro a0 a1 k
 have ih0 := spec_DnUnder.mono_l k
 unfold spec_DnUnder.f
 repeat' first
   | (with_reducible exact ih0 _ _ _)
   | (with_reducible exact spec_DnRight.mono _ _)
   | (with_reducible exact spec_l02Key.mono _ _)
   | (with_reducible exact LeO.refl _)
   | (with_reducible exact LeO.none _)
   | (with_reducible refine LeO.ite ?_ ?_)
   | (with_reducible refine LeO.bind ?_ (fun _ => ?_))
   | exact ih0 _ _ _
   | exact spec_DnRight.mono _ _
   | exact spec_l02Key.mono _ _
   | exact LeO.none _
   | refine LeO.ite ?_ ?_
   | refine LeO.bind ?_ (fun _ => ?_)
set_option maxHeartbeats 8000000 in
set_option maxRecDepth 100000 in
theorem spec_DnUnder.calls (k : Nat) (A0 : Option Addr) (c0 : Nat) (l0 : List (S98)) (A1 : Option Addr) (c1 : Nat) (l1 : List (S98)) (r : Bool) (w : World) (hr0 : Kd.C k98 w A0 l0.length l0) (hc0 : l0.length ≤ c0) (hr1 : Kd.C k98 w A1 l1.length l1) (hc1 : l1.length ≤ c1) (h : spec_DnUnder.f k l0 l1 = some r) :
  Calls Tryz.prog 92 #[.slice A0 l0.length c0, .slice A1 l1.length c1] w fun e w' => e = .returned (.bool r) ∧ Below w.heap.size w w' := by
 have HR0 := Aside0.mk hr0
 have HC0 := Aside0.mk hc0
 clear hr0 hc0
 have HR1 := Aside0.mk hr1
 have HC1 := Aside0.mk hc1
 clear hr1 hc1
 have HB := Aside0.mk (Below.refl w.heap.size w)
 have H : (if (l0.length : Int) > 400 then (spec_DnUnder.j0 k l0 l1 true) else (if (l1.length : Int) > 400 then (spec_DnUnder.j0 k l0 l1 true) else ((spec_DnRight.f k l0).bind fun t178 => (if t178 = true then ((spec_DnRight.f k l1).bind fun t179 => (if t179 = true then (spec_DnUnder.j0 k l0 l1 (decide ((l1.length : Int) > (l0.length : Int)))) else (spec_DnUnder.j0 k l0 l1 true))) else (spec_DnUnder.j0 k l0 l1 true))))) = some r := h
 clear h
 have HC3 := Aside0.mk H
 clear H
 go_enter Tryz.func92, Tryz.ntmps92
 go_upto_region 1 with (fail)
 go_cut [29] (fun v29 wc => ∃ (kq : Nat) (x29_2 : Bool), v29 = .bool x29_2 ∧ Aside0 (spec_DnUnder.j0 kq l0 l1 x29_2 = some r) ∧ Aside0 (kq ≤ k) ∧ Aside0 (Below w.heap.size w wc))
 case first =>
  have H := HC3.out
  clear HC3
  by_cases c4 : (l0.length : Int) > 400
  ·rw [if_pos c4] at H
   have c4b0 : decide (400 < (l0.length : Int)) = true := decide_eq_true c4
   have c4b1 : decide (400 < l0.length) = true := decide_eq_true (by omega)
   clear c4
   (first | rw [c4b0] | rw [c4v0] | (simp only [i64_w, i32_w]; rw [c4b0]) | (simp only [i64_w, i32_w]; rw [c4v0]) | skip)
   have H' := Aside0.mk H
   clear H
   go_wp2
   go_meet
   case rel => exact ⟨_, (true), EZc, H', ⟨by first | omega | exact Nat.le_refl _⟩, ⟨HBa⟩⟩
  rw [if_neg c4] at H
  have c4b0 : decide (400 < (l0.length : Int)) = false := decide_eq_false c4
  have c4b1 : decide (400 < l0.length) = false := decide_eq_false (by omega)
  clear c4
  (first | rw [c4b0] | rw [c4v0] | (simp only [i64_w, i32_w]; rw [c4b0]) | (simp only [i64_w, i32_w]; rw [c4v0]) | skip)
  by_cases c5 : (l1.length : Int) > 400
  ·rw [if_pos c5] at H
   have c5b0 : decide (400 < (l1.length : Int)) = true := decide_eq_true c5
   have c5b1 : decide (400 < l1.length) = true := decide_eq_true (by omega)
   clear c5
   have H' := Aside0.mk H
   clear H
   go_wp2
   go_meet
   case rel => exact ⟨_, (true), EZc, H', ⟨by first | omega | exact Nat.le_refl _⟩, ⟨HBa⟩⟩
  rw [if_neg c5] at H
  have c5b0 : decide (400 < (l1.length : Int)) = false := decide_eq_false c5
  have c5b1 : decide (400 < l1.length) = false := decide_eq_false (by omega)
  clear c5
  replace H := Option.bind_eq_some_iff.mp H
  obtain ⟨t178, A60, H⟩ := H
  replace H : (if t178 = true then ((spec_DnRight.f k l1).bind fun t179 => (if t179 = true then (spec_DnUnder.j0 k l0 l1 (decide ((l1.length : Int) > (l0.length : Int)))) else (spec_DnUnder.j0 k l0 l1 true))) else (spec_DnUnder.j0 k l0 l1 true)) = some r := H
  have A6 := Aside0.mk A60
  clear A60
  by_cases c7 : t178 = true
  rotate_left
  ·replace c7 := Bool.eq_false_iff.mpr c7
   subst c7
   have H1 : (spec_DnUnder.j0 k l0 l1 true) = some r := by rw [if_neg (show ¬ (false = true) by decide)] at H; exact H
   clear H
   have H := H1
   clear H1
   have H' := Aside0.mk H
   clear H
   go_wp2_with (first | (go_at_call 25; (with_reducible refine (spec_DnRight.calls k _ _ l0 false _ ?side1 ?side2 A6.out).mono ?_); (case side1 => exact KCz (Kd.C_below HR0.out HB.out)); (case side2 => exact HC0.out); rintro e w14 ⟨rfl, hb⟩; have n0_ := Aside0.mk (below_step HBa hb); clear HB; have HB := n0_; clear n0_; (try clear hb); (try clear hb2); (try clear hk); (try clear hi)))
   go_meet
   case rel => exact ⟨_, (true), EZc, H', ⟨by first | omega | exact Nat.le_refl _⟩, ⟨HBa⟩⟩
  subst c7
  have H1 : ((spec_DnRight.f k l1).bind fun t179 => (if t179 = true then (spec_DnUnder.j0 k l0 l1 (decide ((l1.length : Int) > (l0.length : Int)))) else (spec_DnUnder.j0 k l0 l1 true))) = some r := by rw [if_pos rfl] at H; exact H
  clear H
  have H := H1
  clear H1
  replace H := Option.bind_eq_some_iff.mp H
  obtain ⟨t179, A80, H⟩ := H
  replace H : (if t179 = true then (spec_DnUnder.j0 k l0 l1 (decide ((l1.length : Int) > (l0.length : Int)))) else (spec_DnUnder.j0 k l0 l1 true)) = some r := H
  have A8 := Aside0.mk A80
  clear A80
  by_cases c9 : t179 = true
  ·subst c9
   have H1 : (spec_DnUnder.j0 k l0 l1 (decide ((l1.length : Int) > (l0.length : Int)))) = some r := by rw [if_pos rfl] at H; exact H
   clear H
   have H := H1
   clear H1
   have H' := Aside0.mk H
   clear H
   go_wp2_with (first | (go_at_call 25; (with_reducible refine (spec_DnRight.calls k _ _ l0 true _ ?side1 ?side2 A6.out).mono ?_); (case side1 => exact KCz (Kd.C_below HR0.out HB.out)); (case side2 => exact HC0.out); rintro e w10 ⟨rfl, hb⟩; have n0_ := Aside0.mk (below_step HBa hb); clear HB; have HB := n0_; clear n0_; (try clear hb); (try clear hb2); (try clear hk); (try clear hi)) | (go_at_call 25; (with_reducible refine (spec_DnRight.calls k _ _ l1 true _ ?side1 ?side2 A8.out).mono ?_); (case side1 => exact KCz (Kd.C_below HR1.out HB.out)); (case side2 => exact HC1.out); rintro e w11 ⟨rfl, hb⟩; have n0_ := Aside0.mk (below_step HBa hb); clear HB; have HB := n0_; clear n0_; (try clear hb); (try clear hb2); (try clear hk); (try clear hi)))
   go_meet
   case rel => exact ⟨_, (decide ((l1.length : Int) > (l0.length : Int))), EZc, H', ⟨by first | omega | exact Nat.le_refl _⟩, ⟨HBa⟩⟩
  replace c9 := Bool.eq_false_iff.mpr c9
  subst c9
  have H1 : (spec_DnUnder.j0 k l0 l1 true) = some r := by rw [if_neg (show ¬ (false = true) by decide)] at H; exact H
  clear H
  have H := H1
  clear H1
  have H' := Aside0.mk H
  clear H
  go_wp2_with (first | (go_at_call 25; (with_reducible refine (spec_DnRight.calls k _ _ l0 true _ ?side1 ?side2 A6.out).mono ?_); (case side1 => exact KCz (Kd.C_below HR0.out HB.out)); (case side2 => exact HC0.out); rintro e w12 ⟨rfl, hb⟩; have n0_ := Aside0.mk (below_step HBa hb); clear HB; have HB := n0_; clear n0_; (try clear hb); (try clear hb2); (try clear hk); (try clear hi)) | (go_at_call 25; (with_reducible refine (spec_DnRight.calls k _ _ l1 false _ ?side1 ?side2 A8.out).mono ?_); (case side1 => exact KCz (Kd.C_below HR1.out HB.out)); (case side2 => exact HC1.out); rintro e w13 ⟨rfl, hb⟩; have n0_ := Aside0.mk (below_step HBa hb); clear HB; have HB := n0_; clear n0_; (try clear hb); (try clear hb2); (try clear hk); (try clear hi)))
  go_meet
  case rel => exact ⟨_, (true), EZc, H', ⟨by first | omega | exact Nat.le_refl _⟩, ⟨HBa⟩⟩
 case rest =>
  clear HC3
  try clear c1
  try clear p2
  try clear c4
  try clear c4b0
  try clear c4b1
  try clear c5
  try clear c5b0
  try clear c5b1
  try clear c7
  try clear c9
  obtain ⟨kq, x29_2, rfl, HA, HJ2, HB⟩ := hcut
  cases kq with
  | zero => exact absurd HA.out (by simp [spec_DnUnder.j0])
  | succ kj2 =>
   have H := HA.out
   clear HA
   simp only [spec_DnUnder.j0] at H
   by_cases c15 : x29_2 = true
   ·subst c15
    have H1 : (some false) = some r := by rw [if_pos rfl] at H; exact H
    clear H
    have H := H1
    clear H1
    obtain rfl := Option.some.inj H
    go_wp2
    go_ret
    exact ⟨EZa, HBa⟩
   replace c15 := Bool.eq_false_iff.mpr c15
   subst c15
   have H1 : (if 0 ≤ (wrap64 ((l0.length : Int) - (l1.length : Int))) then (if (wrap64 ((l0.length : Int) - (l1.length : Int))) ≤ (l0.length : Int) then ((spec_l02Key.f kj2 (l0.drop ((wrap64 ((l0.length : Int) - (l1.length : Int))) : Int).toNat)).bind fun t184 => ((spec_l02Key.f kj2 l1).bind fun t185 => (some (t184.toList == t185.toList)))) else (none)) else (none)) = some r := by rw [if_neg (show ¬ (false = true) by decide)] at H; exact H
   clear H
   have H := H1
   clear H1
   obtain ⟨ji16, hji16⟩ : ∃ j_ : Int, (wrap64 ((l0.length : Int) - (l1.length : Int))) = j_ := ⟨_, rfl⟩
   replace H : (if 0 ≤ (ji16) then (if (ji16) ≤ (l0.length : Int) then ((spec_l02Key.f kj2 (l0.drop ((ji16) : Int).toNat)).bind fun t184 => ((spec_l02Key.f kj2 l1).bind fun t185 => (some (t184.toList == t185.toList)))) else (none)) else (none)) = some r := by first | (rw [hji16] at H; exact H) | (simp only [hji16] at H ⊢; exact H)
   have hji16w : (IntKind.i64.wrap ((l0.length : Int) - (l1.length : Int))) = ji16 := (i64_w _).trans hji16
   by_cases c17 : 0 ≤ (ji16)
   rotate_left
   ·rw [if_neg c17] at H
    exact absurd H (by simp)
   rw [if_pos c17] at H
   have c17b0 := eq_true c17
   have c17b1 : decide (0 ≤ (ji16)) = true := decide_eq_true c17
   clear c17
   by_cases c18 : (ji16) ≤ (l0.length : Int)
   rotate_left
   ·rw [if_neg c18] at H
    exact absurd H (by simp)
   rw [if_pos c18] at H
   have c18b0 := eq_true c18
   have c18b1 : decide ((ji16) ≤ (l0.length : Int)) = true := decide_eq_true c18
   clear c18
   obtain ⟨y180, hy180⟩ : ∃ y_ : List (S98), y_ = (l0.drop ((ji16) : Int).toNat) := ⟨_, rfl⟩
   replace H : ((spec_l02Key.f kj2 y180).bind fun t184 => ((spec_l02Key.f kj2 l1).bind fun t185 => (some (t184.toList == t185.toList)))) = some r := by first | (rw [hy180]; with_reducible exact H) | (have H2_ := (Option.bind_some _ _).symm.trans H; rw [hy180]; with_reducible exact H2_) | (have H2_ := (Option.bind_some _ _).symm.trans H; with_reducible exact H2_) | with_reducible exact H | (rw [hy180]; exact H) | exact H
   have Ny180 := Aside0.mk hy180
   clear hy180
   replace H := Option.bind_eq_some_iff.mp H
   obtain ⟨t184, A190, H⟩ := H
   replace H : ((spec_l02Key.f kj2 l1).bind fun t185 => (some (t184.toList == t185.toList))) = some r := H
   have A19 := Aside0.mk A190
   clear A190
   replace H := Option.bind_eq_some_iff.mp H
   obtain ⟨t185, A200, H⟩ := H
   replace H : (some (t184.toList == t185.toList)) = some r := H
   have A20 := Aside0.mk A200
   clear A200
   obtain rfl := Option.some.inj H
   have q21 : ((ji16) : Int) ≤ ((l0.length : Int) : Int) := ODz
   obtain ⟨i021, hi021, _, hsz21, _⟩ := info_parts info98
   have hroom21 : l0.length ≤ c0 := HC0.out
   have hC21 : Kd.C k98 _ A0 l0.length l0 := HR0.out
   have q021 : (0 : Int) ≤ ((ji16) : Int) := ODz
   have hcut21 := cut_from (P := Tryz.prog) 34 98 .i64 Tryz.underlying34 hi021 2 hsz21 A0 l0.length c0 (ji16) q021 q21
   have hr21 := Kd.C_drop (m := ((ji16) : Int).toNat) (c := c0) hC21 (by omega) hroom21
   obtain ⟨A21, hA21⟩ : ∃ A1, A1 = (if c0 = ((ji16) : Int).toNat then A0 else (A0 : Option Addr).map (·.add (((ji16) : Int).toNat * 2))) := ⟨_, rfl⟩
   obtain ⟨c21, hc21⟩ : ∃ c1, c1 = c0 - ((ji16) : Int).toNat := ⟨_, rfl⟩
   have hy21 : y180.length = l0.length - ((ji16) : Int).toNat := (by rw [Ny180.out, List.length_drop] <;> omega)
   rw [show (l0).drop ((ji16) : Int).toNat = y180 from Ny180.out.symm] at hr21
   replace hr21 : Kd.C k98 _ A21 y180.length y180 := (by rw [hA21]; exact hr21)
   rw [← hy21, ← hA21, ← hc21] at hcut21
   have HR183 := Aside0.mk hr21
   have HC183 := Aside0.mk (show y180.length ≤ c21 from by rw [hy21, hc21]; exact Nat.sub_le_sub_right hroom21 _)
   clear hr21 hC21 hroom21 hi021 hsz21 hc21
   have KY21 := Aside0.mk hy21
   have KA21 := Aside0.mk hA21
   clear hy21 hA21
   replace q21 := eq_true q21
   go_wp2_with (first | ((with_reducible refine gate_callee (f := 130) rfl ?_); refine goesL_ (some 37) rfl rfl Tryz.func130 (by kernel_rfl) rfl #[.slice A21 y180.length c21] rfl MPz ?_; (with_reducible refine (spec_l02Key.calls kj2 _ _ y180 t184 _ ?side1 ?side2 A19.out).mono ?_); (case side1 => exact KCz (Kd.C_below HR183.out HB.out)); (case side2 => exact HC183.out); rintro e w22 ⟨rfl, hb⟩; refine ⟨_, rfl, ?_⟩; have n0_ := Aside0.mk (below_step HBa hb); clear HB; have HB := n0_; clear n0_; (try clear hb); (try clear hb2); (try clear hk); (try clear hi)) | ((with_reducible refine gate_callee (f := 130) rfl ?_); refine goesL_ (some 39) rfl rfl Tryz.func130 (by kernel_rfl) rfl #[.slice A1 l1.length c1] rfl MPz ?_; (with_reducible refine (spec_l02Key.calls kj2 _ _ l1 t185 _ ?side1 ?side2 A20.out).mono ?_); (case side1 => exact KCz (Kd.C_below HR1.out HB.out)); (case side2 => exact HC1.out); rintro e w23 ⟨rfl, hb⟩; refine ⟨_, rfl, ?_⟩; have n0_ := Aside0.mk (below_step HBa hb); clear HB; have HB := n0_; clear n0_; (try clear hb); (try clear hb2); (try clear hk); (try clear hi)))
   go_ret
   exact ⟨by first | rfl | (simp only [bne_nil_, beq_nil_]; rfl) | (simp [errW_none, errW_some] <;> rfl) | (simp only [← hji16]; first | rfl | (simp [errW_none, errW_some] <;> rfl)) | (simp [*, errW_none, errW_some] <;> rfl), HBa⟩
def spec_l04Has.l0 : Nat → List ByteArray → ByteArray → Int → Option (Bool)
 | 0, _, _, _ => none
 | k + 1, x0, x1, x5 => if x5 < (x0.length : Int) then (if 0 ≤ x5 then (if (rdOf ByteArray.empty x0 x5).toList = x1.toList then (some true) else (spec_l04Has.l0 k x0 x1 (wrap64 (x5 + 1)))) else (none)) else (some false)
def spec_l04Has.f (k : Nat) (l0 : List ByteArray) (a1 : ByteArray) : Option (Bool) := spec_l04Has.l0 k l0 a1 0
theorem spec_l04Has.mono_l : ∀ k, (∀ y0 y1 y2, LeO (spec_l04Has.l0 k y0 y1 y2) (spec_l04Has.l0 (k + 1) y0 y1 y2))
 | 0 => fun _ _ _ r h => by simp [spec_l04Has.l0] at h
 | k + 1 => by
  have ih0 := spec_l04Has.mono_l k
  ·intro y0 y1 y2
   unfold spec_l04Has.l0
   repeat' first
   | (with_reducible exact ih0 _ _ _)
   | (with_reducible exact LeO.refl _)
   | (with_reducible exact LeO.none _)
   | (with_reducible refine LeO.ite ?_ ?_)
   | (with_reducible refine LeO.bind ?_ (fun _ => ?_))
   | exact ih0 _ _ _
   | exact LeO.none _
   | refine LeO.ite ?_ ?_
   | refine LeO.bind ?_ (fun _ => ?_)
theorem spec_l04Has.mono : ∀ a0 a1 k, LeO (spec_l04Has.f k a0 a1) (spec_l04Has.f (k + 1) a0 a1) := by
 intro a0 a1 k
 have ih0 := spec_l04Has.mono_l k
 unfold spec_l04Has.f
 repeat' first
   | (with_reducible exact ih0 _ _ _)
   | (with_reducible exact LeO.refl _)
   | (with_reducible exact LeO.none _)
   | (with_reducible refine LeO.ite ?_ ?_)
   | (with_reducible refine LeO.bind ?_ (fun _ => ?_))
   | exact ih0 _ _ _
   | exact LeO.none _
   | refine LeO.ite ?_ ?_
   | refine LeO.bind ?_ (fun _ => ?_)
set_option maxHeartbeats 8000000 in
set_option maxRecDepth 100000 in
theorem spec_l04Has.calls (k : Nat) (A0 : Option Addr) (c0 : Nat) (l0 : List ByteArray) (a1 : ByteArray) (r : Bool) (w : World) (hr0 : Kd.C Kd.string w A0 l0.length l0) (hc0 : l0.length ≤ c0) (h : spec_l04Has.f k l0 a1 = some r) :
  Calls Tryz.prog 93 #[.slice A0 l0.length c0, .string a1] w fun e w' => e = .returned (.bool r) ∧ Drawn0 w w' := by
 have HR0 := Aside0.mk hr0
 have HC0 := Aside0.mk hc0
 clear hr0 hc0
 have H : (spec_l04Has.l0 k l0 a1 0) = some r := h
 clear h
 have H' := Aside0.mk H
 clear H
 go_enter Tryz.func93, Tryz.ntmps93
 go_wp2
 go_loopg [5] k (fun kq v5 w' => ∃ (x5_1 : Int), v5 = .int .i64 x5_1 ∧ Aside0 (spec_l04Has.l0 kq l0 a1 x5_1 = some r) ∧ Aside0 (kq ≤ k) ∧ Drawn0 w w')
 case atStart => exact ⟨(0), EZc, H', ⟨Nat.le_refl _⟩, DRz⟩
 case round =>
  clear H'
  try clear p2
  obtain ⟨x5_1, rfl, HA, HK1, ⟨m1, rfl⟩⟩ := hrel
  cases gk with
  | zero => exact absurd HA.out (by simp [spec_l04Has.l0])
  | succ k1 =>
   have H := HA.out
   clear HA
   simp only [spec_l04Has.l0] at H
   by_cases c3 : x5_1 < (l0.length : Int)
   rotate_left
   ·rw [if_neg c3] at H
    have c3b0 : decide (x5_1 < (l0.length : Int)) = false := decide_eq_false c3
    clear c3
    obtain rfl := Option.some.inj H
    go_wp2
    go_ret
    exact ⟨EZb, DRz⟩
   rw [if_pos c3] at H
   have c3b0 : decide (x5_1 < (l0.length : Int)) = true := decide_eq_true c3
   clear c3
   by_cases c4 : 0 ≤ x5_1
   rotate_left
   ·rw [if_neg c4] at H
    exact absurd H (by simp)
   rw [if_pos c4] at H
   have c4b0 : decide (0 ≤ x5_1) = true := decide_eq_true c4
   clear c4
   by_cases c5 : (rdOf ByteArray.empty l0 x5_1).toList = a1.toList
   ·rw [if_pos c5] at H
    have c5b0 : ((rdOf ByteArray.empty l0 x5_1).toList == a1.toList) = true := beq_iff_eq.mpr c5
    have c5b1 : ((rdOf ByteArray.empty l0 x5_1).toList != a1.toList) = false := bne_eq_false_iff_eq.mpr c5
    clear c5
    obtain rfl := Option.some.inj H
    have p186 : 0 ≤ (x5_1 : Int) := ODz
    have q186 : x5_1 < (l0.length : Int) := ODz
    obtain ⟨ad186, e186, hx186_0⟩ := Kd.at_string HR0.out x5_1 p186 q186
    cases e186
    replace p186 := eq_true p186
    replace q186 := eq_true q186
    go_wp2
    go_ret
    exact ⟨EZb, DRz⟩
   rw [if_neg c5] at H
   have c5b0 : ((rdOf ByteArray.empty l0 x5_1).toList == a1.toList) = false := beq_eq_false_iff_ne.mpr c5
   have c5b1 : ((rdOf ByteArray.empty l0 x5_1).toList != a1.toList) = true := bne_iff_ne.mpr c5
   have H' := Aside0.mk H
   clear H
   have p186 : 0 ≤ (x5_1 : Int) := ODz
   have q186 : x5_1 < (l0.length : Int) := ODz
   obtain ⟨ad186, e186, hx186_0⟩ := Kd.at_string HR0.out x5_1 p186 q186
   cases e186
   replace p186 := eq_true p186
   replace q186 := eq_true q186
   go_wp2
   go_roundg k1
   case measure => have := HK1.out; omega
   case rel => exact ⟨(wrap64 (x5_1 + 1)), EZc, H', ⟨by have := HK1.out; omega⟩, DRz⟩
end Go.Proofs.YtgkjlfimjnhbbaaGreatDoor.PFnExactMayChange
