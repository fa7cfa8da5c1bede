-- Laid by this session's own program out of the translation; Lean checks it.
import Derived.Test.YtdbboelacgehoaaDoorQFnExactEntrySamex0
import Derived.Test.YtdbboelacgehoaaDoorQFnExactEntrySamex4
import Derived.Test.YtdbboelacgehoaaDoorQFnExactEntrySamex5
import Derived.Test.YtdbboelacgehoaaDoorQFnExactEntrySamex7
namespace Go.Proofs.YtdbboelacgehoaaDoor.PFnExactEntrySame
open Go.RowKit Go.Proofs.YtdbboelacgehoaaDoorW.PrintWords Go.Proofs.YtdbboelacgehoaaDoorW.PrintLast Go.Proofs.YtdbboelacgehoaaDoorW.PrintMore
attribute [local go_sem] max2_int min2_int max_two min_two max_three min_three max_four min_four   -- for this text's walks alone
set_option linter.unusedVariables false
set_option linter.unusedSimpArgs false
def spec_EntryRight.f (k : Nat) (l0_0 : List (S42)) (l0_1 : List (S114)) : Option (Bool) := if (l0_0.length : Int) > 0 then ((spec_DnRight.f k l0_0).bind fun t210 => (if t210 = true then ((spec_l03Attrs.f k l0_1).bind fun t211 => (some t211)) else (some false))) else (some false)
theorem spec_EntryRight.mono : ∀ a0 a1 k, LeO (spec_EntryRight.f k a0 a1) (spec_EntryRight.f (k + 1) a0 a1) := by
 intro a0 a1 k
 unfold spec_EntryRight.f
 repeat' first
   | (with_reducible exact spec_DnRight.mono _ _)
   | (with_reducible exact spec_l03Attrs.mono _ _)
   | (with_reducible exact LeO.refl _)
   | (with_reducible exact LeO.none _)
   | (with_reducible refine LeO.ite ?_ ?_)
   | (with_reducible refine LeO.bind ?_ (fun _ => ?_))
   | exact spec_DnRight.mono _ _
   | exact spec_l03Attrs.mono _ _
   | exact LeO.none _
   | refine LeO.ite ?_ ?_
   | refine LeO.bind ?_ (fun _ => ?_)
set_option maxHeartbeats 8000000 in
set_option maxRecDepth 100000 in
theorem spec_EntryRight.calls (k : Nat) (A0_0 : Option Addr) (c0_0 : Nat) (l0_0 : List (S42)) (A0_1 : Option Addr) (c0_1 : Nat) (l0_1 : List (S114)) (r : Bool) (w : World) (hr0_0 : Kd.C k42 w A0_0 l0_0.length l0_0) (hc0_0 : l0_0.length ≤ c0_0) (hr0_1 : Kd.C k114 w A0_1 l0_1.length l0_1) (hc0_1 : l0_1.length ≤ c0_1) (h : spec_EntryRight.f k l0_0 l0_1 = some r) :
  Calls Tryd.prog 53 #[.agg #[.slice A0_0 l0_0.length c0_0, .slice A0_1 l0_1.length c0_1]] w fun e w' => e = .returned (.bool r) ∧ Below w.heap.size w w' := by
 have hu71 := Tryd.underlying71
 have HR0_0 := Aside0.mk hr0_0
 have HC0_0 := Aside0.mk hc0_0
 clear hr0_0 hc0_0
 have HR0_1 := Aside0.mk hr0_1
 have HC0_1 := Aside0.mk hc0_1
 clear hr0_1 hc0_1
 have HB := Aside0.mk (Below.refl w.heap.size w)
 have H : (if (l0_0.length : Int) > 0 then ((spec_DnRight.f k l0_0).bind fun t210 => (if t210 = true then ((spec_l03Attrs.f k l0_1).bind fun t211 => (some t211)) else (some false))) else (some false)) = some r := h
 clear h
 by_cases c2 : (l0_0.length : Int) > 0
 ·rw [if_pos c2] at H
  have c2b0 : decide (0 < (l0_0.length : Int)) = true := decide_eq_true c2
  have c2b1 : decide (0 < l0_0.length) = true := decide_eq_true (by omega)
  clear c2
  replace H := Option.bind_eq_some_iff.mp H
  obtain ⟨t210, A30, H⟩ := H
  replace H : (if t210 = true then ((spec_l03Attrs.f k l0_1).bind fun t211 => (some t211)) else (some false)) = some r := H
  have A3 := Aside0.mk A30
  clear A30
  by_cases c4 : t210 = true
  ·subst c4
   have H1 : ((spec_l03Attrs.f k l0_1).bind fun t211 => (some t211)) = some r := by rw [if_pos rfl] at H; exact H
   clear H
   have H := H1
   clear H1
   replace H := Option.bind_eq_some_iff.mp H
   obtain ⟨t211, A50, H⟩ := H
   replace H : (some t211) = some r := H
   have A5 := Aside0.mk A50
   clear A50
   obtain rfl := Option.some.inj H
   go_enter Tryd.func53, Tryd.ntmps53
   go_wp2_with (first | ((with_reducible refine gate_dst (N := 1) rfl ?_); refine box_event ?hg (N := 1) ?hd (cs := #[.slice A0_0 l0_0.length c0_0, .slice A0_1 l0_1.length c0_1]) (t := 71) ?hr ?_; (case hd => rfl); (case hg => rfl); (case hr => first | (go_simp; done) | (go_simp; rfl)); intro gb209 hg w6 hbox hb; have n0_ := Aside0.mk (below_step HBa hb); have n1_ := Aside0.mk (hbox); have n2_ := BSz w hg HBa; have n3_ := BSz w hg HBa; clear HB; have HB := n0_; have BK209 := n1_; have GW209 := n2_; have GE209 := n3_; clear n0_ n1_ n2_ n3_; clear hb hbox hg; have hcz7_0 : w6.cell? ⟨gb209, 0, none⟩ = some (.slice A0_0 l0_0.length c0_0) := (blk_cell BK209.out 0).trans rfl; have hcz7_1 : w6.cell? ⟨gb209, 1, none⟩ = some (.slice A0_1 l0_1.length c0_1) := (blk_cell BK209.out 1).trans rfl; have hfz7_0 := blk_frozen BK209.out 0; have hfz7_1 := blk_frozen BK209.out 1) | (go_at_call 33; (with_reducible refine (spec_DnRight.calls k _ _ l0_0 true _ ?side1 ?side2 A3.out).mono ?_); (case side1 => exact KCz (Kd.C_below HR0_0.out HB.out)); (case side2 => exact HC0_0.out); rintro e w8 ⟨rfl, hb⟩; have n0_ := BBz BK209 hb; have n1_ := Aside0.mk (below_step (HBb GE209) hb); clear BK209; clear HB; have BK209 := n0_; have HB := n1_; clear n0_ n1_; (try clear hb); (try clear hb2); (try clear hk); (try clear hi); have hcz9_0 : w8.cell? ⟨gb209, 0, none⟩ = some (.slice A0_0 l0_0.length c0_0) := (blk_cell BK209.out 0).trans rfl; have hcz9_1 : w8.cell? ⟨gb209, 1, none⟩ = some (.slice A0_1 l0_1.length c0_1) := (blk_cell BK209.out 1).trans rfl; have hfz9_0 := blk_frozen BK209.out 0; have hfz9_1 := blk_frozen BK209.out 1) | (go_at_call 100; (with_reducible refine (spec_l03Attrs.calls k _ _ l0_1 t211 _ ?side1 ?side2 A5.out).mono ?_); (case side1 => exact KCz (Kd.C_below HR0_1.out HB.out)); (case side2 => exact HC0_1.out); rintro e w10 ⟨rfl, hb⟩; have n0_ := BBz BK209 hb; have n1_ := Aside0.mk (below_step (HBb GE209) hb); clear BK209; clear HB; have BK209 := n0_; have HB := n1_; clear n0_ n1_; (try clear hb); (try clear hb2); (try clear hk); (try clear hi)))
   go_ret
   exact ⟨EZa, HBb GE209⟩
  ·replace c4 := Bool.eq_false_iff.mpr c4
   subst c4
   have H1 : (some false) = some r := by rw [if_neg (show ¬ (false = true) by decide)] at H; exact H
   clear H
   have H := H1
   clear H1
   obtain rfl := Option.some.inj H
   go_enter Tryd.func53, Tryd.ntmps53
   go_wp2_with (first | ((with_reducible refine gate_dst (N := 1) rfl ?_); refine box_event ?hg (N := 1) ?hd (cs := #[.slice A0_0 l0_0.length c0_0, .slice A0_1 l0_1.length c0_1]) (t := 71) ?hr ?_; (case hd => rfl); (case hg => rfl); (case hr => first | (go_simp; done) | (go_simp; rfl)); intro gb209 hg w11 hbox hb; have n0_ := Aside0.mk (below_step HBa hb); have n1_ := Aside0.mk (hbox); have n2_ := BSz w hg HBa; have n3_ := BSz w hg HBa; clear HB; have HB := n0_; have BK209 := n1_; have GW209 := n2_; have GE209 := n3_; clear n0_ n1_ n2_ n3_; clear hb hbox hg; have hcz12_0 : w11.cell? ⟨gb209, 0, none⟩ = some (.slice A0_0 l0_0.length c0_0) := (blk_cell BK209.out 0).trans rfl; have hcz12_1 : w11.cell? ⟨gb209, 1, none⟩ = some (.slice A0_1 l0_1.length c0_1) := (blk_cell BK209.out 1).trans rfl; have hfz12_0 := blk_frozen BK209.out 0; have hfz12_1 := blk_frozen BK209.out 1) | (go_at_call 33; (with_reducible refine (spec_DnRight.calls k _ _ l0_0 false _ ?side1 ?side2 A3.out).mono ?_); (case side1 => exact KCz (Kd.C_below HR0_0.out HB.out)); (case side2 => exact HC0_0.out); rintro e w13 ⟨rfl, hb⟩; have n0_ := BBz BK209 hb; have n1_ := Aside0.mk (below_step (HBb GE209) hb); clear BK209; clear HB; have BK209 := n0_; have HB := n1_; clear n0_ n1_; (try clear hb); (try clear hb2); (try clear hk); (try clear hi)))
   go_ret
   exact ⟨EZa, HBb GE209⟩
 ·rw [if_neg c2] at H
  have c2b0 : decide (0 < (l0_0.length : Int)) = false := decide_eq_false c2
  have c2b1 : decide (0 < l0_0.length) = false := decide_eq_false (by omega)
  clear c2
  obtain rfl := Option.some.inj H
  go_enter Tryd.func53, Tryd.ntmps53
  go_wp2_with (first | ((with_reducible refine gate_dst (N := 1) rfl ?_); refine box_event ?hg (N := 1) ?hd (cs := #[.slice A0_0 l0_0.length c0_0, .slice A0_1 l0_1.length c0_1]) (t := 71) ?hr ?_; (case hd => rfl); (case hg => rfl); (case hr => first | (go_simp; done) | (go_simp; rfl)); intro gb209 hg w14 hbox hb; have n0_ := Aside0.mk (below_step HBa hb); have n1_ := Aside0.mk (hbox); have n2_ := BSz w hg HBa; have n3_ := BSz w hg HBa; clear HB; have HB := n0_; have BK209 := n1_; have GW209 := n2_; have GE209 := n3_; clear n0_ n1_ n2_ n3_; clear hb hbox hg; have hcz15_0 : w14.cell? ⟨gb209, 0, none⟩ = some (.slice A0_0 l0_0.length c0_0) := (blk_cell BK209.out 0).trans rfl; have hcz15_1 : w14.cell? ⟨gb209, 1, none⟩ = some (.slice A0_1 l0_1.length c0_1) := (blk_cell BK209.out 1).trans rfl; have hfz15_0 := blk_frozen BK209.out 0; have hfz15_1 := blk_frozen BK209.out 1))
  go_ret
  exact ⟨EZa, HBb GE209⟩
def spec_l02Key.l0 : Nat → List (S42) → ByteArray → Int → Option (ByteArray)
 | 0, _, _, _ => none
 | k + 1, x0, x3, x4 => if x4 ≥ 0 then (if x3.size + 1 ≤ 9223372036854775807 then (if 0 ≤ x4 then (if x4 < (x0.length : Int) then (if (x3 ++ (⟨#[1]⟩ : ByteArray)).size + ((rd_T42 x0 x4).f0).size ≤ 9223372036854775807 then (if ((x3 ++ (⟨#[1]⟩ : ByteArray)) ++ ((rd_T42 x0 x4).f0)).size + 1 ≤ 9223372036854775807 then ((spec_Norm.f k ((rd_T42 x0 x4).f1)).bind fun t214 => (if (((x3 ++ (⟨#[1]⟩ : ByteArray)) ++ ((rd_T42 x0 x4).f0)) ++ (⟨#[61]⟩ : ByteArray)).size + t214.size ≤ 9223372036854775807 then (spec_l02Key.l0 k x0 ((((x3 ++ (⟨#[1]⟩ : ByteArray)) ++ ((rd_T42 x0 x4).f0)) ++ (⟨#[61]⟩ : ByteArray)) ++ t214) (wrap64 (x4 - 1))) else (none))) else (none)) else (none)) else (none)) else (none)) else (none)) else (some x3)
def spec_l02Key.f (k : Nat) (l0 : List (S42)) : Option (ByteArray) := spec_l02Key.l0 k l0 (⟨#[]⟩ : ByteArray) (wrap64 ((l0.length : Int) - 1))
theorem spec_l02Key.mono_l : ∀ k, (∀ y0 y1 y2, LeO (spec_l02Key.l0 k y0 y1 y2) (spec_l02Key.l0 (k + 1) y0 y1 y2))
 | 0 => fun _ _ _ r h => by simp [spec_l02Key.l0] at h
 | k + 1 => by
  have ih0 := spec_l02Key.mono_l k
  ·intro y0 y1 y2
   unfold spec_l02Key.l0
   repeat' first
   | (with_reducible exact ih0 _ _ _)
   | (with_reducible exact spec_Norm.mono _ _)
   | (with_reducible exact LeO.refl _)
   | (with_reducible exact LeO.none _)
   | (with_reducible refine LeO.ite ?_ ?_)
   | (with_reducible refine LeO.bind ?_ (fun _ => ?_))
   | exact ih0 _ _ _
   | exact spec_Norm.mono _ _
   | exact LeO.none _
   | refine LeO.ite ?_ ?_
   | refine LeO.bind ?_ (fun _ => ?_)
theorem spec_l02Key.mono : ∀ a0 k, LeO (spec_l02Key.f k a0) (spec_l02Key.f (k + 1) a0) := by
 intro a0 k
 have ih0 := spec_l02Key.mono_l k
 unfold spec_l02Key.f
 repeat' first
   | (with_reducible exact ih0 _ _ _)
   | (with_reducible exact spec_Norm.mono _ _)
   | (with_reducible exact LeO.refl _)
   | (with_reducible exact LeO.none _)
   | (with_reducible refine LeO.ite ?_ ?_)
   | (with_reducible refine LeO.bind ?_ (fun _ => ?_))
   | exact ih0 _ _ _
   | exact spec_Norm.mono _ _
   | exact LeO.none _
   | refine LeO.ite ?_ ?_
   | refine LeO.bind ?_ (fun _ => ?_)
def spec_l02Key.T5 : Bool × List (List Nat × List Nat) := (true, [([], []), ([0], [0]), ([], []), ([], []), ([2, 3], [2, 3]), ([4], [4]), ([5], [5]), ([1, 6], [1, 6]), ([7], [7]), ([], []), ([], []), ([9, 10], [9, 10]), ([11], [11]), ([12], [12]), ([13], [13]), ([8, 14], [8, 14]), ([15, 14, 0, 1, 2, 3, 4, 5, 6, 7, 8, 9, 10, 11, 12, 13, 14, 15], [0, 15])])
def spec_l02Key.B5 : List Nat := [0, 1, 0, 0, 12, 28, 60, 127, 255, 0, 0, 1536, 3584, 7680, 15872, 32767, 65535]
theorem spec_l02Key.tab5 : rtab .any (opsOf Tryd.f82 5) = spec_l02Key.T5 := by kernel_rfl
theorem spec_l02Key.bits5 : waitsOk spec_l02Key.T5.2 spec_l02Key.B5 = true := by kernel_rfl
set_option maxHeartbeats 8000000 in
set_option maxRecDepth 100000 in
theorem spec_l02Key.calls (k : Nat) (A0 : Option Addr) (c0 : Nat) (l0 : List (S42)) (r : ByteArray) (w : World) (hr0 : Kd.C k42 w A0 l0.length l0) (hc0 : l0.length ≤ c0) (h : spec_l02Key.f k l0 = some r) :
  Calls Tryd.prog 82 #[.slice A0 l0.length c0] w fun e w' => e = .returned (.string r) ∧ Below w.heap.size w w' := by
 have HR0 := Aside0.mk hr0
 have HC0 := Aside0.mk hc0
 clear hr0 hc0
 have HB := Aside0.mk (Below.refl w.heap.size w)
 have H : (spec_l02Key.l0 k l0 (⟨#[]⟩ : ByteArray) (wrap64 ((l0.length : Int) - 1))) = some r := h
 clear h
 have H' := Aside0.mk H
 clear H
 go_enter Tryd.func82, Tryd.ntmps82
 go_wp2
 go_loopg [3, 4] k (fun kq v3 v4 w' => ∃ (x3_1 : ByteArray) (x4_1 : Int), v3 = .string x3_1 ∧ v4 = .int .i64 x4_1 ∧ Aside0 (spec_l02Key.l0 kq l0 x3_1 x4_1 = some r) ∧ Aside0 (kq ≤ k) ∧ Aside0 (Below w.heap.size w w'))
 case atStart => exact ⟨((⟨#[]⟩ : ByteArray)), (wrap64 ((l0.length : Int) - 1)), EZc, EZc, H', ⟨Nat.le_refl _⟩, ⟨HBa⟩⟩
 case round =>
  clear H'
  obtain ⟨x3_1, x4_1, rfl, rfl, HA, HK1, HB⟩ := hrel
  cases gk with
  | zero => exact absurd HA.out (by simp [spec_l02Key.l0])
  | succ k1 =>
   have H := HA.out
   clear HA
   simp only [spec_l02Key.l0] at H
   by_cases c2 : x4_1 ≥ 0
   ·rw [if_pos c2] at H
    have c2b0 : decide (0 ≤ x4_1) = true := decide_eq_true c2
    clear c2
    by_cases c3 : x3_1.size + 1 ≤ 9223372036854775807
    ·rw [if_pos c3] at H
     have c3b0 := eq_true c3
     have c3b1 : decide (x3_1.size + 1 ≤ 9223372036854775807) = true := decide_eq_true c3
     try have c3b2 : (9223372036854775807 < x3_1.size + 1) = False := eq_false (Nat.not_lt.2 c3)
     by_cases c4 : 0 ≤ x4_1
     ·rw [if_pos c4] at H
      have c4b0 : decide (0 ≤ x4_1) = true := decide_eq_true c4
      clear c4
      by_cases c5 : x4_1 < (l0.length : Int)
      ·rw [if_pos c5] at H
       have c5b0 : decide (x4_1 < (l0.length : Int)) = true := decide_eq_true c5
       clear c5
       by_cases c6 : (x3_1 ++ (⟨#[1]⟩ : ByteArray)).size + ((rd_T42 l0 x4_1).f0).size ≤ 9223372036854775807
       ·rw [if_pos c6] at H
        have c6b0 := eq_true c6
        have c6b1 : decide ((x3_1 ++ (⟨#[1]⟩ : ByteArray)).size + ((rd_T42 l0 x4_1).f0).size ≤ 9223372036854775807) = true := decide_eq_true c6
        have c6n : ¬ (9223372036854775807 < (x3_1 ++ (⟨#[1]⟩ : ByteArray)).size + ((rd_T42 l0 x4_1).f0).size) := Nat.not_lt.2 c6
        try simp only [ByteArray.size_append, show (⟨#[1]⟩ : ByteArray).size = 1 from rfl] at c6n
        try have c6b2 : (9223372036854775807 < (x3_1 ++ (⟨#[1]⟩ : ByteArray)).size + ((rd_T42 l0 x4_1).f0).size) = False := eq_false (Nat.not_lt.2 c6)
        by_cases c7 : ((x3_1 ++ (⟨#[1]⟩ : ByteArray)) ++ ((rd_T42 l0 x4_1).f0)).size + 1 ≤ 9223372036854775807
        ·rw [if_pos c7] at H
         have c7b0 := eq_true c7
         have c7b1 : decide (((x3_1 ++ (⟨#[1]⟩ : ByteArray)) ++ ((rd_T42 l0 x4_1).f0)).size + 1 ≤ 9223372036854775807) = true := decide_eq_true c7
         have c7n : ¬ (9223372036854775807 < ((x3_1 ++ (⟨#[1]⟩ : ByteArray)) ++ ((rd_T42 l0 x4_1).f0)).size + 1) := Nat.not_lt.2 c7
         try simp only [ByteArray.size_append, show (⟨#[1]⟩ : ByteArray).size = 1 from rfl] at c7n
         try have c7b2 : (9223372036854775807 < ((x3_1 ++ (⟨#[1]⟩ : ByteArray)) ++ ((rd_T42 l0 x4_1).f0)).size + 1) = False := eq_false (Nat.not_lt.2 c7)
         replace H := Option.bind_eq_some_iff.mp H
         obtain ⟨t214, A80, H⟩ := H
         replace H : (if (((x3_1 ++ (⟨#[1]⟩ : ByteArray)) ++ ((rd_T42 l0 x4_1).f0)) ++ (⟨#[61]⟩ : ByteArray)).size + t214.size ≤ 9223372036854775807 then (spec_l02Key.l0 k1 l0 ((((x3_1 ++ (⟨#[1]⟩ : ByteArray)) ++ ((rd_T42 l0 x4_1).f0)) ++ (⟨#[61]⟩ : ByteArray)) ++ t214) (wrap64 (x4_1 - 1))) else (none)) = some r := H
         have A8 := Aside0.mk A80
         clear A80
         by_cases c9 : (((x3_1 ++ (⟨#[1]⟩ : ByteArray)) ++ ((rd_T42 l0 x4_1).f0)) ++ (⟨#[61]⟩ : ByteArray)).size + t214.size ≤ 9223372036854775807
         ·rw [if_pos c9] at H
          have c9b0 := eq_true c9
          have c9b1 : decide ((((x3_1 ++ (⟨#[1]⟩ : ByteArray)) ++ ((rd_T42 l0 x4_1).f0)) ++ (⟨#[61]⟩ : ByteArray)).size + t214.size ≤ 9223372036854775807) = true := decide_eq_true c9
          have c9n : ¬ (9223372036854775807 < (((x3_1 ++ (⟨#[1]⟩ : ByteArray)) ++ ((rd_T42 l0 x4_1).f0)) ++ (⟨#[61]⟩ : ByteArray)).size + t214.size) := Nat.not_lt.2 c9
          try simp only [ByteArray.size_append, show (⟨#[1]⟩ : ByteArray).size = 1 from rfl, show (⟨#[61]⟩ : ByteArray).size = 1 from rfl] at c9n
          try have c9b2 : (9223372036854775807 < (((x3_1 ++ (⟨#[1]⟩ : ByteArray)) ++ ((rd_T42 l0 x4_1).f0)) ++ (⟨#[61]⟩ : ByteArray)).size + t214.size) = False := eq_false (Nat.not_lt.2 c9)
          have H' := Aside0.mk H
          clear H
          try go_wp2
          have n0_ := Aside0.mk (below_drew1 HB.out)
          clear HB
          have HB := n0_
          clear n0_
          have p212 : 0 ≤ (x4_1 : Int) := ODz
          have q212 : x4_1 < (l0.length : Int) := ODz
          obtain ⟨ad212, e212, hx212_0, hx212_1⟩ := at_T42 HR0.out x4_1 p212 q212
          have hw212_1 := hx212_1
          have hw212_0 := hx212_0
          cases e212
          replace hx212_0 := HXz HB hx212_0
          replace hx212_1 := HXz HB hx212_1
          replace p212 := eq_true p212
          replace q212 := eq_true q212
          have p213 : 0 ≤ (x4_1 : Int) := ODz
          have q213 : x4_1 < (l0.length : Int) := ODz
          obtain ⟨ad213, e213, hx213_0, hx213_1⟩ := at_T42 HR0.out x4_1 p213 q213
          have hw213_1 := hx213_1
          have hw213_0 := hx213_0
          obtain rfl : ad212 = ad213 := (by injection e213)
          replace hx213_0 := HXz HB hx213_0
          replace hx213_1 := HXz HB hx213_1
          replace p213 := eq_true p213
          replace q213 := eq_true q213
          refine start_ (n := 17) (S := fun w' => w'.cell? (ad212.add ((x4_1).toNat * 2)) = some (.string ((rd_T42 l0 x4_1).f0)) ∧ w'.cell? ⟨(ad212.add ((x4_1).toNat * 2)).block, (ad212.add ((x4_1).toNat * 2)).off + 1, none⟩ = some (.string ((rd_T42 l0 x4_1).f1)) ∧ w'.cell? (ad212.add ((x4_1).toNat * 2)) = some (.string ((rd_T42 l0 x4_1).f0)) ∧ w'.cell? ⟨(ad212.add ((x4_1).toNat * 2)).block, (ad212.add ((x4_1).toNat * 2)).off + 1, none⟩ = some (.string ((rd_T42 l0 x4_1).f1))) (ds := []) #[false, false, false, false, false, false, false, false, false, false, false, false, false, false, false, false, false] (by kernel_rfl) rfl rfl ⟨(HXz HB hw212_0 :), (HXz HB hw212_1 :), (HXz HB hw213_0 :), (HXz HB hw213_1 :)⟩ (fun hHeld => ?_); refine with_tabW spec_l02Key.tab5 spec_l02Key.bits5 (fun HT_ HW_ => ?_)
          generalize wr.drew = w10 at HB hx212_0 hx212_1 hx213_0 hx213_1 hHeld ⊢
          refine pure_ (i := 0) (N := some 12) (v := ?_) (a' := ?_) #[true, false, false, false, false, false, false, false, false, false, false, false, false, false, false, false, false] rfl rfl (any_of HT_.out (by kernel_rfl)) (fun _ _ _ h => h) (Or.inl ⟨by rfl, ?_⟩) ?_ ?_
          rotate_left
          ·intro w'
           go_simp
           with_reducible rfl
          rotate_left
          ·simp only [PUz]
           rfl
          refine pure_ (i := 1) (N := some 13) (v := ?_) (a' := ?_) #[true, true, false, false, false, false, false, false, false, false, false, false, false, false, false, false, false] rfl rfl (any_of HT_.out (by kernel_rfl)) (fun _ _ _ h => h) (Or.inl ⟨by rfl, ?_⟩) ?_ ?_
          rotate_left
          ·intro w'
           go_simp
           with_reducible rfl
          rotate_left
          ·simp only [PUz]
           rfl
          refine pure_ (i := 2) (N := some 14) (v := ?_) (a' := ?_) #[true, true, true, false, false, false, false, false, false, false, false, false, false, false, false, false, false] rfl rfl (any_of HT_.out (by kernel_rfl)) (fun _ _ _ h => h) (Or.inl ⟨by rfl, ?_⟩) ?_ ?_
          rotate_left
          ·intro w'
           go_simp
           with_reducible rfl
          rotate_left
          ·simp only [PUz]
           rfl
          refine pure_ (i := 3) (N := some 15) (v := ?_) (a' := ?_) #[true, true, true, true, false, false, false, false, false, false, false, false, false, false, false, false, false] rfl rfl (any_of HT_.out (by kernel_rfl)) (fun _ _ _ h => h) (Or.inl ⟨by rfl, ?_⟩) ?_ ?_
          rotate_left
          ·intro w'
           go_simp
           with_reducible rfl
          rotate_left
          ·simp only [PUz]
           rfl
          refine pure_ (i := 4) (N := some 16) (v := ?_) (a' := ?_) #[true, true, true, true, true, false, false, false, false, false, false, false, false, false, false, false, false] rfl rfl (any_of HT_.out (by kernel_rfl)) (fun _ _ _ h => h) (Or.inl ⟨by rfl, ?_⟩) ?_ ?_
          rotate_left
          ·intro w'
           go_simp
           with_reducible rfl
          rotate_left
          ·simp only [PUz]
           rfl
          refine pure_ (i := 5) (N := some 17) (v := ?_) (a' := ?_) #[true, true, true, true, true, true, false, false, false, false, false, false, false, false, false, false, false] rfl rfl (any_of HT_.out (by kernel_rfl)) (fun _ _ _ h => h) (Or.inl ⟨by rfl, ?_⟩) ?_ ?_
          rotate_left
          ·intro w'
           go_simp
           with_reducible rfl
          rotate_left
          ·simp only [PUz]
           rfl
          refine pure_ (i := 9) (N := some 21) (v := ?_) (a' := ?_) #[true, true, true, true, true, true, false, false, false, true, false, false, false, false, false, false, false] rfl rfl (any_of HT_.out (by kernel_rfl)) (fun _ _ _ h => h) (Or.inl ⟨by rfl, ?_⟩) ?_ ?_
          rotate_left
          ·intro w'
           go_simp
           with_reducible rfl
          rotate_left
          ·simp only [PUz]
           rfl
          refine pure_ (i := 10) (N := some 22) (v := ?_) (a' := ?_) #[true, true, true, true, true, true, false, false, false, true, true, false, false, false, false, false, false] rfl rfl (any_of HT_.out (by kernel_rfl)) (fun _ _ _ h => h) (Or.inl ⟨by rfl, ?_⟩) ?_ ?_
          rotate_left
          ·intro w'
           go_simp
           with_reducible rfl
          rotate_left
          ·simp only [PUz]
           rfl
          refine pure_ (i := 11) (N := some 23) (v := ?_) (a' := ?_) #[true, true, true, true, true, true, false, false, false, true, true, true, false, false, false, false, false] rfl rfl (any_of HT_.out (by kernel_rfl)) (fun _ _ _ h => h) (Or.inl ⟨by rfl, ?_⟩) ?_ ?_
          rotate_left
          ·intro w'
           go_simp
           with_reducible rfl
          rotate_left
          ·simp only [PUz]
           rfl
          refine pure_ (i := 12) (N := some 24) (v := ?_) (a' := ?_) #[true, true, true, true, true, true, false, false, false, true, true, true, true, false, false, false, false] rfl rfl (any_of HT_.out (by kernel_rfl)) (fun _ _ _ h => h) (Or.inl ⟨by rfl, ?_⟩) ?_ ?_
          rotate_left
          ·intro w'
           go_simp
           with_reducible rfl
          rotate_left
          ·simp only [PUz]
           rfl
          refine take_ (i := 6) (N := some 18) (v := ?_) (a' := ?_) #[true, true, true, true, true, true, true, false, false, true, true, true, true, false, false, false, false] rfl rfl (take_ofW HT_.out HW_.out (by kernel_rfl)) (fun _ _ _ h => h) (Or.inl ⟨by rfl, ?_⟩) hHeld ?_ ?_
          rotate_left
          ·rintro w' ⟨s0, s1, s2, s3⟩
           go_simp
           with_reducible rfl
          rotate_left
          ·simp only [PUz]
           rfl
          refine pure_ (i := 7) (N := some 19) (v := ?_) (a' := ?_) #[true, true, true, true, true, true, true, true, false, true, true, true, true, false, false, false, false] rfl rfl (any_of HT_.out (by kernel_rfl)) (fun _ _ _ h => h) (Or.inl ⟨by rfl, ?_⟩) ?_ ?_
          rotate_left
          ·intro w'
           go_simp
           with_reducible rfl
          rotate_left
          ·simp only [PUz]
           rfl
          refine pure_ (i := 8) (N := some 20) (v := ?_) (a' := ?_) #[true, true, true, true, true, true, true, true, true, true, true, true, true, false, false, false, false] rfl rfl (any_of HT_.out (by kernel_rfl)) (fun _ _ _ h => h) (Or.inl ⟨by rfl, ?_⟩) ?_ ?_
          rotate_left
          ·intro w'
           go_simp
           with_reducible rfl
          rotate_left
          ·simp only [PUz]
           rfl
          refine take_ (i := 13) (N := some 25) (v := ?_) (a' := ?_) #[true, true, true, true, true, true, true, true, true, true, true, true, true, true, false, false, false] rfl rfl (take_ofW HT_.out HW_.out (by kernel_rfl)) (fun _ _ _ h => h) (Or.inl ⟨by rfl, ?_⟩) hHeld ?_ ?_
          rotate_left
          ·rintro w' ⟨s0, s1, s2, s3⟩
           go_simp
           with_reducible rfl
          rotate_left
          ·simp only [PUz]
           rfl
          refine one_ (i := 14) (N := some 26) #[true, true, true, true, true, true, true, true, true, true, true, true, true, true, true, false, false] rfl rfl (one_of HT_.out (by kernel_rfl)) (by decide) (fun K hK => ?_)
          refine goes_ Tryd.func124 (by kernel_rfl) rfl #[.string ((rd_T42 l0 x4_1).f1)] (by rfl) rfl rfl MPz ?_
          with_reducible refine (spec_Norm.calls k1 ((rd_T42 l0 x4_1).f1) t214 _ A8.out).mono ?_
          rintro e w11 ⟨rfl, hb⟩
          refine ⟨_, rfl, ?_⟩
          have n0_ := Aside0.mk (below_step HBa hb)
          clear HB
          have HB := n0_
          clear n0_
          (try clear hb)
          (try clear hb2)
          (try clear hk)
          (try clear hi)
          refine hK.out _ _ ⟨(HXz HB hw212_0 :), (HXz HB hw212_1 :), (HXz HB hw213_0 :), (HXz HB hw213_1 :)⟩ (fun hHeld => ?_)
          clear hK K
          refine norm_ (a' := ?_) ?_ ?_
          rotate_left
          ·show Act.put _ (some 26) _ = _
           simp only [PUz]
           rfl
          refine pure_ (i := 15) (N := some 27) (v := ?_) (a' := ?_) #[true, true, true, true, true, true, true, true, true, true, true, true, true, true, true, true, false] rfl rfl (any_of HT_.out (by kernel_rfl)) (fun _ _ _ h => h) (Or.inl ⟨by rfl, ?_⟩) ?_ ?_
          rotate_left
          ·intro w'
           go_simp
           with_reducible rfl
          rotate_left
          ·simp only [PUz]
           rfl
          refine pure_ (i := 16) (N := some 3) (v := ?_) (a' := ?_) #[true, true, true, true, true, true, true, true, true, true, true, true, true, true, true, true, true] rfl rfl (any_of HT_.out (by kernel_rfl)) (fun _ _ _ h => h) (Or.inl ⟨by rfl, ?_⟩) ?_ ?_
          rotate_left
          ·intro w'
           go_simp
           with_reducible rfl
          rotate_left
          ·simp only [PUz]
           rfl
          refine done_ (done_of HT_.out (by kernel_rfl)) ?_
          try go_wp2
          go_roundg k1
          case measure => have := HK1.out; omega
          case rel => exact ⟨((((x3_1 ++ (⟨#[1]⟩ : ByteArray)) ++ ((rd_T42 l0 x4_1).f0)) ++ (⟨#[61]⟩ : ByteArray)) ++ t214), (wrap64 (x4_1 - 1)), EZc, EZc, H', ⟨by have := HK1.out; omega⟩, ⟨HBa⟩⟩
         ·rw [if_neg c9] at H
          exact absurd H (by simp)
        ·rw [if_neg c7] at H
         exact absurd H (by simp)
       ·rw [if_neg c6] at H
        exact absurd H (by simp)
      ·rw [if_neg c5] at H
       exact absurd H (by simp)
     ·rw [if_neg c4] at H
      exact absurd H (by simp)
    ·rw [if_neg c3] at H
     exact absurd H (by simp)
   ·rw [if_neg c2] at H
    have c2b0 : decide (0 ≤ x4_1) = false := decide_eq_false c2
    clear c2
    obtain rfl := Option.some.inj H
    go_wp2
    go_ret
    exact ⟨EZa, HBa⟩
end Go.Proofs.YtdbboelacgehoaaDoor.PFnExactEntrySame
