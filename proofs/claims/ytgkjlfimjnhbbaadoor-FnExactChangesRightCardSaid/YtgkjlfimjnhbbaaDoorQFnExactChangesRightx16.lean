-- Laid by this session's own program out of the translation; Lean checks it.
import Derived.Test.YtgkjlfimjnhbbaaDoorQFnExactChangesRightx0
import Derived.Test.YtgkjlfimjnhbbaaDoorQFnExactChangesRightx10
import Derived.Test.YtgkjlfimjnhbbaaDoorQFnExactChangesRightx13
import Derived.Test.YtgkjlfimjnhbbaaDoorQFnExactChangesRightx15
namespace Go.Proofs.YtgkjlfimjnhbbaaDoor.PFnExactChangesRight
open Go.RowKit Go.Proofs.YtgkjlfimjnhbbaaDoorW.PrintWords Go.Proofs.YtgkjlfimjnhbbaaDoorW.PrintLast Go.Proofs.YtgkjlfimjnhbbaaDoorW.PrintMore
attribute [local go_sem] max2_int min2_int max_two min_two max_three min_three max_four min_four   -- for this text's walks alone
set_option linter.unusedVariables false
set_option linter.unusedSimpArgs false
def impl_isKind.f (k : Nat) (a0 : Int) (l1_0 : List (S126)) (l1_1 : List (S111)) : Option (Bool) := if a0 = 2 then ((impl_isZeroEntry.f l1_0 l1_1).bind fun t407 => (some t407)) else ((impl_between.f a0 1 4).bind fun t408 => (if t408 = true then ((impl_EntryRight.f k l1_0 l1_1).bind fun t409 => (some t409)) else (some false)))
theorem impl_isKind.mono : ∀ a0 a1 a2 k, LeO (impl_isKind.f k a0 a1 a2) (impl_isKind.f (k + 1) a0 a1 a2) := by
 intro a0 a1 a2 k
 unfold impl_isKind.f
 repeat' first
   | (with_reducible exact impl_EntryRight.mono _ _ _)
   | (with_reducible exact LeO.refl _)
   | (with_reducible exact LeO.none _)
   | (with_reducible refine LeO.ite ?_ ?_)
   | (with_reducible refine LeO.bind ?_ (fun _ => ?_))
   | exact impl_EntryRight.mono _ _ _
   | exact LeO.none _
   | refine LeO.ite ?_ ?_
   | refine LeO.bind ?_ (fun _ => ?_)
set_option maxHeartbeats 8000000 in
set_option maxRecDepth 100000 in
theorem impl_isKind.calls (k : Nat) (a0 : Int) (A1_0 : Option Addr) (c1_0 : Nat) (l1_0 : List (S126)) (A1_1 : Option Addr) (c1_1 : Nat) (l1_1 : List (S111)) (r : Bool) (w : World) (hr1_0 : Kd.C k126 w A1_0 l1_0.length l1_0) (hc1_0 : l1_0.length ≤ c1_0) (hr1_1 : Kd.C k111 w A1_1 l1_1.length l1_1) (hc1_1 : l1_1.length ≤ c1_1) (h : impl_isKind.f k a0 l1_0 l1_1 = some r) :
  Calls Tryd.prog 99 #[.int .i64 a0, .agg #[.slice A1_0 l1_0.length c1_0, .slice A1_1 l1_1.length c1_1]] w fun e w' => e = .returned (.bool r) ∧ Below w.heap.size w w' := by
 have hu81 := Tryd.underlying81
 have HR1_0 := Aside0.mk hr1_0
 have HC1_0 := Aside0.mk hc1_0
 clear hr1_0 hc1_0
 have HR1_1 := Aside0.mk hr1_1
 have HC1_1 := Aside0.mk hc1_1
 clear hr1_1 hc1_1
 have HB := Aside0.mk (Below.refl w.heap.size w)
 have H : (if a0 = 2 then ((impl_isZeroEntry.f l1_0 l1_1).bind fun t407 => (some t407)) else ((impl_between.f a0 1 4).bind fun t408 => (if t408 = true then ((impl_EntryRight.f k l1_0 l1_1).bind fun t409 => (some t409)) else (some false)))) = some r := h
 clear h
 by_cases c3 : a0 = 2
 ·rw [if_pos c3] at H
  have c3b0 : (a0 == 2) = true := beq_iff_eq.mpr c3
  have c3b1 : (a0 != 2) = false := bne_eq_false_iff_eq.mpr c3
  clear c3
  replace H := Option.bind_eq_some_iff.mp H
  obtain ⟨t407, A40, H⟩ := H
  replace H : (some t407) = some r := H
  have A4 := Aside0.mk A40
  clear A40
  obtain rfl := Option.some.inj H
  go_enter Tryd.func99, Tryd.ntmps99
  go_wp2_with (first | ((with_reducible refine gate_dst (N := 3) rfl ?_); refine box_event ?hg (N := 3) ?hd (cs := #[.slice A1_0 l1_0.length c1_0, .slice A1_1 l1_1.length c1_1]) (t := 81) ?hr ?_; (case hd => rfl); (case hg => rfl); (case hr => first | (go_simp; done) | (go_simp; rfl)); intro gb406 hg w5 hbox hb; have n0_ := Aside0.mk (below_step HBa hb); have n1_ := Aside0.mk (hbox); have n2_ := BSz w hg HBa; have n3_ := BSz w hg HBa; clear HB; have HB := n0_; have BK406 := n1_; have GW406 := n2_; have GE406 := n3_; clear n0_ n1_ n2_ n3_; clear hb hbox hg; have hcz6_0 := C1z BK406; have hcz6_1 := C2z BK406; have hfz6_0 := blk_frozen BK406.out 0; have hfz6_1 := blk_frozen BK406.out 1) | ((with_reducible refine gate_callee (f := 130) rfl ?_); refine goesL_ (some 8) rfl rfl Tryd.func130 (by kernel_rfl) rfl #[.agg #[.slice A1_0 l1_0.length c1_0, .slice A1_1 l1_1.length c1_1]] rfl MPz ?_; (with_reducible refine (impl_isZeroEntry.calls _ _ l1_0 _ _ l1_1 t407 _ ?side1 ?side2 ?side3 ?side4 A4.out).mono ?_); (case side1 => exact KCz (Kd.C_below HR1_0.out HB.out)); (case side2 => exact HC1_0.out); (case side3 => exact KCz (Kd.C_below HR1_1.out HB.out)); (case side4 => exact HC1_1.out); rintro e w7 ⟨rfl, hb⟩; refine ⟨_, rfl, ?_⟩; have n0_ := BBz BK406 hb; have n1_ := Aside0.mk (below_step (HBb GE406) hb); clear BK406; clear HB; have BK406 := n0_; have HB := n1_; clear n0_ n1_; (try clear hb); (try clear hb2); (try clear hk); (try clear hi)))
  go_ret
  exact ⟨EZa, HBb GE406⟩
 rw [if_neg c3] at H
 have c3b0 : (a0 == 2) = false := beq_eq_false_iff_ne.mpr c3
 have c3b1 : (a0 != 2) = true := bne_iff_ne.mpr c3
 replace H := Option.bind_eq_some_iff.mp H
 obtain ⟨t408, A80, H⟩ := H
 replace H : (if t408 = true then ((impl_EntryRight.f k l1_0 l1_1).bind fun t409 => (some t409)) else (some false)) = some r := H
 have A8 := Aside0.mk A80
 clear A80
 by_cases c9 : t408 = true
 ·subst c9
  have H1 : ((impl_EntryRight.f k l1_0 l1_1).bind fun t409 => (some t409)) = some r := by rw [if_pos rfl] at H; exact H
  clear H
  have H := H1
  clear H1
  replace H := Option.bind_eq_some_iff.mp H
  obtain ⟨t409, A100, H⟩ := H
  replace H : (some t409) = some r := H
  have A10 := Aside0.mk A100
  clear A100
  obtain rfl := Option.some.inj H
  go_enter Tryd.func99, Tryd.ntmps99
  go_wp2_with (first | ((with_reducible refine gate_dst (N := 3) rfl ?_); refine box_event ?hg (N := 3) ?hd (cs := #[.slice A1_0 l1_0.length c1_0, .slice A1_1 l1_1.length c1_1]) (t := 81) ?hr ?_; (case hd => rfl); (case hg => rfl); (case hr => first | (go_simp; done) | (go_simp; rfl)); intro gb406 hg w11 hbox hb; have n0_ := Aside0.mk (below_step HBa hb); have n1_ := Aside0.mk (hbox); have n2_ := BSz w hg HBa; have n3_ := BSz w hg HBa; clear HB; have HB := n0_; have BK406 := n1_; have GW406 := n2_; have GE406 := n3_; clear n0_ n1_ n2_ n3_; clear hb hbox hg) | ((with_reducible refine gate_callee (f := 47) rfl ?_); refine goesL_ (some 10) rfl rfl Tryd.func47 (by kernel_rfl) rfl #[.int .i64 a0, .int .i64 1, .int .i64 4] rfl MPz ?_; (with_reducible refine (impl_between.calls a0 1 4 true _ A8.out).mono ?_); rintro e w' ⟨rfl, ⟨nd, rfl⟩⟩; refine ⟨_, rfl, ?_⟩; have hcz12_0 := C1z BK406; have hcz12_1 := C2z BK406; have hfz12_0 := blk_frozen BK406.out 0; have hfz12_1 := blk_frozen BK406.out 1) | (go_at_call 131; (with_reducible refine (impl_EntryRight.calls k _ _ l1_0 _ _ l1_1 t409 _ ?side1 ?side2 ?side3 ?side4 A10.out).mono ?_); (case side1 => repeat (first | exact (Kd.C_below HR1_0.out (HBb GE406)) | (with_reducible refine Kd.C_alloc ?_ _) | (with_reducible refine Kd.C_drewN ?_ _) | (with_reducible refine Kd.C_drew ?_))); (case side2 => exact HC1_0.out); (case side3 => repeat (first | exact (Kd.C_below HR1_1.out (HBb GE406)) | (with_reducible refine Kd.C_alloc ?_ _) | (with_reducible refine Kd.C_drewN ?_ _) | (with_reducible refine Kd.C_drew ?_))); (case side4 => exact HC1_1.out); rintro e w13 ⟨rfl, hb⟩; have n0_ := BBz BK406 hb; have n1_ := Aside0.mk (below_step (HBb GE406) hb); clear BK406; clear HB; have BK406 := n0_; have HB := n1_; clear n0_ n1_; (try clear hb); (try clear hb2); (try clear hk); (try clear hi)))
  go_ret
  exact ⟨EZa, HBb GE406⟩
 replace c9 := Bool.eq_false_iff.mpr c9
 subst c9
 have H1 : (some false) = some r := by rw [if_neg (show ¬ (false = true) by decide)] at H; exact H
 clear H
 have H := H1
 clear H1
 obtain rfl := Option.some.inj H
 go_enter Tryd.func99, Tryd.ntmps99
 go_wp2_with (first | ((with_reducible refine gate_dst (N := 3) rfl ?_); refine box_event ?hg (N := 3) ?hd (cs := #[.slice A1_0 l1_0.length c1_0, .slice A1_1 l1_1.length c1_1]) (t := 81) ?hr ?_; (case hd => rfl); (case hg => rfl); (case hr => first | (go_simp; done) | (go_simp; rfl)); intro gb406 hg w14 hbox hb; have n0_ := Aside0.mk (below_step HBa hb); have n1_ := Aside0.mk (hbox); have n2_ := BSz w hg HBa; have n3_ := BSz w hg HBa; clear HB; have HB := n0_; have BK406 := n1_; have GW406 := n2_; have GE406 := n3_; clear n0_ n1_ n2_ n3_; clear hb hbox hg) | ((with_reducible refine gate_callee (f := 47) rfl ?_); refine goesL_ (some 10) rfl rfl Tryd.func47 (by kernel_rfl) rfl #[.int .i64 a0, .int .i64 1, .int .i64 4] rfl MPz ?_; (with_reducible refine (impl_between.calls a0 1 4 false _ A8.out).mono ?_); rintro e w' ⟨rfl, ⟨nd, rfl⟩⟩; refine ⟨_, rfl, ?_⟩))
 go_ret
 exact ⟨EZa, HBb GE406⟩
def impl_isChange.f (k : Nat) (a0_0 : Int) (a0_1 : Int) (a0_2 : ByteArray) (l0_3 : List (S126)) (l0_4 : List (S111)) : Option (Bool) := (impl_isDnText.f k a0_2).bind fun t411 => (if t411 = true then ((impl_isKind.f k a0_1 l0_3 l0_4).bind fun t412 => (some t412)) else (some false))
theorem impl_isChange.mono : ∀ a0 a1 a2 a3 a4 k, LeO (impl_isChange.f k a0 a1 a2 a3 a4) (impl_isChange.f (k + 1) a0 a1 a2 a3 a4) := by
 intro a0 a1 a2 a3 a4 k
 unfold impl_isChange.f
 repeat' first
   | (with_reducible exact impl_isDnText.mono _ _)
   | (with_reducible exact impl_isKind.mono _ _ _ _)
   | (with_reducible exact LeO.refl _)
   | (with_reducible exact LeO.none _)
   | (with_reducible refine LeO.ite ?_ ?_)
   | (with_reducible refine LeO.bind ?_ (fun _ => ?_))
   | exact impl_isDnText.mono _ _
   | exact impl_isKind.mono _ _ _ _
   | exact LeO.none _
   | refine LeO.ite ?_ ?_
   | refine LeO.bind ?_ (fun _ => ?_)
set_option maxHeartbeats 8000000 in
set_option maxRecDepth 100000 in
theorem impl_isChange.calls (k : Nat) (a0_0 : Int) (a0_1 : Int) (a0_2 : ByteArray) (A0_3 : Option Addr) (c0_3 : Nat) (l0_3 : List (S126)) (A0_4 : Option Addr) (c0_4 : Nat) (l0_4 : List (S111)) (r : Bool) (w : World) (hr0_3 : Kd.C k126 w A0_3 l0_3.length l0_3) (hc0_3 : l0_3.length ≤ c0_3) (hr0_4 : Kd.C k111 w A0_4 l0_4.length l0_4) (hc0_4 : l0_4.length ≤ c0_4) (h : impl_isChange.f k a0_0 a0_1 a0_2 l0_3 l0_4 = some r) :
  Calls Tryd.prog 58 #[.agg #[.int .i64 a0_0, .int .i64 a0_1, .string a0_2, .slice A0_3 l0_3.length c0_3, .slice A0_4 l0_4.length c0_4]] w fun e w' => e = .returned (.bool r) ∧ Below w.heap.size w w' := by
 have hu83 := Tryd.underlying83
 have hu81 := Tryd.underlying81
 have HR0_3 := Aside0.mk hr0_3
 have HC0_3 := Aside0.mk hc0_3
 clear hr0_3 hc0_3
 have HR0_4 := Aside0.mk hr0_4
 have HC0_4 := Aside0.mk hc0_4
 clear hr0_4 hc0_4
 have HB := Aside0.mk (Below.refl w.heap.size w)
 have H : ((impl_isDnText.f k a0_2).bind fun t411 => (if t411 = true then ((impl_isKind.f k a0_1 l0_3 l0_4).bind fun t412 => (some t412)) else (some false))) = some r := h
 clear h
 replace H := Option.bind_eq_some_iff.mp H
 obtain ⟨t411, A20, H⟩ := H
 replace H : (if t411 = true then ((impl_isKind.f k a0_1 l0_3 l0_4).bind fun t412 => (some t412)) else (some false)) = some r := H
 have A2 := Aside0.mk A20
 clear A20
 by_cases c3 : t411 = true
 rotate_left
 ·replace c3 := Bool.eq_false_iff.mpr c3
  subst c3
  have H1 : (some false) = some r := by rw [if_neg (show ¬ (false = true) by decide)] at H; exact H
  clear H
  have H := H1
  clear H1
  obtain rfl := Option.some.inj H
  go_enter Tryd.func58, Tryd.ntmps58
  go_wp2_with (first | ((with_reducible refine gate_dst (N := 1) rfl ?_); refine box_event ?hg (N := 1) ?hd (cs := #[.int .i64 a0_0, .int .i64 a0_1, .string a0_2, .slice A0_3 l0_3.length c0_3, .slice A0_4 l0_4.length c0_4]) (t := 83) ?hr ?_; (case hd => rfl); (case hg => rfl); (case hr => first | (go_simp; done) | (go_simp; rfl)); intro gb410 hg w10 hbox hb; have n0_ := Aside0.mk (below_step HBa hb); have n1_ := Aside0.mk (hbox); have n2_ := BSz w hg HBa; have n3_ := BSz w hg HBa; clear HB; have HB := n0_; have BK410 := n1_; have GW410 := n2_; have GE410 := n3_; clear n0_ n1_ n2_ n3_; clear hb hbox hg; have hcz11_0 := C1z BK410; have hcz11_1 := C2z BK410; have hcz11_2 := C3z BK410; have hcz11_3 := C4z BK410; have hcz11_4 := C5z BK410; have hfz11_0 := blk_frozen BK410.out 0; have hfz11_1 := blk_frozen BK410.out 1; have hfz11_2 := blk_frozen BK410.out 2; have hfz11_3 := blk_frozen BK410.out 3; have hfz11_4 := blk_frozen BK410.out 4) | ((with_reducible refine gate_callee (f := 98) rfl ?_); refine goesL_ (some 5) rfl rfl Tryd.func98 (by kernel_rfl) rfl #[.string a0_2] rfl MPz ?_; (with_reducible refine (impl_isDnText.calls k a0_2 false _ A2.out).mono ?_); rintro e w12 ⟨rfl, hb⟩; refine ⟨_, rfl, ?_⟩; have n0_ := BBz BK410 hb; have n1_ := Aside0.mk (below_step (HBb GE410) hb); clear BK410; clear HB; have BK410 := n0_; have HB := n1_; clear n0_ n1_; (try clear hb); (try clear hb2); (try clear hk); (try clear hi)))
  go_ret
  exact ⟨EZa, HBb GE410⟩
 subst c3
 have H1 : ((impl_isKind.f k a0_1 l0_3 l0_4).bind fun t412 => (some t412)) = some r := by rw [if_pos rfl] at H; exact H
 clear H
 have H := H1
 clear H1
 replace H := Option.bind_eq_some_iff.mp H
 obtain ⟨t412, A40, H⟩ := H
 replace H : (some t412) = some r := H
 have A4 := Aside0.mk A40
 clear A40
 obtain rfl := Option.some.inj H
 go_enter Tryd.func58, Tryd.ntmps58
 go_wp2_with (first | ((with_reducible refine gate_dst (N := 1) rfl ?_); refine box_event ?hg (N := 1) ?hd (cs := #[.int .i64 a0_0, .int .i64 a0_1, .string a0_2, .slice A0_3 l0_3.length c0_3, .slice A0_4 l0_4.length c0_4]) (t := 83) ?hr ?_; (case hd => rfl); (case hg => rfl); (case hr => first | (go_simp; done) | (go_simp; rfl)); intro gb410 hg w5 hbox hb; have n0_ := Aside0.mk (below_step HBa hb); have n1_ := Aside0.mk (hbox); have n2_ := BSz w hg HBa; have n3_ := BSz w hg HBa; clear HB; have HB := n0_; have BK410 := n1_; have GW410 := n2_; have GE410 := n3_; clear n0_ n1_ n2_ n3_; clear hb hbox hg; have hcz6_0 := C1z BK410; have hcz6_1 := C2z BK410; have hcz6_2 := C3z BK410; have hcz6_3 := C4z BK410; have hcz6_4 := C5z BK410; have hfz6_0 := blk_frozen BK410.out 0; have hfz6_1 := blk_frozen BK410.out 1; have hfz6_2 := blk_frozen BK410.out 2; have hfz6_3 := blk_frozen BK410.out 3; have hfz6_4 := blk_frozen BK410.out 4) | ((with_reducible refine gate_callee (f := 98) rfl ?_); refine goesL_ (some 5) rfl rfl Tryd.func98 (by kernel_rfl) rfl #[.string a0_2] rfl MPz ?_; (with_reducible refine (impl_isDnText.calls k a0_2 true _ A2.out).mono ?_); rintro e w7 ⟨rfl, hb⟩; refine ⟨_, rfl, ?_⟩; have n0_ := BBz BK410 hb; have n1_ := Aside0.mk (below_step (HBb GE410) hb); clear BK410; clear HB; have BK410 := n0_; have HB := n1_; clear n0_ n1_; (try clear hb); (try clear hb2); (try clear hk); (try clear hi); have hcz8_0 := C1z BK410; have hcz8_1 := C2z BK410; have hcz8_2 := C3z BK410; have hcz8_3 := C4z BK410; have hcz8_4 := C5z BK410; have hfz8_0 := blk_frozen BK410.out 0; have hfz8_1 := blk_frozen BK410.out 1; have hfz8_2 := blk_frozen BK410.out 2; have hfz8_3 := blk_frozen BK410.out 3; have hfz8_4 := blk_frozen BK410.out 4) | (go_at_call 99; (with_reducible refine (impl_isKind.calls k a0_1 _ _ l0_3 _ _ l0_4 t412 _ ?side1 ?side2 ?side3 ?side4 A4.out).mono ?_); (case side1 => exact KCz (Kd.C_below HR0_3.out HB.out)); (case side2 => exact HC0_3.out); (case side3 => exact KCz (Kd.C_below HR0_4.out HB.out)); (case side4 => exact HC0_4.out); rintro e w9 ⟨rfl, hb⟩; have n0_ := BBz BK410 hb; have n1_ := Aside0.mk (below_step (HBb GE410) hb); clear BK410; clear HB; have BK410 := n0_; have HB := n1_; clear n0_ n1_; (try clear hb); (try clear hb2); (try clear hk); (try clear hi)))
 go_ret
 exact ⟨EZa, HBb GE410⟩
mutual
def impl_ChangesRight.j0 : Nat → Int → Bool → Int → List (S83) → Option (Bool)
 | 0, _, _, _, _ => none
 | k + 1, x3, x22, x414000, x414001 => if x22 = true then (some false) else (impl_ChangesRight.l0 k x3 x414001 (x414001.length : Int) 0 x414000 x414001)
def impl_ChangesRight.l0 : Nat → Int → List (S83) → Int → Int → Int → List (S83) → Option (Bool)
 | 0, _, _, _, _, _, _ => none
 | k + 1, x3, x24, x25, x26, x414000, x414001 => if x26 < x25 then (if 0 ≤ x26 then (if x26 < (x24.length : Int) then (if ((rd_T83 x24 x26).f0) = (wrap64 ((wrap64 (x414000 - x3)) + x26)) then ((impl_isChange.f k ((rd_T83 x24 x26).f0) ((rd_T83 x24 x26).f1) ((rd_T83 x24 x26).f2) ((rd_T83 x24 x26).f3.f0) ((rd_T83 x24 x26).f3.f1)).bind fun t418 => (if t418 = true then (impl_ChangesRight.l0 k x3 x24 x25 (wrap64 (x26 + 1)) x414000 x414001) else (some false))) else (some false)) else (none)) else (none)) else (some true)
end
def impl_ChangesRight.f (k : Nat) (a0_0 : Int) (l0_1 : List (S83)) : Option (Bool) := (impl_Change.f l0_1).bind fun t414 => ((impl_between.f a0_0 1 1000000).bind fun t415 => (if t415 = true then (if t414 > 40 then (impl_ChangesRight.j0 k t414 true a0_0 l0_1) else (impl_ChangesRight.j0 k t414 (decide (t414 ≥ a0_0)) a0_0 l0_1)) else (impl_ChangesRight.j0 k t414 true a0_0 l0_1)))
theorem impl_ChangesRight.mono_l : ∀ k, (∀ y0 y1 y2 y3, LeO (impl_ChangesRight.j0 k y0 y1 y2 y3) (impl_ChangesRight.j0 (k + 1) y0 y1 y2 y3)) ∧ (∀ y0 y1 y2 y3 y4 y5, LeO (impl_ChangesRight.l0 k y0 y1 y2 y3 y4 y5) (impl_ChangesRight.l0 (k + 1) y0 y1 y2 y3 y4 y5))
 | 0 => ⟨fun _ _ _ _ r h => by simp [impl_ChangesRight.j0] at h, fun _ _ _ _ _ _ r h => by simp [impl_ChangesRight.l0] at h⟩
 | k + 1 => by
  obtain ⟨ih0, ih1⟩ := impl_ChangesRight.mono_l k
  refine ⟨?_, ?_⟩
  ·intro y0 y1 y2 y3
   unfold impl_ChangesRight.j0
   repeat' first
   | (with_reducible exact ih0 _ _ _ _)
   | (with_reducible exact ih1 _ _ _ _ _ _)
   | (with_reducible exact impl_isChange.mono _ _ _ _ _ _)
   | (with_reducible exact LeO.refl _)
   | (with_reducible exact LeO.none _)
   | (with_reducible refine LeO.ite ?_ ?_)
   | (with_reducible refine LeO.bind ?_ (fun _ => ?_))
   | exact ih0 _ _ _ _
   | exact ih1 _ _ _ _ _ _
   | exact impl_isChange.mono _ _ _ _ _ _
   | exact LeO.none _
   | refine LeO.ite ?_ ?_
   | refine LeO.bind ?_ (fun _ => ?_)
  ·intro y0 y1 y2 y3 y4 y5
   unfold impl_ChangesRight.l0
   repeat' first
   | (with_reducible exact ih0 _ _ _ _)
   | (with_reducible exact ih1 _ _ _ _ _ _)
   | (with_reducible exact impl_isChange.mono _ _ _ _ _ _)
   | (with_reducible exact LeO.refl _)
   | (with_reducible exact LeO.none _)
   | (with_reducible refine LeO.ite ?_ ?_)
   | (with_reducible refine LeO.bind ?_ (fun _ => ?_))
   | exact ih0 _ _ _ _
   | exact ih1 _ _ _ _ _ _
   | exact impl_isChange.mono _ _ _ _ _ _
   | exact LeO.none _
   | refine LeO.ite ?_ ?_
   | refine LeO.bind ?_ (fun _ => ?_)
theorem impl_ChangesRight.mono : ∀ a0 a1 k, LeO (impl_ChangesRight.f k a0 a1) (impl_ChangesRight.f (k + 1) a0 a1) := by
 intro a0 a1 k
 obtain ⟨ih0, ih1⟩ := impl_ChangesRight.mono_l k
 unfold impl_ChangesRight.f
 repeat' first
   | (with_reducible exact ih0 _ _ _ _)
   | (with_reducible exact ih1 _ _ _ _ _ _)
   | (with_reducible exact impl_isChange.mono _ _ _ _ _ _)
   | (with_reducible exact LeO.refl _)
   | (with_reducible exact LeO.none _)
   | (with_reducible refine LeO.ite ?_ ?_)
   | (with_reducible refine LeO.bind ?_ (fun _ => ?_))
   | exact ih0 _ _ _ _
   | exact ih1 _ _ _ _ _ _
   | exact impl_isChange.mono _ _ _ _ _ _
   | exact LeO.none _
   | refine LeO.ite ?_ ?_
   | refine LeO.bind ?_ (fun _ => ?_)
set_option maxHeartbeats 8000000 in
set_option maxRecDepth 100000 in
theorem impl_ChangesRight.calls (k : Nat) (a0_0 : Int) (A0_1 : Option Addr) (c0_1 : Nat) (l0_1 : List (S83)) (r : Bool) (w : World) (hr0_1 : Kd.C k83 w A0_1 l0_1.length l0_1) (hc0_1 : l0_1.length ≤ c0_1) (h : impl_ChangesRight.f k a0_0 l0_1 = some r) :
  Calls Tryd.prog 22 #[.agg #[.int .i64 a0_0, .slice A0_1 l0_1.length c0_1]] w fun e w' => e = .returned (.bool r) ∧ Below w.heap.size w w' := by
 have hu45 := Tryd.underlying45
 have hu83 := Tryd.underlying83
 have HR0_1 := Aside0.mk hr0_1
 have HC0_1 := Aside0.mk hc0_1
 clear hr0_1 hc0_1
 have HB := Aside0.mk (Below.refl w.heap.size w)
 have H : ((impl_Change.f l0_1).bind fun t414 => ((impl_between.f a0_0 1 1000000).bind fun t415 => (if t415 = true then (if t414 > 40 then (impl_ChangesRight.j0 k t414 true a0_0 l0_1) else (impl_ChangesRight.j0 k t414 (decide (t414 ≥ a0_0)) a0_0 l0_1)) else (impl_ChangesRight.j0 k t414 true a0_0 l0_1)))) = some r := h
 clear h
 replace H := Option.bind_eq_some_iff.mp H
 obtain ⟨t414, A20, H⟩ := H
 replace H : ((impl_between.f a0_0 1 1000000).bind fun t415 => (if t415 = true then (if t414 > 40 then (impl_ChangesRight.j0 k t414 true a0_0 l0_1) else (impl_ChangesRight.j0 k t414 (decide (t414 ≥ a0_0)) a0_0 l0_1)) else (impl_ChangesRight.j0 k t414 true a0_0 l0_1))) = some r := H
 have A2 := Aside0.mk A20
 clear A20
 have HC3 := Aside0.mk H
 clear H
 go_enter Tryd.func22, Tryd.ntmps22
 go_upto_region 2 with (first | ((with_reducible refine gate_dst (N := 1) rfl ?_); refine box_event ?hg (N := 1) ?hd (cs := #[.int .i64 a0_0, .slice A0_1 l0_1.length c0_1]) (t := 45) ?hr ?_; (case hd => rfl); (case hg => rfl); (case hr => first | (go_simp; done) | (go_simp; rfl)); intro gb413 hg w4 hbox hb; have n0_ := Aside0.mk (below_step HBa hb); have n1_ := Aside0.mk (hbox); have n2_ := BSz w hg HBa; have n3_ := BSz w hg HBa; clear HB; have HB := n0_; have BK413 := n1_; have GW413 := n2_; have GE413 := n3_; clear n0_ n1_ n2_ n3_; clear hb hbox hg; have hcz5_0 := C1z BK413; have hcz5_1 := C2z BK413; have hfz5_0 := blk_frozen BK413.out 0; have hfz5_1 := blk_frozen BK413.out 1) | ((with_reducible refine gate_callee (f := 57) rfl ?_); refine goesL_ (some 8) rfl rfl Tryd.func57 (by kernel_rfl) rfl #[.slice A0_1 l0_1.length c0_1] rfl MPz ?_; (with_reducible refine (impl_Change.calls _ _ l0_1 t414 _ ?side1 ?side2 A2.out).mono ?_); (case side1 => exact KCz (Kd.C_below HR0_1.out HB.out)); (case side2 => exact HC0_1.out); rintro e w' ⟨rfl, ⟨nd, rfl⟩⟩; refine ⟨_, rfl, ?_⟩))
 (try simp only [Act.put, List.setIfInBounds_toArray, List.set_cons_zero, List.set_cons_succ])
 go_cut [22] (fun v22 wc => ∃ (kq : Nat) (x22_2 : Bool), v22 = .bool x22_2 ∧ Aside0 (impl_ChangesRight.j0 kq t414 x22_2 a0_0 l0_1 = some r) ∧ Aside0 (kq ≤ k) ∧ Aside0 (wc.heap[gb413]? = some (.cells #[.int .i64 a0_0, (.slice A0_1 l0_1.length c0_1)] 45 (0, 0))) ∧ Aside0 (Below w.heap.size w wc))
 case first =>
  have H := HC3.out
  clear HC3
  replace H := Option.bind_eq_some_iff.mp H
  obtain ⟨t415, A60, H⟩ := H
  replace H : (if t415 = true then (if t414 > 40 then (impl_ChangesRight.j0 k t414 true a0_0 l0_1) else (impl_ChangesRight.j0 k t414 (decide (t414 ≥ a0_0)) a0_0 l0_1)) else (impl_ChangesRight.j0 k t414 true a0_0 l0_1)) = some r := H
  have A6 := Aside0.mk A60
  clear A60
  by_cases c7 : t415 = true
  rotate_left
  ·replace c7 := Bool.eq_false_iff.mpr c7
   subst c7
   have H1 : (impl_ChangesRight.j0 k t414 true a0_0 l0_1) = some r := by rw [if_neg (show ¬ (false = true) by decide)] at H; exact H
   clear H
   have H := H1
   clear H1
   have H' := Aside0.mk H
   clear H
   have hcz11_0 := C1z BK413
   have hcz11_1 := C2z BK413
   have hfz11_0 := blk_frozen BK413.out 0
   have hfz11_1 := blk_frozen BK413.out 1
   go_wp2_with (first | ((with_reducible refine gate_callee (f := 47) rfl ?_); refine goesL_ (some 11) rfl rfl Tryd.func47 (by kernel_rfl) rfl #[.int .i64 a0_0, .int .i64 1, .int .i64 1000000] rfl MPz ?_; (with_reducible refine (impl_between.calls a0_0 1 1000000 false _ A6.out).mono ?_); rintro e w' ⟨rfl, ⟨nd, rfl⟩⟩; refine ⟨_, rfl, ?_⟩))
   go_meet
   case rel => exact ⟨_, (true), EZc, H', ⟨by first | omega | exact Nat.le_refl _⟩, ⟨by (with_reducible repeat (first | refine blk_drewN ?_ _ | refine blk_drew ?_ | refine blk_alloc ?_ _)); exact BK413.out⟩, ⟨by repeat (first | (with_reducible first | exact HB.out | apply below_alloc | apply pw_below_drewN | apply below_drew1 | refine below_set ?_ GE413.out) | exact HB.out)⟩⟩
  subst c7
  have H1 : (if t414 > 40 then (impl_ChangesRight.j0 k t414 true a0_0 l0_1) else (impl_ChangesRight.j0 k t414 (decide (t414 ≥ a0_0)) a0_0 l0_1)) = some r := by rw [if_pos rfl] at H; exact H
  clear H
  have H := H1
  clear H1
  by_cases c8 : t414 > 40
  ·rw [if_pos c8] at H
   have c8b0 : decide (40 < t414) = true := decide_eq_true c8
   clear c8
   (first | rw [c8b0] | rw [c8v0] | (simp only [i64_w, i32_w]; rw [c8b0]) | (simp only [i64_w, i32_w]; rw [c8v0]) | skip)
   have H' := Aside0.mk H
   clear H
   have hcz9_0 := C1z BK413
   have hcz9_1 := C2z BK413
   have hfz9_0 := blk_frozen BK413.out 0
   have hfz9_1 := blk_frozen BK413.out 1
   go_wp2_with (first | ((with_reducible refine gate_callee (f := 47) rfl ?_); refine goesL_ (some 11) rfl rfl Tryd.func47 (by kernel_rfl) rfl #[.int .i64 a0_0, .int .i64 1, .int .i64 1000000] rfl MPz ?_; (with_reducible refine (impl_between.calls a0_0 1 1000000 true _ A6.out).mono ?_); rintro e w' ⟨rfl, ⟨nd, rfl⟩⟩; refine ⟨_, rfl, ?_⟩))
   go_meet
   case rel => exact ⟨_, (true), EZc, H', ⟨by first | omega | exact Nat.le_refl _⟩, ⟨by (with_reducible repeat (first | refine blk_drewN ?_ _ | refine blk_drew ?_ | refine blk_alloc ?_ _)); exact BK413.out⟩, ⟨by repeat (first | (with_reducible first | exact HB.out | apply below_alloc | apply pw_below_drewN | apply below_drew1 | refine below_set ?_ GE413.out) | exact HB.out)⟩⟩
  rw [if_neg c8] at H
  have c8b0 : decide (40 < t414) = false := decide_eq_false c8
  clear c8
  (first | rw [c8b0] | rw [c8v0] | (simp only [i64_w, i32_w]; rw [c8b0]) | (simp only [i64_w, i32_w]; rw [c8v0]) | skip)
  have H' := Aside0.mk H
  clear H
  have hcz10_0 := C1z BK413
  have hcz10_1 := C2z BK413
  have hfz10_0 := blk_frozen BK413.out 0
  have hfz10_1 := blk_frozen BK413.out 1
  go_wp2_with (first | ((with_reducible refine gate_callee (f := 47) rfl ?_); refine goesL_ (some 11) rfl rfl Tryd.func47 (by kernel_rfl) rfl #[.int .i64 a0_0, .int .i64 1, .int .i64 1000000] rfl MPz ?_; (with_reducible refine (impl_between.calls a0_0 1 1000000 true _ A6.out).mono ?_); rintro e w' ⟨rfl, ⟨nd, rfl⟩⟩; refine ⟨_, rfl, ?_⟩))
  go_meet
  case rel => exact ⟨_, (decide (t414 ≥ a0_0)), EZc, H', ⟨by first | omega | exact Nat.le_refl _⟩, ⟨by (with_reducible repeat (first | refine blk_drewN ?_ _ | refine blk_drew ?_ | refine blk_alloc ?_ _)); exact BK413.out⟩, ⟨by repeat (first | (with_reducible first | exact HB.out | apply below_alloc | apply pw_below_drewN | apply below_drew1 | refine below_set ?_ GE413.out) | exact HB.out)⟩⟩
 case rest =>
  clear HC3
  try clear c2
  try clear p2
  try clear c4
  try clear c5
  try clear c7
  try clear c8
  try clear c8b0
  try clear hcz10_0
  try clear hcz10_1
  try clear hcz11_0
  try clear hcz11_1
  try clear hcz5_0
  try clear hcz5_1
  try clear hcz9_0
  try clear hcz9_1
  try clear hfz10_0
  try clear hfz10_1
  try clear hfz11_0
  try clear hfz11_1
  try clear hfz5_0
  try clear hfz5_1
  try clear hfz9_0
  try clear hfz9_1
  obtain ⟨kq, x22_2, rfl, HA, HJ2, BK413, HB⟩ := hcut
  cases kq with
  | zero => exact absurd HA.out (by simp [impl_ChangesRight.j0])
  | succ kj2 =>
   have H := HA.out
   clear HA
   simp only [impl_ChangesRight.j0] at H
   by_cases c12 : x22_2 = true
   ·subst c12
    have H1 : (some false) = some r := by rw [if_pos rfl] at H; exact H
    clear H
    have H := H1
    clear H1
    obtain rfl := Option.some.inj H
    go_wp2
    go_ret
    exact ⟨EZa, HBb GE413⟩
   replace c12 := Bool.eq_false_iff.mpr c12
   subst c12
   have H1 : (impl_ChangesRight.l0 kj2 t414 l0_1 (l0_1.length : Int) 0 a0_0 l0_1) = some r := by rw [if_neg (show ¬ (false = true) by decide)] at H; exact H
   clear H
   have H := H1
   clear H1
   have H' := Aside0.mk H
   clear H
   have hcz13_0 := C1z BK413
   have hcz13_1 := C2z BK413
   have hfz13_0 := blk_frozen BK413.out 0
   have hfz13_1 := blk_frozen BK413.out 1
   go_wp2
   go_loopg [26] kj2 (fun kq v26 w' => ∃ (x26_2 : Int), v26 = .int .i64 x26_2 ∧ Aside0 (impl_ChangesRight.l0 kq t414 l0_1 (l0_1.length : Int) x26_2 a0_0 l0_1 = some r) ∧ Aside0 (kq ≤ kj2) ∧ Aside0 (w'.heap[gb413]? = some (.cells #[.int .i64 a0_0, (.slice A0_1 l0_1.length c0_1)] 45 (0, 0))) ∧ Aside0 (Below w.heap.size w w'))
   case atStart => exact ⟨(0), EZc, H', ⟨Nat.le_refl _⟩, ⟨by (with_reducible repeat (first | refine blk_drewN ?_ _ | refine blk_drew ?_ | refine blk_alloc ?_ _)); exact BK413.out⟩, ⟨by repeat (first | (with_reducible first | exact HB.out | apply below_alloc | apply pw_below_drewN | apply below_drew1 | refine below_set ?_ GE413.out) | exact HB.out)⟩⟩
   case round =>
    clear H'
    try clear c1
    try clear c2
    try clear p2
    try clear c4
    try clear c5
    try clear c7
    try clear c8
    try clear c8b0
    try clear c12
    try clear hcz10_0
    try clear hcz10_1
    try clear hcz11_0
    try clear hcz11_1
    try clear hcz13_0
    try clear hcz13_1
    try clear hcz5_0
    try clear hcz5_1
    try clear hcz9_0
    try clear hcz9_1
    try clear hfz10_0
    try clear hfz10_1
    try clear hfz11_0
    try clear hfz11_1
    try clear hfz13_0
    try clear hfz13_1
    try clear hfz5_0
    try clear hfz5_1
    try clear hfz9_0
    try clear hfz9_1
    try clear p2
    obtain ⟨x26_2, rfl, HA, HK2, BK413, HB⟩ := hrel
    cases gk with
    | zero => exact absurd HA.out (by simp [impl_ChangesRight.l0])
    | succ k2 =>
     have H := HA.out
     clear HA
     simp only [impl_ChangesRight.l0] at H
     by_cases c14 : x26_2 < (l0_1.length : Int)
     rotate_left
     ·rw [if_neg c14] at H
      have c14b0 : decide (x26_2 < (l0_1.length : Int)) = false := decide_eq_false c14
      clear c14
      obtain rfl := Option.some.inj H
      go_wp2
      go_ret
      exact ⟨EZa, HBb GE413⟩
     rw [if_pos c14] at H
     have c14b0 : decide (x26_2 < (l0_1.length : Int)) = true := decide_eq_true c14
     clear c14
     by_cases c15 : 0 ≤ x26_2
     rotate_left
     ·rw [if_neg c15] at H
      exact absurd H (by simp)
     rw [if_pos c15] at H
     have c15b0 : decide (0 ≤ x26_2) = true := decide_eq_true c15
     clear c15
     by_cases c16 : x26_2 < (l0_1.length : Int)
     rotate_left
     ·rw [if_neg c16] at H
      exact absurd H (by simp)
     rw [if_pos c16] at H
     have c16b0 : decide (x26_2 < (l0_1.length : Int)) = true := decide_eq_true c16
     clear c16
     by_cases c17 : ((rd_T83 l0_1 x26_2).f0) = (wrap64 ((wrap64 (a0_0 - t414)) + x26_2))
     rotate_left
     ·rw [if_neg c17] at H
      have c17b0 : (((rd_T83 l0_1 x26_2).f0) == (wrap64 ((wrap64 (a0_0 - t414)) + x26_2))) = false := beq_eq_false_iff_ne.mpr c17
      (try (have c17v0 := c17b0; (try rw [show wrap64 (a0_0 - t414) = a0_0 - t414 from by unfold wrap64; omega] at c17v0); (try rw [show wrap64 ((wrap64 (a0_0 - t414)) + x26_2) = (wrap64 (a0_0 - t414)) + x26_2 from by unfold wrap64; omega] at c17v0)))
      have c17b1 : (((rd_T83 l0_1 x26_2).f0) != (wrap64 ((wrap64 (a0_0 - t414)) + x26_2))) = true := bne_iff_ne.mpr c17
      (try (have c17v1 := c17b1; (try rw [show wrap64 (a0_0 - t414) = a0_0 - t414 from by unfold wrap64; omega] at c17v1); (try rw [show wrap64 ((wrap64 (a0_0 - t414)) + x26_2) = (wrap64 (a0_0 - t414)) + x26_2 from by unfold wrap64; omega] at c17v1)))
      obtain rfl := Option.some.inj H
      have p416 : 0 ≤ (x26_2 : Int) := ODz
      have q416 : x26_2 < (l0_1.length : Int) := ODz
      obtain ⟨ad416, A416_3, c416_3, A416_4, c416_4, e416, hx416_0, hx416_1, hx416_2, hx416_3, hx416_4, hl416_3, hi416_3, hl416_4, hi416_4⟩ := at_T83 HR0_1.out x26_2 p416 q416
      cases e416
      replace hx416_0 := HXz HB hx416_0
      replace hx416_1 := HXz HB hx416_1
      replace hx416_2 := HXz HB hx416_2
      replace hx416_3 := HXz HB hx416_3
      replace hx416_4 := HXz HB hx416_4
      have HR416_3 := Aside0.mk hi416_3
      have HC416_3 := Aside0.mk hl416_3
      clear hi416_3 hl416_3
      have HR416_4 := Aside0.mk hi416_4
      have HC416_4 := Aside0.mk hl416_4
      clear hi416_4 hl416_4
      replace p416 := eq_true p416
      replace q416 := eq_true q416
      go_wp2_with (first | ((with_reducible refine gate_dst (N := 5) rfl ?_); refine box_event ?hg (N := 5) ?hd (cs := #[.int .i64 0, .int .i64 0, .string (⟨#[]⟩ : ByteArray), .slice none 0 0, .slice none 0 0]) (t := 83) ?hr ?_; (case hd => rfl); (case hg => rfl); (case hr => first | (go_simp; done) | (go_simp; rfl)); intro gb417 hg w30 hbox hb; have n0_ := BBz BK413 hb; have n1_ := Aside0.mk (below_step (HBb GE413) hb); have n2_ := Aside0.mk (hbox); have n3_ := BSz w hg (HBb GE413); have n4_ := BSz w hg (HBb GE413); have n5_ := BNz BK413 hg; have n6_ := BMz BK413 hg; clear BK413; clear HB; have BK413 := n0_; have HB := n1_; have BK417 := n2_; have GW417 := n3_; have GE417 := n4_; have NB413_417 := n5_; have NB417_413 := n6_; clear n0_ n1_ n2_ n3_ n4_ n5_ n6_; clear hb hbox hg; have hnb31 := NB417_413.out; have hnc31 := NB413_417.out; have hcz32_0 := C1z BK417; have hcz32_1 := C2z BK417; have hcz32_2 := C3z BK417; have hcz32_3 := C4z BK417; have hcz32_4 := C5z BK417; have hfz32_0 := blk_frozen BK417.out 0; have hfz32_1 := blk_frozen BK417.out 1; have hfz32_2 := blk_frozen BK417.out 2; have hfz32_3 := blk_frozen BK417.out 3; have hfz32_4 := blk_frozen BK417.out 4; have hcz33_0 := C1z BK413; have hcz33_1 := C2z BK413; have hfz33_0 := blk_frozen BK413.out 0; have hfz33_1 := blk_frozen BK413.out 1))
      go_ret
      exact ⟨EZa, HBc GE413 GE417⟩
     rw [if_pos c17] at H
     have c17b0 : (((rd_T83 l0_1 x26_2).f0) == (wrap64 ((wrap64 (a0_0 - t414)) + x26_2))) = true := beq_iff_eq.mpr c17
     (try (have c17v0 := c17b0; (try rw [show wrap64 (a0_0 - t414) = a0_0 - t414 from by unfold wrap64; omega] at c17v0); (try rw [show wrap64 ((wrap64 (a0_0 - t414)) + x26_2) = (wrap64 (a0_0 - t414)) + x26_2 from by unfold wrap64; omega] at c17v0)))
     have c17b1 : (((rd_T83 l0_1 x26_2).f0) != (wrap64 ((wrap64 (a0_0 - t414)) + x26_2))) = false := bne_eq_false_iff_eq.mpr c17
     (try (have c17v1 := c17b1; (try rw [show wrap64 (a0_0 - t414) = a0_0 - t414 from by unfold wrap64; omega] at c17v1); (try rw [show wrap64 ((wrap64 (a0_0 - t414)) + x26_2) = (wrap64 (a0_0 - t414)) + x26_2 from by unfold wrap64; omega] at c17v1)))
     clear c17
     replace H := Option.bind_eq_some_iff.mp H
     obtain ⟨t418, A180, H⟩ := H
     replace H : (if t418 = true then (impl_ChangesRight.l0 k2 t414 l0_1 (l0_1.length : Int) (wrap64 (x26_2 + 1)) a0_0 l0_1) else (some false)) = some r := H
     have A18 := Aside0.mk A180
     clear A180
     by_cases c19 : t418 = true
     rotate_left
     ·replace c19 := Bool.eq_false_iff.mpr c19
      subst c19
      have H1 : (some false) = some r := by rw [if_neg (show ¬ (false = true) by decide)] at H; exact H
      clear H
      have H := H1
      clear H1
      obtain rfl := Option.some.inj H
      have p416 : 0 ≤ (x26_2 : Int) := ODz
      have q416 : x26_2 < (l0_1.length : Int) := ODz
      obtain ⟨ad416, A416_3, c416_3, A416_4, c416_4, e416, hx416_0, hx416_1, hx416_2, hx416_3, hx416_4, hl416_3, hi416_3, hl416_4, hi416_4⟩ := at_T83 HR0_1.out x26_2 p416 q416
      cases e416
      replace hx416_0 := HXz HB hx416_0
      replace hx416_1 := HXz HB hx416_1
      replace hx416_2 := HXz HB hx416_2
      replace hx416_3 := HXz HB hx416_3
      replace hx416_4 := HXz HB hx416_4
      have HR416_3 := Aside0.mk hi416_3
      have HC416_3 := Aside0.mk hl416_3
      clear hi416_3 hl416_3
      have HR416_4 := Aside0.mk hi416_4
      have HC416_4 := Aside0.mk hl416_4
      clear hi416_4 hl416_4
      replace p416 := eq_true p416
      replace q416 := eq_true q416
      go_wp2_with (first | ((with_reducible refine gate_dst (N := 5) rfl ?_); refine box_event ?hg (N := 5) ?hd (cs := #[.int .i64 0, .int .i64 0, .string (⟨#[]⟩ : ByteArray), .slice none 0 0, .slice none 0 0]) (t := 83) ?hr ?_; (case hd => rfl); (case hg => rfl); (case hr => first | (go_simp; done) | (go_simp; rfl)); intro gb417 hg w25 hbox hb; have n0_ := BBz BK413 hb; have n1_ := Aside0.mk (below_step (HBb GE413) hb); have n2_ := Aside0.mk (hbox); have n3_ := BSz w hg (HBb GE413); have n4_ := BSz w hg (HBb GE413); have n5_ := BNz BK413 hg; have n6_ := BMz BK413 hg; clear BK413; clear HB; have BK413 := n0_; have HB := n1_; have BK417 := n2_; have GW417 := n3_; have GE417 := n4_; have NB413_417 := n5_; have NB417_413 := n6_; clear n0_ n1_ n2_ n3_ n4_ n5_ n6_; clear hb hbox hg; have hnb26 := NB417_413.out; have hnc26 := NB413_417.out; have hcz27_0 := C1z BK417; have hcz27_1 := C2z BK417; have hcz27_2 := C3z BK417; have hcz27_3 := C4z BK417; have hcz27_4 := C5z BK417; have hfz27_0 := blk_frozen BK417.out 0; have hfz27_1 := blk_frozen BK417.out 1; have hfz27_2 := blk_frozen BK417.out 2; have hfz27_3 := blk_frozen BK417.out 3; have hfz27_4 := blk_frozen BK417.out 4; have hcz28_0 := C1z BK413; have hcz28_1 := C2z BK413; have hfz28_0 := blk_frozen BK413.out 0; have hfz28_1 := blk_frozen BK413.out 1) | (go_at_call 58; (with_reducible refine (impl_isChange.calls k2 ((rd_T83 l0_1 x26_2).f0) ((rd_T83 l0_1 x26_2).f1) ((rd_T83 l0_1 x26_2).f2) _ _ ((rd_T83 l0_1 x26_2).f3.f0) _ _ ((rd_T83 l0_1 x26_2).f3.f1) false _ ?side1 ?side2 ?side3 ?side4 A18.out).mono ?_); (case side1 => exact Kd.C_below HR416_3.out (HBc GE413 GE417)); (case side2 => exact HC416_3.out); (case side3 => exact Kd.C_below HR416_4.out (HBc GE413 GE417)); (case side4 => exact HC416_4.out); rintro e w29 ⟨rfl, hb⟩; have n0_ := Aside0.mk (blk_below (g := gb413) (o := .cells #[.int .i64 a0_0, .slice (some ad416) l0_1.length c0_1] 45 (0, 0)) (by (with_reducible repeat (first | refine blk_drewN ?_ _ | refine blk_drew ?_ | refine blk_alloc ?_ _)); refine blk_far ?_ NB413_417.out _; (with_reducible repeat (first | refine blk_drewN ?_ _ | refine blk_drew ?_ | refine blk_alloc ?_ _)); refine blk_far ?_ NB413_417.out _; (with_reducible repeat (first | refine blk_drewN ?_ _ | refine blk_drew ?_ | refine blk_alloc ?_ _)); refine blk_far ?_ NB413_417.out _; (with_reducible repeat (first | refine blk_drewN ?_ _ | refine blk_drew ?_ | refine blk_alloc ?_ _)); refine blk_far ?_ NB413_417.out _; (with_reducible repeat (first | refine blk_drewN ?_ _ | refine blk_drew ?_ | refine blk_alloc ?_ _)); refine blk_far ?_ NB413_417.out _; (with_reducible repeat (first | refine blk_drewN ?_ _ | refine blk_drew ?_ | refine blk_alloc ?_ _)); exact BK413.out) hb); have n1_ := Aside0.mk (blk_below (g := gb417) (o := .cells #[.int .i64 ((rd_T83 l0_1 x26_2).f0), .int .i64 ((rd_T83 l0_1 x26_2).f1), .string ((rd_T83 l0_1 x26_2).f2), .slice A416_3 ((rd_T83 l0_1 x26_2).f3.f0).length c416_3, .slice A416_4 ((rd_T83 l0_1 x26_2).f3.f1).length c416_4] 83 (0, 0)) (by (with_reducible repeat (first | refine blk_drewN ?_ _ | refine blk_drew ?_ | refine blk_alloc ?_ _)); refine blk_put (cs := #[.int .i64 ((rd_T83 l0_1 x26_2).f0), .int .i64 ((rd_T83 l0_1 x26_2).f1), .string ((rd_T83 l0_1 x26_2).f2), .slice A416_3 ((rd_T83 l0_1 x26_2).f3.f0).length c416_3, .slice none 0 0]) ?_ 4 _ rfl; (with_reducible repeat (first | refine blk_drewN ?_ _ | refine blk_drew ?_ | refine blk_alloc ?_ _)); refine blk_put (cs := #[.int .i64 ((rd_T83 l0_1 x26_2).f0), .int .i64 ((rd_T83 l0_1 x26_2).f1), .string ((rd_T83 l0_1 x26_2).f2), .slice none 0 0, .slice none 0 0]) ?_ 3 _ rfl; (with_reducible repeat (first | refine blk_drewN ?_ _ | refine blk_drew ?_ | refine blk_alloc ?_ _)); refine blk_put (cs := #[.int .i64 ((rd_T83 l0_1 x26_2).f0), .int .i64 ((rd_T83 l0_1 x26_2).f1), .string (⟨#[]⟩ : ByteArray), .slice none 0 0, .slice none 0 0]) ?_ 2 _ rfl; (with_reducible repeat (first | refine blk_drewN ?_ _ | refine blk_drew ?_ | refine blk_alloc ?_ _)); refine blk_put (cs := #[.int .i64 ((rd_T83 l0_1 x26_2).f0), .int .i64 0, .string (⟨#[]⟩ : ByteArray), .slice none 0 0, .slice none 0 0]) ?_ 1 _ rfl; (with_reducible repeat (first | refine blk_drewN ?_ _ | refine blk_drew ?_ | refine blk_alloc ?_ _)); refine blk_put (cs := #[.int .i64 0, .int .i64 0, .string (⟨#[]⟩ : ByteArray), .slice none 0 0, .slice none 0 0]) ?_ 0 _ rfl; (with_reducible repeat (first | refine blk_drewN ?_ _ | refine blk_drew ?_ | refine blk_alloc ?_ _)); exact BK417.out) hb); have n2_ := Aside0.mk (below_step (HBc GE413 GE417) hb); clear BK413; clear BK417; clear HB; have BK413 := n0_; have BK417 := n1_; have HB := n2_; clear n0_ n1_ n2_; (try clear hb); (try clear hb2); (try clear hk); (try clear hi)))
      go_ret
      exact ⟨EZa, HBc GE413 GE417⟩
     subst c19
     have H1 : (impl_ChangesRight.l0 k2 t414 l0_1 (l0_1.length : Int) (wrap64 (x26_2 + 1)) a0_0 l0_1) = some r := by rw [if_pos rfl] at H; exact H
     clear H
     have H := H1
     clear H1
     have H' := Aside0.mk H
     clear H
     have p416 : 0 ≤ (x26_2 : Int) := ODz
     have q416 : x26_2 < (l0_1.length : Int) := ODz
     obtain ⟨ad416, A416_3, c416_3, A416_4, c416_4, e416, hx416_0, hx416_1, hx416_2, hx416_3, hx416_4, hl416_3, hi416_3, hl416_4, hi416_4⟩ := at_T83 HR0_1.out x26_2 p416 q416
     cases e416
     replace hx416_0 := HXz HB hx416_0
     replace hx416_1 := HXz HB hx416_1
     replace hx416_2 := HXz HB hx416_2
     replace hx416_3 := HXz HB hx416_3
     replace hx416_4 := HXz HB hx416_4
     have HR416_3 := Aside0.mk hi416_3
     have HC416_3 := Aside0.mk hl416_3
     clear hi416_3 hl416_3
     have HR416_4 := Aside0.mk hi416_4
     have HC416_4 := Aside0.mk hl416_4
     clear hi416_4 hl416_4
     replace p416 := eq_true p416
     replace q416 := eq_true q416
     go_wp2_with (first | ((with_reducible refine gate_dst (N := 5) rfl ?_); refine box_event ?hg (N := 5) ?hd (cs := #[.int .i64 0, .int .i64 0, .string (⟨#[]⟩ : ByteArray), .slice none 0 0, .slice none 0 0]) (t := 83) ?hr ?_; (case hd => rfl); (case hg => rfl); (case hr => first | (go_simp; done) | (go_simp; rfl)); intro gb417 hg w20 hbox hb; have n0_ := BBz BK413 hb; have n1_ := Aside0.mk (below_step (HBb GE413) hb); have n2_ := Aside0.mk (hbox); have n3_ := BSz w hg (HBb GE413); have n4_ := BSz w hg (HBb GE413); have n5_ := BNz BK413 hg; have n6_ := BMz BK413 hg; clear BK413; clear HB; have BK413 := n0_; have HB := n1_; have BK417 := n2_; have GW417 := n3_; have GE417 := n4_; have NB413_417 := n5_; have NB417_413 := n6_; clear n0_ n1_ n2_ n3_ n4_ n5_ n6_; clear hb hbox hg; have hnb21 := NB417_413.out; have hnc21 := NB413_417.out; have hcz22_0 := C1z BK417; have hcz22_1 := C2z BK417; have hcz22_2 := C3z BK417; have hcz22_3 := C4z BK417; have hcz22_4 := C5z BK417; have hfz22_0 := blk_frozen BK417.out 0; have hfz22_1 := blk_frozen BK417.out 1; have hfz22_2 := blk_frozen BK417.out 2; have hfz22_3 := blk_frozen BK417.out 3; have hfz22_4 := blk_frozen BK417.out 4; have hcz23_0 := C1z BK413; have hcz23_1 := C2z BK413; have hfz23_0 := blk_frozen BK413.out 0; have hfz23_1 := blk_frozen BK413.out 1) | (go_at_call 58; (with_reducible refine (impl_isChange.calls k2 ((rd_T83 l0_1 x26_2).f0) ((rd_T83 l0_1 x26_2).f1) ((rd_T83 l0_1 x26_2).f2) _ _ ((rd_T83 l0_1 x26_2).f3.f0) _ _ ((rd_T83 l0_1 x26_2).f3.f1) true _ ?side1 ?side2 ?side3 ?side4 A18.out).mono ?_); (case side1 => exact Kd.C_below HR416_3.out (HBc GE413 GE417)); (case side2 => exact HC416_3.out); (case side3 => exact Kd.C_below HR416_4.out (HBc GE413 GE417)); (case side4 => exact HC416_4.out); rintro e w24 ⟨rfl, hb⟩; have n0_ := Aside0.mk (blk_below (g := gb413) (o := .cells #[.int .i64 a0_0, .slice (some ad416) l0_1.length c0_1] 45 (0, 0)) (by (with_reducible repeat (first | refine blk_drewN ?_ _ | refine blk_drew ?_ | refine blk_alloc ?_ _)); refine blk_far ?_ NB413_417.out _; (with_reducible repeat (first | refine blk_drewN ?_ _ | refine blk_drew ?_ | refine blk_alloc ?_ _)); refine blk_far ?_ NB413_417.out _; (with_reducible repeat (first | refine blk_drewN ?_ _ | refine blk_drew ?_ | refine blk_alloc ?_ _)); refine blk_far ?_ NB413_417.out _; (with_reducible repeat (first | refine blk_drewN ?_ _ | refine blk_drew ?_ | refine blk_alloc ?_ _)); refine blk_far ?_ NB413_417.out _; (with_reducible repeat (first | refine blk_drewN ?_ _ | refine blk_drew ?_ | refine blk_alloc ?_ _)); refine blk_far ?_ NB413_417.out _; (with_reducible repeat (first | refine blk_drewN ?_ _ | refine blk_drew ?_ | refine blk_alloc ?_ _)); exact BK413.out) hb); have n1_ := Aside0.mk (blk_below (g := gb417) (o := .cells #[.int .i64 ((rd_T83 l0_1 x26_2).f0), .int .i64 ((rd_T83 l0_1 x26_2).f1), .string ((rd_T83 l0_1 x26_2).f2), .slice A416_3 ((rd_T83 l0_1 x26_2).f3.f0).length c416_3, .slice A416_4 ((rd_T83 l0_1 x26_2).f3.f1).length c416_4] 83 (0, 0)) (by (with_reducible repeat (first | refine blk_drewN ?_ _ | refine blk_drew ?_ | refine blk_alloc ?_ _)); refine blk_put (cs := #[.int .i64 ((rd_T83 l0_1 x26_2).f0), .int .i64 ((rd_T83 l0_1 x26_2).f1), .string ((rd_T83 l0_1 x26_2).f2), .slice A416_3 ((rd_T83 l0_1 x26_2).f3.f0).length c416_3, .slice none 0 0]) ?_ 4 _ rfl; (with_reducible repeat (first | refine blk_drewN ?_ _ | refine blk_drew ?_ | refine blk_alloc ?_ _)); refine blk_put (cs := #[.int .i64 ((rd_T83 l0_1 x26_2).f0), .int .i64 ((rd_T83 l0_1 x26_2).f1), .string ((rd_T83 l0_1 x26_2).f2), .slice none 0 0, .slice none 0 0]) ?_ 3 _ rfl; (with_reducible repeat (first | refine blk_drewN ?_ _ | refine blk_drew ?_ | refine blk_alloc ?_ _)); refine blk_put (cs := #[.int .i64 ((rd_T83 l0_1 x26_2).f0), .int .i64 ((rd_T83 l0_1 x26_2).f1), .string (⟨#[]⟩ : ByteArray), .slice none 0 0, .slice none 0 0]) ?_ 2 _ rfl; (with_reducible repeat (first | refine blk_drewN ?_ _ | refine blk_drew ?_ | refine blk_alloc ?_ _)); refine blk_put (cs := #[.int .i64 ((rd_T83 l0_1 x26_2).f0), .int .i64 0, .string (⟨#[]⟩ : ByteArray), .slice none 0 0, .slice none 0 0]) ?_ 1 _ rfl; (with_reducible repeat (first | refine blk_drewN ?_ _ | refine blk_drew ?_ | refine blk_alloc ?_ _)); refine blk_put (cs := #[.int .i64 0, .int .i64 0, .string (⟨#[]⟩ : ByteArray), .slice none 0 0, .slice none 0 0]) ?_ 0 _ rfl; (with_reducible repeat (first | refine blk_drewN ?_ _ | refine blk_drew ?_ | refine blk_alloc ?_ _)); exact BK417.out) hb); have n2_ := Aside0.mk (below_step (HBc GE413 GE417) hb); clear BK413; clear BK417; clear HB; have BK413 := n0_; have BK417 := n1_; have HB := n2_; clear n0_ n1_ n2_; (try clear hb); (try clear hb2); (try clear hk); (try clear hi)))
     go_roundg k2
     case measure => have := HJ2.out; have := HK2.out; omega
     case rel => exact ⟨(wrap64 (x26_2 + 1)), EZc, H', ⟨by have := HJ2.out; have := HK2.out; omega⟩, ⟨by (with_reducible repeat (first | refine blk_drewN ?_ _ | refine blk_drew ?_ | refine blk_alloc ?_ _)); exact BK413.out⟩, ⟨by repeat (first | (with_reducible first | exact HB.out | apply below_alloc | apply pw_below_drewN | apply below_drew1 | refine below_set ?_ GE413.out | refine below_set ?_ GE417.out) | exact HB.out)⟩⟩
def laws_eqRdn.f (a0_0 : ByteArray) (a0_1 : ByteArray) (a1_0 : ByteArray) (a1_1 : ByteArray) : Option (Bool) := if a0_0.toList = a1_0.toList then (if a0_1.toList = a1_1.toList then (some true) else (some false)) else (some false)
set_option maxHeartbeats 8000000 in
set_option maxRecDepth 100000 in
theorem laws_eqRdn.calls (a0_0 : ByteArray) (a0_1 : ByteArray) (a1_0 : ByteArray) (a1_1 : ByteArray) (r : Bool) (w : World) (h : laws_eqRdn.f a0_0 a0_1 a1_0 a1_1 = some r) :
  Calls Tryd.prog 190 #[.agg #[.string a0_0, .string a0_1], .agg #[.string a1_0, .string a1_1]] w fun e w' => e = .returned (.bool r) ∧ Below w.heap.size w w' := by
 have hu126 := Tryd.underlying126
 have HB := Aside0.mk (Below.refl w.heap.size w)
 have H : (if a0_0.toList = a1_0.toList then (if a0_1.toList = a1_1.toList then (some true) else (some false)) else (some false)) = some r := h
 clear h
 by_cases c3 : a0_0.toList = a1_0.toList
 rotate_left
 ·rw [if_neg c3] at H
  have c3b0 : (a0_0.toList == a1_0.toList) = false := beq_eq_false_iff_ne.mpr c3
  have c3b1 : (a0_0.toList != a1_0.toList) = true := bne_iff_ne.mpr c3
  obtain rfl := Option.some.inj H
  go_enter Tryd.func190, Tryd.ntmps190
  go_wp2_with (first | ((with_reducible refine gate_dst (N := 2) rfl ?_); refine box_event ?hg (N := 2) ?hd (cs := #[.string a0_0, .string a0_1]) (t := 126) ?hr ?_; (case hd => rfl); (case hg => rfl); (case hr => first | (go_simp; done) | (go_simp; rfl)); intro gb419 hg w15 hbox hb; have n0_ := Aside0.mk (below_step HBa hb); have n1_ := Aside0.mk (hbox); have n2_ := BSz w hg HBa; have n3_ := BSz w hg HBa; clear HB; have HB := n0_; have BK419 := n1_; have GW419 := n2_; have GE419 := n3_; clear n0_ n1_ n2_ n3_; clear hb hbox hg) | ((with_reducible refine gate_dst (N := 3) rfl ?_); refine box_event ?hg (N := 3) ?hd (cs := #[.string a1_0, .string a1_1]) (t := 126) ?hr ?_; (case hd => rfl); (case hg => rfl); (case hr => first | (go_simp; done) | (go_simp; rfl)); intro gb420 hg w16 hbox hb; have n0_ := BBz BK419 hb; have n1_ := Aside0.mk (below_step (HBb GE419) hb); have n2_ := Aside0.mk (hbox); have n3_ := BSz w hg (HBb GE419); have n4_ := BSz w hg (HBb GE419); have n5_ := BNz BK419 hg; have n6_ := BMz BK419 hg; clear BK419; clear HB; have BK419 := n0_; have HB := n1_; have BK420 := n2_; have GW420 := n3_; have GE420 := n4_; have NB419_420 := n5_; have NB420_419 := n6_; clear n0_ n1_ n2_ n3_ n4_ n5_ n6_; clear hb hbox hg; have hnb17 := NB419_420.out; have hnc17 := NB420_419.out; have hcz18_0 := C1z BK419; have hcz18_1 := C2z BK419; have hfz18_0 := blk_frozen BK419.out 0; have hfz18_1 := blk_frozen BK419.out 1; have hcz19_0 := C1z BK420; have hcz19_1 := C2z BK420; have hfz19_0 := blk_frozen BK420.out 0; have hfz19_1 := blk_frozen BK420.out 1))
  go_ret
  exact ⟨EZa, HBc GE419 GE420⟩
 rw [if_pos c3] at H
 have c3b0 : (a0_0.toList == a1_0.toList) = true := beq_iff_eq.mpr c3
 have c3b1 : (a0_0.toList != a1_0.toList) = false := bne_eq_false_iff_eq.mpr c3
 clear c3
 by_cases c4 : a0_1.toList = a1_1.toList
 ·rw [if_pos c4] at H
  have c4b0 : (a0_1.toList == a1_1.toList) = true := beq_iff_eq.mpr c4
  have c4b1 : (a0_1.toList != a1_1.toList) = false := bne_eq_false_iff_eq.mpr c4
  clear c4
  obtain rfl := Option.some.inj H
  go_enter Tryd.func190, Tryd.ntmps190
  go_wp2_with (first | ((with_reducible refine gate_dst (N := 2) rfl ?_); refine box_event ?hg (N := 2) ?hd (cs := #[.string a0_0, .string a0_1]) (t := 126) ?hr ?_; (case hd => rfl); (case hg => rfl); (case hr => first | (go_simp; done) | (go_simp; rfl)); intro gb419 hg w5 hbox hb; have n0_ := Aside0.mk (below_step HBa hb); have n1_ := Aside0.mk (hbox); have n2_ := BSz w hg HBa; have n3_ := BSz w hg HBa; clear HB; have HB := n0_; have BK419 := n1_; have GW419 := n2_; have GE419 := n3_; clear n0_ n1_ n2_ n3_; clear hb hbox hg) | ((with_reducible refine gate_dst (N := 3) rfl ?_); refine box_event ?hg (N := 3) ?hd (cs := #[.string a1_0, .string a1_1]) (t := 126) ?hr ?_; (case hd => rfl); (case hg => rfl); (case hr => first | (go_simp; done) | (go_simp; rfl)); intro gb420 hg w6 hbox hb; have n0_ := BBz BK419 hb; have n1_ := Aside0.mk (below_step (HBb GE419) hb); have n2_ := Aside0.mk (hbox); have n3_ := BSz w hg (HBb GE419); have n4_ := BSz w hg (HBb GE419); have n5_ := BNz BK419 hg; have n6_ := BMz BK419 hg; clear BK419; clear HB; have BK419 := n0_; have HB := n1_; have BK420 := n2_; have GW420 := n3_; have GE420 := n4_; have NB419_420 := n5_; have NB420_419 := n6_; clear n0_ n1_ n2_ n3_ n4_ n5_ n6_; clear hb hbox hg; have hnb7 := NB419_420.out; have hnc7 := NB420_419.out; have hcz8_0 := C1z BK419; have hcz8_1 := C2z BK419; have hfz8_0 := blk_frozen BK419.out 0; have hfz8_1 := blk_frozen BK419.out 1; have hcz9_0 := C1z BK420; have hcz9_1 := C2z BK420; have hfz9_0 := blk_frozen BK420.out 0; have hfz9_1 := blk_frozen BK420.out 1))
  go_ret
  exact ⟨EZa, HBc GE419 GE420⟩
 rw [if_neg c4] at H
 have c4b0 : (a0_1.toList == a1_1.toList) = false := beq_eq_false_iff_ne.mpr c4
 have c4b1 : (a0_1.toList != a1_1.toList) = true := bne_iff_ne.mpr c4
 obtain rfl := Option.some.inj H
 go_enter Tryd.func190, Tryd.ntmps190
 go_wp2_with (first | ((with_reducible refine gate_dst (N := 2) rfl ?_); refine box_event ?hg (N := 2) ?hd (cs := #[.string a0_0, .string a0_1]) (t := 126) ?hr ?_; (case hd => rfl); (case hg => rfl); (case hr => first | (go_simp; done) | (go_simp; rfl)); intro gb419 hg w10 hbox hb; have n0_ := Aside0.mk (below_step HBa hb); have n1_ := Aside0.mk (hbox); have n2_ := BSz w hg HBa; have n3_ := BSz w hg HBa; clear HB; have HB := n0_; have BK419 := n1_; have GW419 := n2_; have GE419 := n3_; clear n0_ n1_ n2_ n3_; clear hb hbox hg) | ((with_reducible refine gate_dst (N := 3) rfl ?_); refine box_event ?hg (N := 3) ?hd (cs := #[.string a1_0, .string a1_1]) (t := 126) ?hr ?_; (case hd => rfl); (case hg => rfl); (case hr => first | (go_simp; done) | (go_simp; rfl)); intro gb420 hg w11 hbox hb; have n0_ := BBz BK419 hb; have n1_ := Aside0.mk (below_step (HBb GE419) hb); have n2_ := Aside0.mk (hbox); have n3_ := BSz w hg (HBb GE419); have n4_ := BSz w hg (HBb GE419); have n5_ := BNz BK419 hg; have n6_ := BMz BK419 hg; clear BK419; clear HB; have BK419 := n0_; have HB := n1_; have BK420 := n2_; have GW420 := n3_; have GE420 := n4_; have NB419_420 := n5_; have NB420_419 := n6_; clear n0_ n1_ n2_ n3_ n4_ n5_ n6_; clear hb hbox hg; have hnb12 := NB419_420.out; have hnc12 := NB420_419.out; have hcz13_0 := C1z BK419; have hcz13_1 := C2z BK419; have hfz13_0 := blk_frozen BK419.out 0; have hfz13_1 := blk_frozen BK419.out 1; have hcz14_0 := C1z BK420; have hcz14_1 := C2z BK420; have hfz14_0 := blk_frozen BK420.out 0; have hfz14_1 := blk_frozen BK420.out 1))
 go_ret
 exact ⟨EZa, HBc GE419 GE420⟩
end Go.Proofs.YtgkjlfimjnhbbaaDoor.PFnExactChangesRight
