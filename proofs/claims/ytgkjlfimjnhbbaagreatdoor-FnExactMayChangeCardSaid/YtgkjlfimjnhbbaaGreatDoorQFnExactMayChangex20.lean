-- Laid by this session's own program out of the translation; Lean checks it.
import Derived.Test.YtgkjlfimjnhbbaaGreatDoorQFnExactMayChangex0
import Derived.Test.YtgkjlfimjnhbbaaGreatDoorQFnExactMayChangex1
import Derived.Test.YtgkjlfimjnhbbaaGreatDoorQFnExactMayChangex9
import Derived.Test.YtgkjlfimjnhbbaaGreatDoorQFnExactMayChangex10
import Derived.Test.YtgkjlfimjnhbbaaGreatDoorQFnExactMayChangex16
import Derived.Test.YtgkjlfimjnhbbaaGreatDoorQFnExactMayChangex18
import Derived.Test.YtgkjlfimjnhbbaaGreatDoorQFnExactMayChangex19
namespace Go.Proofs.YtgkjlfimjnhbbaaGreatDoor.PFnExactMayChange
open Go.RowKit Go.Proofs.YtgkjlfimjnhbbaaGreatDoorW.PrintWords Go.Proofs.YtgkjlfimjnhbbaaGreatDoorW.PrintLast Go.Proofs.YtgkjlfimjnhbbaaGreatDoorW.PrintMore
attribute [local go_sem] max2_int min2_int max_two min_two max_three min_three max_four min_four   -- for this text's walks alone
set_option linter.unusedVariables false
set_option linter.unusedSimpArgs false
def laws_FnExactMayChange.f (k : Nat) (l0 : List (S73)) (a1 : ByteArray) (l2_0 : List (S120)) (l2_1 : List (S123)) (l3 : List ByteArray) : Option (Bool) := if (a1.size : Int) > 1048576 then (some true) else ((laws_szRuleS.f k l0 1048576).bind fun t357 => (if t357 < 0 then (some true) else ((laws_szEntry.f k l2_0 l2_1 t357).bind fun t358 => (if t358 < 0 then (some true) else ((laws_szStringS.f k l3 t358).bind fun t359 => (if t359 < 0 then (some true) else ((laws_toRuleS.f k l0).bind fun t360 => ((laws_toEntry.f k l2_0 l2_1).bind fun bt363 => ((laws_toStringS.f k l3).bind fun t369 => ((spec_MayChange.f k t360 a1 bt363.1 bt363.2 t369).bind fun t372 => ((laws_toRuleS.f k l0).bind fun t373 => ((laws_toEntry.f k l2_0 l2_1).bind fun bt376 => ((laws_toStringS.f k l3).bind fun t383 => ((impl_MayChange.f k t373 a1 bt376.1 bt376.2 t383).bind fun t386 => (if (t386 != t372) = true then (some false) else ((laws_toRuleS.f k l0).bind fun t387 => ((laws_eqRuleS.f k t373 t387).bind fun t390 => (if t390 = true then ((laws_toEntry.f k l2_0 l2_1).bind fun bt391 => ((laws_eqEntry.f k bt376.1 bt376.2 bt391.1 bt391.2).bind fun t397 => (if t397 = true then ((laws_toStringS.f k l3).bind fun t398 => ((laws_eqStringS.f k t383 t398).bind fun t401 => (if t401 = true then (some true) else (some false)))) else (some false)))) else (some false)))))))))))))))))))
theorem laws_FnExactMayChange.mono : ∀ a0 a1 a2 a3 a4 k, LeO (laws_FnExactMayChange.f k a0 a1 a2 a3 a4) (laws_FnExactMayChange.f (k + 1) a0 a1 a2 a3 a4) := by
 intro a0 a1 a2 a3 a4 k
 unfold laws_FnExactMayChange.f
 repeat' first
   | (with_reducible exact impl_MayChange.mono _ _ _ _ _ _)
   | (with_reducible exact laws_eqEntry.mono _ _ _ _ _)
   | (with_reducible exact laws_eqRuleS.mono _ _ _)
   | (with_reducible exact laws_eqStringS.mono _ _ _)
   | (with_reducible exact laws_szEntry.mono _ _ _ _)
   | (with_reducible exact laws_szRuleS.mono _ _ _)
   | (with_reducible exact laws_szStringS.mono _ _ _)
   | (with_reducible exact laws_toEntry.mono _ _ _)
   | (with_reducible exact laws_toRuleS.mono _ _)
   | (with_reducible exact laws_toStringS.mono _ _)
   | (with_reducible exact spec_MayChange.mono _ _ _ _ _ _)
   | (with_reducible exact LeO.refl _)
   | (with_reducible exact LeO.none _)
   | (with_reducible refine LeO.ite ?_ ?_)
   | (with_reducible refine LeO.bind ?_ (fun _ => ?_))
   | exact impl_MayChange.mono _ _ _ _ _ _
   | exact laws_eqEntry.mono _ _ _ _ _
   | exact laws_eqRuleS.mono _ _ _
   | exact laws_eqStringS.mono _ _ _
   | exact laws_szEntry.mono _ _ _ _
   | exact laws_szRuleS.mono _ _ _
   | exact laws_szStringS.mono _ _ _
   | exact laws_toEntry.mono _ _ _
   | exact laws_toRuleS.mono _ _
   | exact laws_toStringS.mono _ _
   | exact spec_MayChange.mono _ _ _ _ _ _
   | exact LeO.none _
   | refine LeO.ite ?_ ?_
   | refine LeO.bind ?_ (fun _ => ?_)
def laws_FnExactMayChange.T13 : Bool × List (List Nat × List Nat) := (true, [([], []), ([0], [0]), ([], []), ([], []), ([3, 1], [3]), ([], []), ([5, 4], [5]), ([1, 2, 4, 6, 6], [1, 2, 4, 6]), ([7, 7, 0, 1, 2, 3, 4, 5, 6, 7], [7])])
def laws_FnExactMayChange.B13 : List Nat := [0, 1, 0, 0, 11, 0, 59, 127, 255]
theorem laws_FnExactMayChange.tab13 : rtab .any (opsOf Tryz.f3 13) = laws_FnExactMayChange.T13 := by kernel_rfl
theorem laws_FnExactMayChange.bits13 : waitsOk laws_FnExactMayChange.T13.2 laws_FnExactMayChange.B13 = true := by kernel_rfl
set_option maxHeartbeats 8000000 in
set_option maxRecDepth 100000 in
theorem laws_FnExactMayChange.calls (k : Nat) (A0 : Option Addr) (c0 : Nat) (l0 : List (S73)) (a1 : ByteArray) (A2_0 : Option Addr) (c2_0 : Nat) (l2_0 : List (S120)) (A2_1 : Option Addr) (c2_1 : Nat) (l2_1 : List (S123)) (A3 : Option Addr) (c3 : Nat) (l3 : List ByteArray) (r : Bool) (w : World) (hr0 : Kd.C k73 w A0 l0.length l0) (hc0 : l0.length ≤ c0) (hr2_0 : Kd.C k120 w A2_0 l2_0.length l2_0) (hc2_0 : l2_0.length ≤ c2_0) (hr2_1 : Kd.C k123 w A2_1 l2_1.length l2_1) (hc2_1 : l2_1.length ≤ c2_1) (hr3 : Kd.C Kd.string w A3 l3.length l3) (hc3 : l3.length ≤ c3) (h : laws_FnExactMayChange.f k l0 a1 l2_0 l2_1 l3 = some r) :
  Calls Tryz.prog 3 #[.slice A0 l0.length c0, .string a1, .agg #[.slice A2_0 l2_0.length c2_0, .slice A2_1 l2_1.length c2_1], .slice A3 l3.length c3] w fun e w' => e = .returned (.bool r) ∧ Below w.heap.size w w' := by
 have hu26 := Tryz.underlying26
 have hu37 := Tryz.underlying37
 have HR0 := Aside0.mk hr0
 have HC0 := Aside0.mk hc0
 clear hr0 hc0
 have HR2_0 := Aside0.mk hr2_0
 have HC2_0 := Aside0.mk hc2_0
 clear hr2_0 hc2_0
 have HR2_1 := Aside0.mk hr2_1
 have HC2_1 := Aside0.mk hc2_1
 clear hr2_1 hc2_1
 have HR3 := Aside0.mk hr3
 have HC3 := Aside0.mk hc3
 clear hr3 hc3
 have HB := Aside0.mk (Below.refl w.heap.size w)
 have H : (if (a1.size : Int) > 1048576 then (some true) else ((laws_szRuleS.f k l0 1048576).bind fun t357 => (if t357 < 0 then (some true) else ((laws_szEntry.f k l2_0 l2_1 t357).bind fun t358 => (if t358 < 0 then (some true) else ((laws_szStringS.f k l3 t358).bind fun t359 => (if t359 < 0 then (some true) else ((laws_toRuleS.f k l0).bind fun t360 => ((laws_toEntry.f k l2_0 l2_1).bind fun bt363 => ((laws_toStringS.f k l3).bind fun t369 => ((spec_MayChange.f k t360 a1 bt363.1 bt363.2 t369).bind fun t372 => ((laws_toRuleS.f k l0).bind fun t373 => ((laws_toEntry.f k l2_0 l2_1).bind fun bt376 => ((laws_toStringS.f k l3).bind fun t383 => ((impl_MayChange.f k t373 a1 bt376.1 bt376.2 t383).bind fun t386 => (if (t386 != t372) = true then (some false) else ((laws_toRuleS.f k l0).bind fun t387 => ((laws_eqRuleS.f k t373 t387).bind fun t390 => (if t390 = true then ((laws_toEntry.f k l2_0 l2_1).bind fun bt391 => ((laws_eqEntry.f k bt376.1 bt376.2 bt391.1 bt391.2).bind fun t397 => (if t397 = true then ((laws_toStringS.f k l3).bind fun t398 => ((laws_eqStringS.f k t383 t398).bind fun t401 => (if t401 = true then (some true) else (some false)))) else (some false)))) else (some false)))))))))))))))))))) = some r := h
 clear h
 by_cases c5 : (a1.size : Int) > 1048576
 ·rw [if_pos c5] at H
  have c5b0 : decide (1048576 < (a1.size : Int)) = true := decide_eq_true c5
  have c5b1 : decide (1048576 < a1.size) = true := decide_eq_true (by omega)
  clear c5
  obtain rfl := Option.some.inj H
  go_enter Tryz.func3, Tryz.ntmps3
  go_wp2_with (first | ((with_reducible refine gate_dst (N := 6) rfl ?_); refine box_event ?hg (N := 6) ?hd (cs := #[.slice A2_0 l2_0.length c2_0, .slice A2_1 l2_1.length c2_1]) (t := 26) ?hr ?_; (case hd => rfl); (case hg => rfl); (case hr => first | (go_simp; done) | (go_simp; rfl)); intro gb356 hg w6 hbox hb; have n0_ := Aside0.mk (below_step HBa hb); have n1_ := Aside0.mk (hbox); have n2_ := BSz w hg HBa; have n3_ := BSz w hg HBa; clear HB; have HB := n0_; have BK356 := n1_; have GW356 := n2_; have GE356 := n3_; clear n0_ n1_ n2_ n3_; clear hb hbox hg))
  go_ret
  exact ⟨EZa, HBb GE356⟩
 rw [if_neg c5] at H
 have c5b0 : decide (1048576 < (a1.size : Int)) = false := decide_eq_false c5
 have c5b1 : decide (1048576 < a1.size) = false := decide_eq_false (by omega)
 clear c5
 replace H := Option.bind_eq_some_iff.mp H
 obtain ⟨t357, A70, H⟩ := H
 replace H : (if t357 < 0 then (some true) else ((laws_szEntry.f k l2_0 l2_1 t357).bind fun t358 => (if t358 < 0 then (some true) else ((laws_szStringS.f k l3 t358).bind fun t359 => (if t359 < 0 then (some true) else ((laws_toRuleS.f k l0).bind fun t360 => ((laws_toEntry.f k l2_0 l2_1).bind fun bt363 => ((laws_toStringS.f k l3).bind fun t369 => ((spec_MayChange.f k t360 a1 bt363.1 bt363.2 t369).bind fun t372 => ((laws_toRuleS.f k l0).bind fun t373 => ((laws_toEntry.f k l2_0 l2_1).bind fun bt376 => ((laws_toStringS.f k l3).bind fun t383 => ((impl_MayChange.f k t373 a1 bt376.1 bt376.2 t383).bind fun t386 => (if (t386 != t372) = true then (some false) else ((laws_toRuleS.f k l0).bind fun t387 => ((laws_eqRuleS.f k t373 t387).bind fun t390 => (if t390 = true then ((laws_toEntry.f k l2_0 l2_1).bind fun bt391 => ((laws_eqEntry.f k bt376.1 bt376.2 bt391.1 bt391.2).bind fun t397 => (if t397 = true then ((laws_toStringS.f k l3).bind fun t398 => ((laws_eqStringS.f k t383 t398).bind fun t401 => (if t401 = true then (some true) else (some false)))) else (some false)))) else (some false)))))))))))))))))) = some r := H
 have A7 := Aside0.mk A70
 clear A70
 by_cases c8 : t357 < 0
 ·rw [if_pos c8] at H
  have c8b0 : decide (t357 < 0) = true := decide_eq_true c8
  clear c8
  obtain rfl := Option.some.inj H
  go_enter Tryz.func3, Tryz.ntmps3
  go_wp2_with (first | ((with_reducible refine gate_dst (N := 6) rfl ?_); refine box_event ?hg (N := 6) ?hd (cs := #[.slice A2_0 l2_0.length c2_0, .slice A2_1 l2_1.length c2_1]) (t := 26) ?hr ?_; (case hd => rfl); (case hg => rfl); (case hr => first | (go_simp; done) | (go_simp; rfl)); intro gb356 hg w9 hbox hb; have n0_ := Aside0.mk (below_step HBa hb); have n1_ := Aside0.mk (hbox); have n2_ := BSz w hg HBa; have n3_ := BSz w hg HBa; clear HB; have HB := n0_; have BK356 := n1_; have GW356 := n2_; have GE356 := n3_; clear n0_ n1_ n2_ n3_; clear hb hbox hg) | ((with_reducible refine gate_callee (f := 7) rfl ?_); refine goesL_ (some 20) rfl rfl Tryz.func7 (by kernel_rfl) rfl #[.slice A0 l0.length c0, .int .i64 1048576] rfl MPz ?_; (with_reducible refine (laws_szRuleS.calls k _ _ l0 1048576 t357 _ ?side1 ?side2 A7.out).mono ?_); (case side1 => exact KCz (Kd.C_below HR0.out HB.out)); (case side2 => exact HC0.out); rintro e w10 ⟨rfl, hb⟩; refine ⟨_, rfl, ?_⟩; have n0_ := BBz BK356 hb; have n1_ := Aside0.mk (below_step (HBb GE356) hb); clear BK356; clear HB; have BK356 := n0_; have HB := n1_; clear n0_ n1_; (try clear hb); (try clear hb2); (try clear hk); (try clear hi)))
  go_ret
  exact ⟨EZa, HBb GE356⟩
 rw [if_neg c8] at H
 have c8b0 : decide (t357 < 0) = false := decide_eq_false c8
 clear c8
 replace H := Option.bind_eq_some_iff.mp H
 obtain ⟨t358, A110, H⟩ := H
 replace H : (if t358 < 0 then (some true) else ((laws_szStringS.f k l3 t358).bind fun t359 => (if t359 < 0 then (some true) else ((laws_toRuleS.f k l0).bind fun t360 => ((laws_toEntry.f k l2_0 l2_1).bind fun bt363 => ((laws_toStringS.f k l3).bind fun t369 => ((spec_MayChange.f k t360 a1 bt363.1 bt363.2 t369).bind fun t372 => ((laws_toRuleS.f k l0).bind fun t373 => ((laws_toEntry.f k l2_0 l2_1).bind fun bt376 => ((laws_toStringS.f k l3).bind fun t383 => ((impl_MayChange.f k t373 a1 bt376.1 bt376.2 t383).bind fun t386 => (if (t386 != t372) = true then (some false) else ((laws_toRuleS.f k l0).bind fun t387 => ((laws_eqRuleS.f k t373 t387).bind fun t390 => (if t390 = true then ((laws_toEntry.f k l2_0 l2_1).bind fun bt391 => ((laws_eqEntry.f k bt376.1 bt376.2 bt391.1 bt391.2).bind fun t397 => (if t397 = true then ((laws_toStringS.f k l3).bind fun t398 => ((laws_eqStringS.f k t383 t398).bind fun t401 => (if t401 = true then (some true) else (some false)))) else (some false)))) else (some false)))))))))))))))) = some r := H
 have A11 := Aside0.mk A110
 clear A110
 by_cases c12 : t358 < 0
 ·rw [if_pos c12] at H
  have c12b0 : decide (t358 < 0) = true := decide_eq_true c12
  clear c12
  obtain rfl := Option.some.inj H
  go_enter Tryz.func3, Tryz.ntmps3
  go_wp2_with (first | ((with_reducible refine gate_dst (N := 6) rfl ?_); refine box_event ?hg (N := 6) ?hd (cs := #[.slice A2_0 l2_0.length c2_0, .slice A2_1 l2_1.length c2_1]) (t := 26) ?hr ?_; (case hd => rfl); (case hg => rfl); (case hr => first | (go_simp; done) | (go_simp; rfl)); intro gb356 hg w13 hbox hb; have n0_ := Aside0.mk (below_step HBa hb); have n1_ := Aside0.mk (hbox); have n2_ := BSz w hg HBa; have n3_ := BSz w hg HBa; clear HB; have HB := n0_; have BK356 := n1_; have GW356 := n2_; have GE356 := n3_; clear n0_ n1_ n2_ n3_; clear hb hbox hg) | ((with_reducible refine gate_callee (f := 7) rfl ?_); refine goesL_ (some 20) rfl rfl Tryz.func7 (by kernel_rfl) rfl #[.slice A0 l0.length c0, .int .i64 1048576] rfl MPz ?_; (with_reducible refine (laws_szRuleS.calls k _ _ l0 1048576 t357 _ ?side1 ?side2 A7.out).mono ?_); (case side1 => exact KCz (Kd.C_below HR0.out HB.out)); (case side2 => exact HC0.out); rintro e w14 ⟨rfl, hb⟩; refine ⟨_, rfl, ?_⟩; have n0_ := BBz BK356 hb; have n1_ := Aside0.mk (below_step (HBb GE356) hb); clear BK356; clear HB; have BK356 := n0_; have HB := n1_; clear n0_ n1_; (try clear hb); (try clear hb2); (try clear hk); (try clear hi); have hcz15_0 := C1z BK356; have hcz15_1 := C2z BK356; have hfz15_0 := blk_frozen BK356.out 0; have hfz15_1 := blk_frozen BK356.out 1) | ((with_reducible refine gate_callee (f := 8) rfl ?_); refine goesL_ (some 25) rfl rfl Tryz.func8 (by kernel_rfl) rfl #[.agg #[.slice A2_0 l2_0.length c2_0, .slice A2_1 l2_1.length c2_1], .int .i64 t357] rfl MPz ?_; (with_reducible refine (laws_szEntry.calls k _ _ l2_0 _ _ l2_1 t357 t358 _ ?side1 ?side2 ?side3 ?side4 A11.out).mono ?_); (case side1 => exact KCz (Kd.C_below HR2_0.out HB.out)); (case side2 => exact HC2_0.out); (case side3 => exact KCz (Kd.C_below HR2_1.out HB.out)); (case side4 => exact HC2_1.out); rintro e w16 ⟨rfl, hb⟩; refine ⟨_, rfl, ?_⟩; have n0_ := BBz BK356 hb; have n1_ := Aside0.mk (below_step (HBb GE356) hb); clear BK356; clear HB; have BK356 := n0_; have HB := n1_; clear n0_ n1_; (try clear hb); (try clear hb2); (try clear hk); (try clear hi)))
  go_ret
  exact ⟨EZa, HBb GE356⟩
 rw [if_neg c12] at H
 have c12b0 : decide (t358 < 0) = false := decide_eq_false c12
 clear c12
 replace H := Option.bind_eq_some_iff.mp H
 obtain ⟨t359, A170, H⟩ := H
 replace H : (if t359 < 0 then (some true) else ((laws_toRuleS.f k l0).bind fun t360 => ((laws_toEntry.f k l2_0 l2_1).bind fun bt363 => ((laws_toStringS.f k l3).bind fun t369 => ((spec_MayChange.f k t360 a1 bt363.1 bt363.2 t369).bind fun t372 => ((laws_toRuleS.f k l0).bind fun t373 => ((laws_toEntry.f k l2_0 l2_1).bind fun bt376 => ((laws_toStringS.f k l3).bind fun t383 => ((impl_MayChange.f k t373 a1 bt376.1 bt376.2 t383).bind fun t386 => (if (t386 != t372) = true then (some false) else ((laws_toRuleS.f k l0).bind fun t387 => ((laws_eqRuleS.f k t373 t387).bind fun t390 => (if t390 = true then ((laws_toEntry.f k l2_0 l2_1).bind fun bt391 => ((laws_eqEntry.f k bt376.1 bt376.2 bt391.1 bt391.2).bind fun t397 => (if t397 = true then ((laws_toStringS.f k l3).bind fun t398 => ((laws_eqStringS.f k t383 t398).bind fun t401 => (if t401 = true then (some true) else (some false)))) else (some false)))) else (some false)))))))))))))) = some r := H
 have A17 := Aside0.mk A170
 clear A170
 by_cases c18 : t359 < 0
 ·rw [if_pos c18] at H
  have c18b0 : decide (t359 < 0) = true := decide_eq_true c18
  clear c18
  obtain rfl := Option.some.inj H
  go_enter Tryz.func3, Tryz.ntmps3
  go_wp2_with (first | ((with_reducible refine gate_dst (N := 6) rfl ?_); refine box_event ?hg (N := 6) ?hd (cs := #[.slice A2_0 l2_0.length c2_0, .slice A2_1 l2_1.length c2_1]) (t := 26) ?hr ?_; (case hd => rfl); (case hg => rfl); (case hr => first | (go_simp; done) | (go_simp; rfl)); intro gb356 hg w19 hbox hb; have n0_ := Aside0.mk (below_step HBa hb); have n1_ := Aside0.mk (hbox); have n2_ := BSz w hg HBa; have n3_ := BSz w hg HBa; clear HB; have HB := n0_; have BK356 := n1_; have GW356 := n2_; have GE356 := n3_; clear n0_ n1_ n2_ n3_; clear hb hbox hg) | ((with_reducible refine gate_callee (f := 7) rfl ?_); refine goesL_ (some 20) rfl rfl Tryz.func7 (by kernel_rfl) rfl #[.slice A0 l0.length c0, .int .i64 1048576] rfl MPz ?_; (with_reducible refine (laws_szRuleS.calls k _ _ l0 1048576 t357 _ ?side1 ?side2 A7.out).mono ?_); (case side1 => exact KCz (Kd.C_below HR0.out HB.out)); (case side2 => exact HC0.out); rintro e w20 ⟨rfl, hb⟩; refine ⟨_, rfl, ?_⟩; have n0_ := BBz BK356 hb; have n1_ := Aside0.mk (below_step (HBb GE356) hb); clear BK356; clear HB; have BK356 := n0_; have HB := n1_; clear n0_ n1_; (try clear hb); (try clear hb2); (try clear hk); (try clear hi); have hcz21_0 := C1z BK356; have hcz21_1 := C2z BK356; have hfz21_0 := blk_frozen BK356.out 0; have hfz21_1 := blk_frozen BK356.out 1) | ((with_reducible refine gate_callee (f := 8) rfl ?_); refine goesL_ (some 25) rfl rfl Tryz.func8 (by kernel_rfl) rfl #[.agg #[.slice A2_0 l2_0.length c2_0, .slice A2_1 l2_1.length c2_1], .int .i64 t357] rfl MPz ?_; (with_reducible refine (laws_szEntry.calls k _ _ l2_0 _ _ l2_1 t357 t358 _ ?side1 ?side2 ?side3 ?side4 A11.out).mono ?_); (case side1 => exact KCz (Kd.C_below HR2_0.out HB.out)); (case side2 => exact HC2_0.out); (case side3 => exact KCz (Kd.C_below HR2_1.out HB.out)); (case side4 => exact HC2_1.out); rintro e w22 ⟨rfl, hb⟩; refine ⟨_, rfl, ?_⟩; have n0_ := BBz BK356 hb; have n1_ := Aside0.mk (below_step (HBb GE356) hb); clear BK356; clear HB; have BK356 := n0_; have HB := n1_; clear n0_ n1_; (try clear hb); (try clear hb2); (try clear hk); (try clear hi)) | ((with_reducible refine gate_callee (f := 9) rfl ?_); refine goesL_ (some 30) rfl rfl Tryz.func9 (by kernel_rfl) rfl #[.slice A3 l3.length c3, .int .i64 t358] rfl MPz ?_; (with_reducible refine (laws_szStringS.calls k _ _ l3 t358 t359 _ ?side1 ?side2 A17.out).mono ?_); (case side1 => exact KCz (Kd.C_below HR3.out HB.out)); (case side2 => exact HC3.out); rintro e w' ⟨rfl, ⟨nd, rfl⟩⟩; refine ⟨_, rfl, ?_⟩))
  go_ret
  exact ⟨EZa, HBb GE356⟩
 rw [if_neg c18] at H
 have c18b0 : decide (t359 < 0) = false := decide_eq_false c18
 clear c18
 replace H := Option.bind_eq_some_iff.mp H
 obtain ⟨t360, A230, H⟩ := H
 replace H : ((laws_toEntry.f k l2_0 l2_1).bind fun bt363 => ((laws_toStringS.f k l3).bind fun t369 => ((spec_MayChange.f k t360 a1 bt363.1 bt363.2 t369).bind fun t372 => ((laws_toRuleS.f k l0).bind fun t373 => ((laws_toEntry.f k l2_0 l2_1).bind fun bt376 => ((laws_toStringS.f k l3).bind fun t383 => ((impl_MayChange.f k t373 a1 bt376.1 bt376.2 t383).bind fun t386 => (if (t386 != t372) = true then (some false) else ((laws_toRuleS.f k l0).bind fun t387 => ((laws_eqRuleS.f k t373 t387).bind fun t390 => (if t390 = true then ((laws_toEntry.f k l2_0 l2_1).bind fun bt391 => ((laws_eqEntry.f k bt376.1 bt376.2 bt391.1 bt391.2).bind fun t397 => (if t397 = true then ((laws_toStringS.f k l3).bind fun t398 => ((laws_eqStringS.f k t383 t398).bind fun t401 => (if t401 = true then (some true) else (some false)))) else (some false)))) else (some false)))))))))))) = some r := H
 have A23 := Aside0.mk A230
 clear A230
 replace H := Option.bind_eq_some_iff.mp H
 obtain ⟨⟨t363, t366⟩, A240, H⟩ := H
 replace H : ((laws_toStringS.f k l3).bind fun t369 => ((spec_MayChange.f k t360 a1 t363 t366 t369).bind fun t372 => ((laws_toRuleS.f k l0).bind fun t373 => ((laws_toEntry.f k l2_0 l2_1).bind fun bt376 => ((laws_toStringS.f k l3).bind fun t383 => ((impl_MayChange.f k t373 a1 bt376.1 bt376.2 t383).bind fun t386 => (if (t386 != t372) = true then (some false) else ((laws_toRuleS.f k l0).bind fun t387 => ((laws_eqRuleS.f k t373 t387).bind fun t390 => (if t390 = true then ((laws_toEntry.f k l2_0 l2_1).bind fun bt391 => ((laws_eqEntry.f k bt376.1 bt376.2 bt391.1 bt391.2).bind fun t397 => (if t397 = true then ((laws_toStringS.f k l3).bind fun t398 => ((laws_eqStringS.f k t383 t398).bind fun t401 => (if t401 = true then (some true) else (some false)))) else (some false)))) else (some false))))))))))) = some r := H
 have A24 := Aside0.mk A240
 clear A240
 replace H := Option.bind_eq_some_iff.mp H
 obtain ⟨t369, A250, H⟩ := H
 replace H : ((spec_MayChange.f k t360 a1 t363 t366 t369).bind fun t372 => ((laws_toRuleS.f k l0).bind fun t373 => ((laws_toEntry.f k l2_0 l2_1).bind fun bt376 => ((laws_toStringS.f k l3).bind fun t383 => ((impl_MayChange.f k t373 a1 bt376.1 bt376.2 t383).bind fun t386 => (if (t386 != t372) = true then (some false) else ((laws_toRuleS.f k l0).bind fun t387 => ((laws_eqRuleS.f k t373 t387).bind fun t390 => (if t390 = true then ((laws_toEntry.f k l2_0 l2_1).bind fun bt391 => ((laws_eqEntry.f k bt376.1 bt376.2 bt391.1 bt391.2).bind fun t397 => (if t397 = true then ((laws_toStringS.f k l3).bind fun t398 => ((laws_eqStringS.f k t383 t398).bind fun t401 => (if t401 = true then (some true) else (some false)))) else (some false)))) else (some false)))))))))) = some r := H
 have A25 := Aside0.mk A250
 clear A250
 replace H := Option.bind_eq_some_iff.mp H
 obtain ⟨t372, A260, H⟩ := H
 replace H : ((laws_toRuleS.f k l0).bind fun t373 => ((laws_toEntry.f k l2_0 l2_1).bind fun bt376 => ((laws_toStringS.f k l3).bind fun t383 => ((impl_MayChange.f k t373 a1 bt376.1 bt376.2 t383).bind fun t386 => (if (t386 != t372) = true then (some false) else ((laws_toRuleS.f k l0).bind fun t387 => ((laws_eqRuleS.f k t373 t387).bind fun t390 => (if t390 = true then ((laws_toEntry.f k l2_0 l2_1).bind fun bt391 => ((laws_eqEntry.f k bt376.1 bt376.2 bt391.1 bt391.2).bind fun t397 => (if t397 = true then ((laws_toStringS.f k l3).bind fun t398 => ((laws_eqStringS.f k t383 t398).bind fun t401 => (if t401 = true then (some true) else (some false)))) else (some false)))) else (some false))))))))) = some r := H
 have A26 := Aside0.mk A260
 clear A260
 replace H := Option.bind_eq_some_iff.mp H
 obtain ⟨t373, A270, H⟩ := H
 replace H : ((laws_toEntry.f k l2_0 l2_1).bind fun bt376 => ((laws_toStringS.f k l3).bind fun t383 => ((impl_MayChange.f k t373 a1 bt376.1 bt376.2 t383).bind fun t386 => (if (t386 != t372) = true then (some false) else ((laws_toRuleS.f k l0).bind fun t387 => ((laws_eqRuleS.f k t373 t387).bind fun t390 => (if t390 = true then ((laws_toEntry.f k l2_0 l2_1).bind fun bt391 => ((laws_eqEntry.f k bt376.1 bt376.2 bt391.1 bt391.2).bind fun t397 => (if t397 = true then ((laws_toStringS.f k l3).bind fun t398 => ((laws_eqStringS.f k t383 t398).bind fun t401 => (if t401 = true then (some true) else (some false)))) else (some false)))) else (some false)))))))) = some r := H
 have A27 := Aside0.mk A270
 clear A270
 replace H := Option.bind_eq_some_iff.mp H
 obtain ⟨⟨t376, t379⟩, A280, H⟩ := H
 replace H : ((laws_toStringS.f k l3).bind fun t383 => ((impl_MayChange.f k t373 a1 t376 t379 t383).bind fun t386 => (if (t386 != t372) = true then (some false) else ((laws_toRuleS.f k l0).bind fun t387 => ((laws_eqRuleS.f k t373 t387).bind fun t390 => (if t390 = true then ((laws_toEntry.f k l2_0 l2_1).bind fun bt391 => ((laws_eqEntry.f k t376 t379 bt391.1 bt391.2).bind fun t397 => (if t397 = true then ((laws_toStringS.f k l3).bind fun t398 => ((laws_eqStringS.f k t383 t398).bind fun t401 => (if t401 = true then (some true) else (some false)))) else (some false)))) else (some false))))))) = some r := H
 have A28 := Aside0.mk A280
 clear A280
 replace H := Option.bind_eq_some_iff.mp H
 obtain ⟨t383, A290, H⟩ := H
 replace H : ((impl_MayChange.f k t373 a1 t376 t379 t383).bind fun t386 => (if (t386 != t372) = true then (some false) else ((laws_toRuleS.f k l0).bind fun t387 => ((laws_eqRuleS.f k t373 t387).bind fun t390 => (if t390 = true then ((laws_toEntry.f k l2_0 l2_1).bind fun bt391 => ((laws_eqEntry.f k t376 t379 bt391.1 bt391.2).bind fun t397 => (if t397 = true then ((laws_toStringS.f k l3).bind fun t398 => ((laws_eqStringS.f k t383 t398).bind fun t401 => (if t401 = true then (some true) else (some false)))) else (some false)))) else (some false)))))) = some r := H
 have A29 := Aside0.mk A290
 clear A290
 replace H := Option.bind_eq_some_iff.mp H
 obtain ⟨t386, A300, H⟩ := H
 replace H : (if (t386 != t372) = true then (some false) else ((laws_toRuleS.f k l0).bind fun t387 => ((laws_eqRuleS.f k t373 t387).bind fun t390 => (if t390 = true then ((laws_toEntry.f k l2_0 l2_1).bind fun bt391 => ((laws_eqEntry.f k t376 t379 bt391.1 bt391.2).bind fun t397 => (if t397 = true then ((laws_toStringS.f k l3).bind fun t398 => ((laws_eqStringS.f k t383 t398).bind fun t401 => (if t401 = true then (some true) else (some false)))) else (some false)))) else (some false))))) = some r := H
 have A30 := Aside0.mk A300
 clear A300
 by_cases c31 : (t386 != t372) = true
 ·rw [if_pos c31] at H
  have c31b0 : (t386 != t372) = true := c31
  (try (have c31b1 : decide (t386 = t372) = false := by simpa using c31))
  (try (have c31b2 : (t386 == t372) = false := by simpa using c31))
  (try (have c31b3 : ¬ (t386 = t372) := by simpa using c31))
  clear c31
  obtain rfl := Option.some.inj H
  go_enter Tryz.func3, Tryz.ntmps3
  try go_wp2_with (first | ((with_reducible refine gate_dst (N := 6) rfl ?_); refine box_event ?hg (N := 6) ?hd (cs := #[.slice A2_0 l2_0.length c2_0, .slice A2_1 l2_1.length c2_1]) (t := 26) ?hr ?_; (case hd => rfl); (case hg => rfl); (case hr => first | (go_simp; done) | (go_simp; rfl)); intro gb356 hg w32 hbox hb; have n0_ := Aside0.mk (below_step HBa hb); have n1_ := Aside0.mk (hbox); have n2_ := BSz w hg HBa; have n3_ := BSz w hg HBa; clear HB; have HB := n0_; have BK356 := n1_; have GW356 := n2_; have GE356 := n3_; clear n0_ n1_ n2_ n3_; clear hb hbox hg) | ((with_reducible refine gate_callee (f := 7) rfl ?_); refine goesL_ (some 20) rfl rfl Tryz.func7 (by kernel_rfl) rfl #[.slice A0 l0.length c0, .int .i64 1048576] rfl MPz ?_; (with_reducible refine (laws_szRuleS.calls k _ _ l0 1048576 t357 _ ?side1 ?side2 A7.out).mono ?_); (case side1 => exact KCz (Kd.C_below HR0.out HB.out)); (case side2 => exact HC0.out); rintro e w33 ⟨rfl, hb⟩; refine ⟨_, rfl, ?_⟩; have n0_ := BBz BK356 hb; have n1_ := Aside0.mk (below_step (HBb GE356) hb); clear BK356; clear HB; have BK356 := n0_; have HB := n1_; clear n0_ n1_; (try clear hb); (try clear hb2); (try clear hk); (try clear hi); have hcz34_0 := C1z BK356; have hcz34_1 := C2z BK356; have hfz34_0 := blk_frozen BK356.out 0; have hfz34_1 := blk_frozen BK356.out 1) | ((with_reducible refine gate_callee (f := 8) rfl ?_); refine goesL_ (some 25) rfl rfl Tryz.func8 (by kernel_rfl) rfl #[.agg #[.slice A2_0 l2_0.length c2_0, .slice A2_1 l2_1.length c2_1], .int .i64 t357] rfl MPz ?_; (with_reducible refine (laws_szEntry.calls k _ _ l2_0 _ _ l2_1 t357 t358 _ ?side1 ?side2 ?side3 ?side4 A11.out).mono ?_); (case side1 => exact KCz (Kd.C_below HR2_0.out HB.out)); (case side2 => exact HC2_0.out); (case side3 => exact KCz (Kd.C_below HR2_1.out HB.out)); (case side4 => exact HC2_1.out); rintro e w35 ⟨rfl, hb⟩; refine ⟨_, rfl, ?_⟩; have n0_ := BBz BK356 hb; have n1_ := Aside0.mk (below_step (HBb GE356) hb); clear BK356; clear HB; have BK356 := n0_; have HB := n1_; clear n0_ n1_; (try clear hb); (try clear hb2); (try clear hk); (try clear hi)) | ((with_reducible refine gate_callee (f := 9) rfl ?_); refine goesL_ (some 30) rfl rfl Tryz.func9 (by kernel_rfl) rfl #[.slice A3 l3.length c3, .int .i64 t358] rfl MPz ?_; (with_reducible refine (laws_szStringS.calls k _ _ l3 t358 t359 _ ?side1 ?side2 A17.out).mono ?_); (case side1 => exact KCz (Kd.C_below HR3.out HB.out)); (case side2 => exact HC3.out); rintro e w' ⟨rfl, ⟨nd, rfl⟩⟩; refine ⟨_, rfl, ?_⟩; (try (rw [drewN_self w35]; generalize hq_ : World.drewN w35 _ = w35; have n0_ : Aside0 (w35.heap[gb356]? = some (.cells #[.slice A2_0 l2_0.length c2_0, .slice A2_1 l2_1.length c2_1] 26 (0, 0))) := ⟨by rw [← hq_]; exact (BKz BK356)⟩; have n1_ : Aside0 (Below w.heap.size w w35) := ⟨by rw [← hq_]; exact (HBb GE356)⟩; clear BK356 HB hq_; have BK356 := n0_; have HB := n1_; clear n0_ n1_))))
  have n0_ := Aside0.mk (blk_drew BK356.out)
  have n1_ := Aside0.mk (below_drew1 HB.out)
  clear BK356
  clear HB
  have BK356 := n0_
  have HB := n1_
  clear n0_ n1_
  refine start_ (n := 9) (S := fun w' => w'.cell? ⟨gb356, 0, none⟩ = some (.slice A2_0 l2_0.length c2_0) ∧ w'.cell? ⟨gb356, 1, none⟩ = some (.slice A2_1 l2_1.length c2_1)) (ds := []) (bz 9 0) (by kernel_rfl) rfl (by kernel_rfl) ⟨(blk_cell BK356.out 0).trans rfl, (blk_cell BK356.out 1).trans rfl⟩ (fun hHeld => ?_); refine with_tabW laws_FnExactMayChange.tab13 laws_FnExactMayChange.bits13 (fun HT_ HW_ => ?_)
  generalize w35.drew = w36 at BK356 HB hHeld ⊢
  refine PYz 0 33 (bz 9 1) rfl rfl (any_of HT_.out (by kernel_rfl)) ?_
  refine PYz 2 35 (bz 9 5) rfl rfl (any_of HT_.out (by kernel_rfl)) ?_
  refine PYz 5 38 (bz 9 37) rfl rfl (any_of HT_.out (by kernel_rfl)) ?_
  refine take_ (i := 3) (N := some 36) (v := ?_) (a' := ?_) (bz 9 45) rfl rfl (take_ofW HT_.out HW_.out (by kernel_rfl)) (fun _ _ _ h => h) (Or.inl ⟨by rfl, ?_⟩) hHeld ?_ ?_
  rotate_left
  ·rintro w' ⟨s0, s1⟩
   go_simp
   with_reducible rfl
  rotate_left
  ·simp only [PUz]
   rfl
  refine one_ (i := 1) (N := some 34) (bz 9 47) rfl rfl (one_of HT_.out (by kernel_rfl)) (by decide) (fun K hK => ?_)
  refine goes_ Tryz.func11 (by kernel_rfl) rfl #[.slice A0 l0.length c0] (by rfl) rfl rfl MPz ?_
  with_reducible refine (laws_toRuleS.calls k _ _ l0 t360 _ ?side1 ?side2 A23.out).mono ?_
  (case side1 => exact KCz (Kd.C_below HR0.out HB.out))
  (case side2 => exact HC0.out)
  rintro e w37 ⟨v361, rfl, ho0, hb⟩
  refine ⟨_, rfl, ?_⟩
  have n0_ := Aside0.mk (Kd.S_lower ho0 (below_size (HBb GE356)))
  have n1_ := BBz BK356 hb
  have n2_ := Aside0.mk (below_step (HBb GE356) hb)
  clear BK356
  clear HB
  have HO362 := n0_
  have BK356 := n1_
  have HB := n2_
  clear n0_ n1_ n2_
  (try clear hb)
  (try clear hb2)
  (try clear hk)
  (try clear hi)
  (try clear ho0)
  refine hK.out _ _ ⟨(blk_cell BK356.out 0).trans rfl, (blk_cell BK356.out 1).trans rfl⟩ (fun hHeld => ?_)
  clear hK K
  refine norm_ (a' := ?_) ?_ ?_
  rotate_left
  ·show Act.put _ (some 34) _ = _
   simp only [PUz]
   rfl
  refine one_ (i := 4) (N := some 37) (bz 9 63) rfl rfl (one_of HT_.out (by kernel_rfl)) (by decide) (fun K hK => ?_)
  refine goes_ Tryz.func12 (by kernel_rfl) rfl #[.agg #[.slice A2_0 l2_0.length c2_0, .slice A2_1 l2_1.length c2_1]] (by rfl) rfl rfl MPz ?_
  with_reducible refine (laws_toEntry.calls k _ _ l2_0 _ _ l2_1 t363 t366 _ ?side1 ?side2 ?side3 ?side4 A24.out).mono ?_
  (case side1 => exact KCz (Kd.C_below HR2_0.out HB.out))
  (case side2 => exact HC2_0.out)
  (case side3 => exact KCz (Kd.C_below HR2_1.out HB.out))
  (case side4 => exact HC2_1.out)
  rintro e w38 ⟨v364, v367, rfl, ho0, ho1, hb⟩
  refine ⟨_, rfl, ?_⟩
  have n0_ := Aside0.mk (Kd.S_elder' (KSz HO362) (Kd.R_base ho0) hb)
  have n1_ := Aside0.mk (Kd.R_lower ho0 (below_size (HBb GE356)))
  have n2_ := Aside0.mk (Kd.S_lower ho1 (below_size (HBb GE356)))
  have n3_ := BBz BK356 hb
  have n4_ := Aside0.mk (below_step (HBb GE356) hb)
  clear HO362
  clear BK356
  clear HB
  have HO362 := n0_
  have HO365 := n1_
  have HO368 := n2_
  have BK356 := n3_
  have HB := n4_
  clear n0_ n1_ n2_ n3_ n4_
  (try clear hb)
  (try clear hb2)
  (try clear hk)
  (try clear hi)
  (try clear ho0)
  (try clear ho1)
  refine hK.out _ _ ⟨(blk_cell BK356.out 0).trans rfl, (blk_cell BK356.out 1).trans rfl⟩ (fun hHeld => ?_)
  clear hK K
  refine norm_ (a' := ?_) ?_ ?_
  rotate_left
  ·show Act.put _ (some 37) _ = _
   simp only [PUz]
   rfl
  refine one_ (i := 6) (N := some 39) (bz 9 127) rfl rfl (one_of HT_.out (by kernel_rfl)) (by decide) (fun K hK => ?_)
  refine goes_ Tryz.func13 (by kernel_rfl) rfl #[.slice A3 l3.length c3] (by rfl) rfl rfl MPz ?_
  with_reducible refine (laws_toStringS.calls k _ _ l3 t369 _ ?side1 ?side2 A25.out).mono ?_
  (case side1 => exact KCz (Kd.C_below HR3.out HB.out))
  (case side2 => exact HC3.out)
  rintro e w39 ⟨v370, rfl, ho0, hb⟩
  refine ⟨_, rfl, ?_⟩
  have n0_ := Aside0.mk (Kd.S_elder' (KSz HO362) (Kd.R_base ho0) hb)
  have n1_ := Aside0.mk (Kd.R_below (KRz HO365) hb)
  have n2_ := Aside0.mk (Kd.S_elder' (KSz HO368) (Kd.R_base ho0) hb)
  have n3_ := Aside0.mk (Kd.R_lower ho0 (below_size (HBb GE356)))
  have n4_ := BBz BK356 hb
  have n5_ := Aside0.mk (below_step (HBb GE356) hb)
  clear HO362
  clear HO365
  clear HO368
  clear BK356
  clear HB
  have HO362 := n0_
  have HO365 := n1_
  have HO368 := n2_
  have HO371 := n3_
  have BK356 := n4_
  have HB := n5_
  clear n0_ n1_ n2_ n3_ n4_ n5_
  (try clear hb)
  (try clear hb2)
  (try clear hk)
  (try clear hi)
  (try clear ho0)
  obtain ⟨Ao40, co40, eo40⟩ := Kd.S_slice HO362.out
  (first | subst eo40 | (injection eo40 with f1_ f2_ f3_; have f4_ := f1_.symm; have f5_ := f3_.symm; clear f1_ f2_ f3_; subst f4_; subst f5_))
  obtain ⟨Ao41, co41, eo41⟩ := Kd.R_slice HO365.out
  (first | subst eo41 | (injection eo41 with f1_ f2_ f3_; have f4_ := f1_.symm; have f5_ := f3_.symm; clear f1_ f2_ f3_; subst f4_; subst f5_))
  obtain ⟨Ao42, co42, eo42⟩ := Kd.S_slice HO368.out
  (first | subst eo42 | (injection eo42 with f1_ f2_ f3_; have f4_ := f1_.symm; have f5_ := f3_.symm; clear f1_ f2_ f3_; subst f4_; subst f5_))
  obtain ⟨Ao43, co43, eo43⟩ := Kd.R_slice HO371.out
  (first | subst eo43 | (injection eo43 with f1_ f2_ f3_; have f4_ := f1_.symm; have f5_ := f3_.symm; clear f1_ f2_ f3_; subst f4_; subst f5_))
  refine hK.out _ _ ⟨(blk_cell BK356.out 0).trans rfl, (blk_cell BK356.out 1).trans rfl⟩ (fun hHeld => ?_)
  clear hK K
  refine norm_ (a' := ?_) ?_ ?_
  rotate_left
  ·show Act.put _ (some 39) _ = _
   simp only [PUz]
   rfl
  refine one_ (i := 7) (N := some 40) (bz 9 255) rfl rfl (one_of HT_.out (by kernel_rfl)) (by decide) (fun K hK => ?_)
  refine goes_ Tryz.func10 (by kernel_rfl) rfl #[.slice Ao40 t360.length co40, .string a1, .agg #[.slice Ao41 t363.length co41, .slice Ao42 t366.length co42], .slice Ao43 t369.length co43] (by rfl) rfl rfl MPz ?_
  with_reducible refine (spec_MayChange.calls k _ _ t360 a1 _ _ t363 _ _ t366 _ _ t369 t372 _ ?side1 ?side2 ?side3 ?side4 ?side5 ?side6 ?side7 ?side8 A26.out).mono ?_
  (case side1 => repeat (first | exact (Kd.S_reads' HO362.out).2.2 | (with_reducible refine Kd.C_alloc ?_ _) | (with_reducible refine Kd.C_drewN ?_ _) | (with_reducible refine Kd.C_drew ?_)))
  (case side2 => exact (Kd.S_reads' HO362.out).2.1)
  (case side3 => repeat (first | exact (Kd.R_reads' HO365.out).2.2 | (with_reducible refine Kd.C_alloc ?_ _) | (with_reducible refine Kd.C_drewN ?_ _) | (with_reducible refine Kd.C_drew ?_)))
  (case side4 => exact (Kd.R_reads' HO365.out).2.1)
  (case side5 => repeat (first | exact (Kd.S_reads' HO368.out).2.2 | (with_reducible refine Kd.C_alloc ?_ _) | (with_reducible refine Kd.C_drewN ?_ _) | (with_reducible refine Kd.C_drew ?_)))
  (case side6 => exact (Kd.S_reads' HO368.out).2.1)
  (case side7 => repeat (first | exact (Kd.R_reads' HO371.out).2.2 | (with_reducible refine Kd.C_alloc ?_ _) | (with_reducible refine Kd.C_drewN ?_ _) | (with_reducible refine Kd.C_drew ?_)))
  (case side8 => exact (Kd.R_reads' HO371.out).2.1)
  rintro e w44 ⟨rfl, hb⟩
  refine ⟨_, rfl, ?_⟩
  have n0_ := Aside0.mk (Kd.S_below (KSz HO362) hb)
  have n1_ := Aside0.mk (Kd.R_below (KRz HO365) hb)
  have n2_ := Aside0.mk (Kd.S_below (KSz HO368) hb)
  have n3_ := Aside0.mk (Kd.R_below (KRz HO371) hb)
  have n4_ := BBz BK356 hb
  have n5_ := Aside0.mk (below_step (HBb GE356) hb)
  clear HO362
  clear HO365
  clear HO368
  clear HO371
  clear BK356
  clear HB
  have HO362 := n0_
  have HO365 := n1_
  have HO368 := n2_
  have HO371 := n3_
  have BK356 := n4_
  have HB := n5_
  clear n0_ n1_ n2_ n3_ n4_ n5_
  (try clear hb)
  (try clear hb2)
  (try clear hk)
  (try clear hi)
  refine hK.out _ _ ⟨(blk_cell BK356.out 0).trans rfl, (blk_cell BK356.out 1).trans rfl⟩ (fun hHeld => ?_)
  clear hK K
  refine norm_ (a' := ?_) ?_ ?_
  rotate_left
  ·show Act.put _ (some 40) _ = _
   simp only [PUz]
   rfl
  refine PYz 8 10 (bz 9 511) rfl rfl (any_of HT_.out (by kernel_rfl)) ?_
  refine done_ (done_of HT_.out (by kernel_rfl)) ?_
  try go_wp2_with (first | ((with_reducible refine gate_callee (f := 11) rfl ?_); refine goesL_ (some 42) rfl rfl Tryz.func11 (by kernel_rfl) rfl #[.slice A0 l0.length c0] rfl MPz ?_; (with_reducible refine (laws_toRuleS.calls k _ _ l0 t373 _ ?side1 ?side2 A27.out).mono ?_); (case side1 => exact KCz (Kd.C_below HR0.out HB.out)); (case side2 => exact HC0.out); rintro e w45 ⟨v374, rfl, ho0, hb⟩; refine ⟨_, rfl, ?_⟩; have n0_ := Aside0.mk (Kd.S_elder' (KSz HO362) (Kd.S_base ho0) hb); have n1_ := Aside0.mk (Kd.R_below (KRz HO365) hb); have n2_ := Aside0.mk (Kd.S_below (KSz HO368) hb); have n3_ := Aside0.mk (Kd.R_below (KRz HO371) hb); have n4_ := Aside0.mk (Kd.S_lower (Kd.S_new' (Kd.S_new' (Kd.S_new' ho0 (Kd.S_lt (KSz HO362))) (Kd.R_lt (KRz HO365))) (Kd.R_lt (KRz HO371))) (below_size (HBb GE356))); have n5_ := BBz BK356 hb; have n6_ := Aside0.mk (below_step (HBb GE356) hb); clear HO362; clear HO365; clear HO368; clear HO371; clear BK356; clear HB; have HO362 := n0_; have HO365 := n1_; have HO368 := n2_; have HO371 := n3_; have HO375 := n4_; have BK356 := n5_; have HB := n6_; clear n0_ n1_ n2_ n3_ n4_ n5_ n6_; (try clear hb); (try clear hb2); (try clear hk); (try clear hi); (try clear ho0); have hcz46_0 := C1z BK356; have hcz46_1 := C2z BK356; have hfz46_0 := blk_frozen BK356.out 0; have hfz46_1 := blk_frozen BK356.out 1) | ((with_reducible refine gate_callee (f := 12) rfl ?_); refine goesL_ (some 44) rfl rfl Tryz.func12 (by kernel_rfl) rfl #[.agg #[.slice A2_0 l2_0.length c2_0, .slice A2_1 l2_1.length c2_1]] rfl MPz ?_; (with_reducible refine (laws_toEntry.calls k _ _ l2_0 _ _ l2_1 t376 t379 _ ?side1 ?side2 ?side3 ?side4 A28.out).mono ?_); (case side1 => exact KCz (Kd.C_below HR2_0.out HB.out)); (case side2 => exact HC2_0.out); (case side3 => exact KCz (Kd.C_below HR2_1.out HB.out)); (case side4 => exact HC2_1.out); rintro e w47 ⟨v377, v380, rfl, ho0, ho1, hb⟩; refine ⟨_, rfl, ?_⟩; have n0_ := Aside0.mk (Kd.S_elder' (KSz HO362) (Kd.R_base ho0) hb); have n1_ := Aside0.mk (Kd.R_elder' (KRz HO365) (Kd.R_base ho0) hb); have n2_ := Aside0.mk (Kd.S_elder' (KSz HO368) (Kd.S_base ho1) hb); have n3_ := Aside0.mk (Kd.R_below (KRz HO371) hb); have n4_ := Aside0.mk (Kd.S_elder' (KSz HO375) (Kd.R_base ho0) hb); have n5_ := Aside0.mk (Kd.R_lower (Kd.R_new' ho0 (Kd.R_lt (KRz HO365))) (below_size (HBb GE356))); have n6_ := Aside0.mk (Kd.S_lower (Kd.S_new' (Kd.S_new' ho1 (Kd.S_lt (KSz HO368))) (Kd.R_lt (KRz HO371))) (below_size (HBb GE356))); have n7_ := BBz BK356 hb; have n8_ := Aside0.mk (below_step (HBb GE356) hb); clear HO362; clear HO365; clear HO368; clear HO371; clear HO375; clear BK356; clear HB; have HO362 := n0_; have HO365 := n1_; have HO368 := n2_; have HO371 := n3_; have HO375 := n4_; have HO378 := n5_; have HO381 := n6_; have BK356 := n7_; have HB := n8_; clear n0_ n1_ n2_ n3_ n4_ n5_ n6_ n7_ n8_; (try clear hb); (try clear hb2); (try clear hk); (try clear hi); (try clear ho0); (try clear ho1)) | ((with_reducible refine gate_dst (N := 12) rfl ?_); refine box_event ?hg (N := 12) ?hd (cs := #[.slice none 0 0, .slice none 0 0]) (t := 37) ?hr ?_; (case hd => rfl); (case hg => rfl); (case hr => first | (go_simp; done) | (go_simp; rfl)); intro gb382 hg w48 hbox hb; have n0_ := Aside0.mk (Kd.S_below (KSz HO362) hb); have n1_ := Aside0.mk (Kd.R_below (KRz HO365) hb); have n2_ := Aside0.mk (Kd.S_below (KSz HO368) hb); have n3_ := Aside0.mk (Kd.R_below (KRz HO371) hb); have n4_ := Aside0.mk (Kd.S_below (KSz HO375) hb); have n5_ := Aside0.mk (Kd.R_below (KRz HO378) hb); have n6_ := Aside0.mk (Kd.S_below (KSz HO381) hb); have n7_ := BBz BK356 hb; have n8_ := Aside0.mk (below_step (HBb GE356) hb); have n9_ := Aside0.mk (hbox); have n10_ := BSz w hg (HBb GE356); have n11_ := BSz w hg (HBb GE356); have n12_ := BNz BK356 hg; have n13_ := BMz BK356 hg; clear HO362; clear HO365; clear HO368; clear HO371; clear HO375; clear HO378; clear HO381; clear BK356; clear HB; have HO362 := n0_; have HO365 := n1_; have HO368 := n2_; have HO371 := n3_; have HO375 := n4_; have HO378 := n5_; have HO381 := n6_; have BK356 := n7_; have HB := n8_; have BK382 := n9_; have GW382 := n10_; have GE382 := n11_; have NB356_382 := n12_; have NB382_356 := n13_; clear n0_ n1_ n2_ n3_ n4_ n5_ n6_ n7_ n8_ n9_ n10_ n11_ n12_ n13_; clear hb hbox hg; obtain ⟨Ao49, co49, eo49⟩ := Kd.R_slice HO378.out; subst eo49; have hnb50 := NB382_356.out; have hnc50 := NB356_382.out; have hcz51_0 := C1z BK382; have hcz51_1 := C2z BK382; have hfz51_0 := blk_frozen BK382.out 0; have hfz51_1 := blk_frozen BK382.out 1; obtain ⟨Ao52, co52, eo52⟩ := Kd.S_slice HO381.out; subst eo52) | ((with_reducible refine gate_callee (f := 13) rfl ?_); refine goesL_ (some 46) rfl rfl Tryz.func13 (by kernel_rfl) rfl #[.slice A3 l3.length c3] rfl MPz ?_; (with_reducible refine (laws_toStringS.calls k _ _ l3 t383 _ ?side1 ?side2 A29.out).mono ?_); (case side1 => exact Kd.C_below HR3.out (HBc GE356 GE382)); (case side2 => exact HC3.out); rintro e w53 ⟨v384, rfl, ho0, hb⟩; refine ⟨_, rfl, ?_⟩; have n0_ := Aside0.mk (Kd.S_elder' (by (with_reducible repeat (first | apply Kd.S_alloc | apply Kd.S_drewN | apply Kd.S_drew)); exact (Kd.S_mono (Kd.S_far (p := ⟨gb382, 1, none⟩) (Kd.S_far (p := ⟨gb382, 0, none⟩) (Kd.S_types HO362.out BK382.out (by decide)) (fun _ hk => hk.2) (.slice Ao49 t376.length co49)) (fun _ hk => hk.2) (.slice Ao52 t379.length co52)) (fun _ h_ => h_.1))) (Kd.R_base ho0) hb); have n1_ := Aside0.mk (Kd.R_below (by (with_reducible repeat (first | apply Kd.R_alloc | apply Kd.R_drewN | apply Kd.R_drew)); exact (Kd.R_mono (Kd.R_far (p := ⟨gb382, 1, none⟩) (Kd.R_far (p := ⟨gb382, 0, none⟩) (Kd.R_types HO365.out BK382.out (by decide)) (fun _ hk => hk.2) (.slice Ao49 t376.length co49)) (fun _ hk => hk.2) (.slice Ao52 t379.length co52)) (fun _ h_ => h_.1))) hb); have n2_ := Aside0.mk (Kd.S_elder' (by (with_reducible repeat (first | apply Kd.S_alloc | apply Kd.S_drewN | apply Kd.S_drew)); exact (Kd.S_mono (Kd.S_far (p := ⟨gb382, 1, none⟩) (Kd.S_far (p := ⟨gb382, 0, none⟩) (Kd.S_types HO368.out BK382.out (by decide)) (fun _ hk => hk.2) (.slice Ao49 t376.length co49)) (fun _ hk => hk.2) (.slice Ao52 t379.length co52)) (fun _ h_ => h_.1))) (Kd.R_base ho0) hb); have n3_ := Aside0.mk (Kd.R_elder' (by (with_reducible repeat (first | apply Kd.R_alloc | apply Kd.R_drewN | apply Kd.R_drew)); exact (Kd.R_mono (Kd.R_far (p := ⟨gb382, 1, none⟩) (Kd.R_far (p := ⟨gb382, 0, none⟩) (Kd.R_types HO371.out BK382.out (by decide)) (fun _ hk => hk.2) (.slice Ao49 t376.length co49)) (fun _ hk => hk.2) (.slice Ao52 t379.length co52)) (fun _ h_ => h_.1))) (Kd.R_base ho0) hb); have n4_ := Aside0.mk (Kd.S_elder' (by (with_reducible repeat (first | apply Kd.S_alloc | apply Kd.S_drewN | apply Kd.S_drew)); exact (Kd.S_mono (Kd.S_far (p := ⟨gb382, 1, none⟩) (Kd.S_far (p := ⟨gb382, 0, none⟩) (Kd.S_types HO375.out BK382.out (by decide)) (fun _ hk => hk.2) (.slice Ao49 t376.length co49)) (fun _ hk => hk.2) (.slice Ao52 t379.length co52)) (fun _ h_ => h_.1))) (Kd.R_base ho0) hb); have n5_ := Aside0.mk (Kd.R_below (by (with_reducible repeat (first | apply Kd.R_alloc | apply Kd.R_drewN | apply Kd.R_drew)); exact (Kd.R_mono (Kd.R_far (p := ⟨gb382, 1, none⟩) (Kd.R_far (p := ⟨gb382, 0, none⟩) (Kd.R_types HO378.out BK382.out (by decide)) (fun _ hk => hk.2) (.slice Ao49 t376.length co49)) (fun _ hk => hk.2) (.slice Ao52 t379.length co52)) (fun _ h_ => h_.1))) hb); have n6_ := Aside0.mk (Kd.S_elder' (by (with_reducible repeat (first | apply Kd.S_alloc | apply Kd.S_drewN | apply Kd.S_drew)); exact (Kd.S_mono (Kd.S_far (p := ⟨gb382, 1, none⟩) (Kd.S_far (p := ⟨gb382, 0, none⟩) (Kd.S_types HO381.out BK382.out (by decide)) (fun _ hk => hk.2) (.slice Ao49 t376.length co49)) (fun _ hk => hk.2) (.slice Ao52 t379.length co52)) (fun _ h_ => h_.1))) (Kd.R_base ho0) hb); have n7_ := Aside0.mk (Kd.R_lower (Kd.R_new' ho0 (Kd.R_lt (by (with_reducible repeat (first | apply Kd.R_alloc | apply Kd.R_drewN | apply Kd.R_drew)); exact (Kd.R_mono (Kd.R_far (p := ⟨gb382, 1, none⟩) (Kd.R_far (p := ⟨gb382, 0, none⟩) (Kd.R_types HO371.out BK382.out (by decide)) (fun _ hk => hk.2) (.slice Ao49 t376.length co49)) (fun _ hk => hk.2) (.slice Ao52 t379.length co52)) (fun _ h_ => h_.1))))) (below_size (HBc GE356 GE382))); have n8_ := Aside0.mk (blk_below (g := gb356) (o := .cells #[.slice A2_0 l2_0.length c2_0, .slice A2_1 l2_1.length c2_1] 26 (0, 0)) (by (with_reducible repeat (first | refine blk_drewN ?_ _ | refine blk_drew ?_ | refine blk_alloc ?_ _)); refine blk_far ?_ NB356_382.out _; (with_reducible repeat (first | refine blk_drewN ?_ _ | refine blk_drew ?_ | refine blk_alloc ?_ _)); refine blk_far ?_ NB356_382.out _; (with_reducible repeat (first | refine blk_drewN ?_ _ | refine blk_drew ?_ | refine blk_alloc ?_ _)); exact BK356.out) hb); have n9_ := Aside0.mk (blk_below (g := gb382) (o := .cells #[.slice Ao49 t376.length co49, .slice Ao52 t379.length co52] 37 (0, 0)) (by (with_reducible repeat (first | refine blk_drewN ?_ _ | refine blk_drew ?_ | refine blk_alloc ?_ _)); refine blk_put (cs := #[.slice Ao49 t376.length co49, .slice none 0 0]) ?_ 1 _ rfl; (with_reducible repeat (first | refine blk_drewN ?_ _ | refine blk_drew ?_ | refine blk_alloc ?_ _)); refine blk_put (cs := #[.slice none 0 0, .slice none 0 0]) ?_ 0 _ rfl; (with_reducible repeat (first | refine blk_drewN ?_ _ | refine blk_drew ?_ | refine blk_alloc ?_ _)); exact BK382.out) hb); have n10_ := Aside0.mk (below_step (HBc GE356 GE382) hb); clear HO362; clear HO365; clear HO368; clear HO371; clear HO375; clear HO378; clear HO381; clear BK356; clear BK382; clear HB; have HO362 := n0_; have HO365 := n1_; have HO368 := n2_; have HO371 := n3_; have HO375 := n4_; have HO378 := n5_; have HO381 := n6_; have HO385 := n7_; have BK356 := n8_; have BK382 := n9_; have HB := n10_; clear n0_ n1_ n2_ n3_ n4_ n5_ n6_ n7_ n8_ n9_ n10_; (try clear hb); (try clear hb2); (try clear hk); (try clear hi); (try clear ho0); have hcz54_0 := C1z BK382; have hcz54_1 := C2z BK382; have hfz54_0 := blk_frozen BK382.out 0; have hfz54_1 := blk_frozen BK382.out 1; obtain ⟨Ao55, co55, eo55⟩ := Kd.S_slice HO375.out; subst eo55; obtain ⟨Ao56, co56, eo56⟩ := Kd.R_slice HO385.out; subst eo56) | ((with_reducible refine gate_callee (f := 14) rfl ?_); refine goesL_ (some 51) rfl rfl Tryz.func14 (by kernel_rfl) rfl #[.slice Ao55 t373.length co55, .string a1, .agg #[.slice Ao49 t376.length co49, .slice Ao52 t379.length co52], .slice Ao56 t383.length co56] rfl MPz ?_; (with_reducible refine (impl_MayChange.calls k _ _ t373 a1 _ _ t376 _ _ t379 _ _ t383 t386 _ ?side1 ?side2 ?side3 ?side4 ?side5 ?side6 ?side7 ?side8 A30.out).mono ?_); (case side1 => repeat (first | exact (Kd.S_reads' HO375.out).2.2 | (with_reducible refine Kd.C_alloc ?_ _) | (with_reducible refine Kd.C_drewN ?_ _) | (with_reducible refine Kd.C_drew ?_))); (case side2 => exact (Kd.S_reads' HO375.out).2.1); (case side3 => repeat (first | exact (Kd.R_reads' HO378.out).2.2 | (with_reducible refine Kd.C_alloc ?_ _) | (with_reducible refine Kd.C_drewN ?_ _) | (with_reducible refine Kd.C_drew ?_))); (case side4 => exact (Kd.R_reads' HO378.out).2.1); (case side5 => repeat (first | exact (Kd.S_reads' HO381.out).2.2 | (with_reducible refine Kd.C_alloc ?_ _) | (with_reducible refine Kd.C_drewN ?_ _) | (with_reducible refine Kd.C_drew ?_))); (case side6 => exact (Kd.S_reads' HO381.out).2.1); (case side7 => repeat (first | exact (Kd.R_reads' HO385.out).2.2 | (with_reducible refine Kd.C_alloc ?_ _) | (with_reducible refine Kd.C_drewN ?_ _) | (with_reducible refine Kd.C_drew ?_))); (case side8 => exact (Kd.R_reads' HO385.out).2.1); rintro e w57 ⟨rfl, hb⟩; refine ⟨_, rfl, ?_⟩; have n0_ := Aside0.mk (Kd.S_below (KSz HO362) hb); have n1_ := Aside0.mk (Kd.R_below (KRz HO365) hb); have n2_ := Aside0.mk (Kd.S_below (KSz HO368) hb); have n3_ := Aside0.mk (Kd.R_below (KRz HO371) hb); have n4_ := Aside0.mk (Kd.S_below (KSz HO375) hb); have n5_ := Aside0.mk (Kd.R_below (KRz HO378) hb); have n6_ := Aside0.mk (Kd.S_below (KSz HO381) hb); have n7_ := Aside0.mk (Kd.R_below (KRz HO385) hb); have n8_ := BBz BK356 hb; have n9_ := BBz BK382 hb; have n10_ := Aside0.mk (below_step (HBc GE356 GE382) hb); clear HO362; clear HO365; clear HO368; clear HO371; clear HO375; clear HO378; clear HO381; clear HO385; clear BK356; clear BK382; clear HB; have HO362 := n0_; have HO365 := n1_; have HO368 := n2_; have HO371 := n3_; have HO375 := n4_; have HO378 := n5_; have HO381 := n6_; have HO385 := n7_; have BK356 := n8_; have BK382 := n9_; have HB := n10_; clear n0_ n1_ n2_ n3_ n4_ n5_ n6_ n7_ n8_ n9_ n10_; (try clear hb); (try clear hb2); (try clear hk); (try clear hi)))
  go_ret
  exact ⟨EZa, HBc GE356 GE382⟩
 rw [if_neg c31] at H
 have c31b0 : (t386 != t372) = false := by simpa using c31
 (try (have c31b1 : decide (t386 = t372) = true := by simpa using c31))
 (try (have c31b2 : (t386 == t372) = true := by simpa using c31))
 clear c31
 replace H := Option.bind_eq_some_iff.mp H
 obtain ⟨t387, A580, H⟩ := H
 replace H : ((laws_eqRuleS.f k t373 t387).bind fun t390 => (if t390 = true then ((laws_toEntry.f k l2_0 l2_1).bind fun bt391 => ((laws_eqEntry.f k t376 t379 bt391.1 bt391.2).bind fun t397 => (if t397 = true then ((laws_toStringS.f k l3).bind fun t398 => ((laws_eqStringS.f k t383 t398).bind fun t401 => (if t401 = true then (some true) else (some false)))) else (some false)))) else (some false))) = some r := H
 have A58 := Aside0.mk A580
 clear A580
 replace H := Option.bind_eq_some_iff.mp H
 obtain ⟨t390, A590, H⟩ := H
 replace H : (if t390 = true then ((laws_toEntry.f k l2_0 l2_1).bind fun bt391 => ((laws_eqEntry.f k t376 t379 bt391.1 bt391.2).bind fun t397 => (if t397 = true then ((laws_toStringS.f k l3).bind fun t398 => ((laws_eqStringS.f k t383 t398).bind fun t401 => (if t401 = true then (some true) else (some false)))) else (some false)))) else (some false)) = some r := H
 have A59 := Aside0.mk A590
 clear A590
 by_cases c60 : t390 = true
 rotate_left
 ·replace c60 := Bool.eq_false_iff.mpr c60
  subst c60
  have H1 : (some false) = some r := by rw [if_neg (show ¬ (false = true) by decide)] at H; exact H
  clear H
  have H := H1
  clear H1
  obtain rfl := Option.some.inj H
  go_enter Tryz.func3, Tryz.ntmps3
  try go_wp2_with (first | ((with_reducible refine gate_dst (N := 6) rfl ?_); refine box_event ?hg (N := 6) ?hd (cs := #[.slice A2_0 l2_0.length c2_0, .slice A2_1 l2_1.length c2_1]) (t := 26) ?hr ?_; (case hd => rfl); (case hg => rfl); (case hr => first | (go_simp; done) | (go_simp; rfl)); intro gb356 hg w173 hbox hb; have n0_ := Aside0.mk (below_step HBa hb); have n1_ := Aside0.mk (hbox); have n2_ := BSz w hg HBa; have n3_ := BSz w hg HBa; clear HB; have HB := n0_; have BK356 := n1_; have GW356 := n2_; have GE356 := n3_; clear n0_ n1_ n2_ n3_; clear hb hbox hg) | ((with_reducible refine gate_callee (f := 7) rfl ?_); refine goesL_ (some 20) rfl rfl Tryz.func7 (by kernel_rfl) rfl #[.slice A0 l0.length c0, .int .i64 1048576] rfl MPz ?_; (with_reducible refine (laws_szRuleS.calls k _ _ l0 1048576 t357 _ ?side1 ?side2 A7.out).mono ?_); (case side1 => exact KCz (Kd.C_below HR0.out HB.out)); (case side2 => exact HC0.out); rintro e w174 ⟨rfl, hb⟩; refine ⟨_, rfl, ?_⟩; have n0_ := BBz BK356 hb; have n1_ := Aside0.mk (below_step (HBb GE356) hb); clear BK356; clear HB; have BK356 := n0_; have HB := n1_; clear n0_ n1_; (try clear hb); (try clear hb2); (try clear hk); (try clear hi); have hcz175_0 := C1z BK356; have hcz175_1 := C2z BK356; have hfz175_0 := blk_frozen BK356.out 0; have hfz175_1 := blk_frozen BK356.out 1) | ((with_reducible refine gate_callee (f := 8) rfl ?_); refine goesL_ (some 25) rfl rfl Tryz.func8 (by kernel_rfl) rfl #[.agg #[.slice A2_0 l2_0.length c2_0, .slice A2_1 l2_1.length c2_1], .int .i64 t357] rfl MPz ?_; (with_reducible refine (laws_szEntry.calls k _ _ l2_0 _ _ l2_1 t357 t358 _ ?side1 ?side2 ?side3 ?side4 A11.out).mono ?_); (case side1 => exact KCz (Kd.C_below HR2_0.out HB.out)); (case side2 => exact HC2_0.out); (case side3 => exact KCz (Kd.C_below HR2_1.out HB.out)); (case side4 => exact HC2_1.out); rintro e w176 ⟨rfl, hb⟩; refine ⟨_, rfl, ?_⟩; have n0_ := BBz BK356 hb; have n1_ := Aside0.mk (below_step (HBb GE356) hb); clear BK356; clear HB; have BK356 := n0_; have HB := n1_; clear n0_ n1_; (try clear hb); (try clear hb2); (try clear hk); (try clear hi)) | ((with_reducible refine gate_callee (f := 9) rfl ?_); refine goesL_ (some 30) rfl rfl Tryz.func9 (by kernel_rfl) rfl #[.slice A3 l3.length c3, .int .i64 t358] rfl MPz ?_; (with_reducible refine (laws_szStringS.calls k _ _ l3 t358 t359 _ ?side1 ?side2 A17.out).mono ?_); (case side1 => exact KCz (Kd.C_below HR3.out HB.out)); (case side2 => exact HC3.out); rintro e w' ⟨rfl, ⟨nd, rfl⟩⟩; refine ⟨_, rfl, ?_⟩; (try (rw [drewN_self w176]; generalize hq_ : World.drewN w176 _ = w176; have n0_ : Aside0 (w176.heap[gb356]? = some (.cells #[.slice A2_0 l2_0.length c2_0, .slice A2_1 l2_1.length c2_1] 26 (0, 0))) := ⟨by rw [← hq_]; exact (BKz BK356)⟩; have n1_ : Aside0 (Below w.heap.size w w176) := ⟨by rw [← hq_]; exact (HBb GE356)⟩; clear BK356 HB hq_; have BK356 := n0_; have HB := n1_; clear n0_ n1_))))
  have n0_ := Aside0.mk (blk_drew BK356.out)
  have n1_ := Aside0.mk (below_drew1 HB.out)
  clear BK356
  clear HB
  have BK356 := n0_
  have HB := n1_
  clear n0_ n1_
  refine start_ (n := 9) (S := fun w' => w'.cell? ⟨gb356, 0, none⟩ = some (.slice A2_0 l2_0.length c2_0) ∧ w'.cell? ⟨gb356, 1, none⟩ = some (.slice A2_1 l2_1.length c2_1)) (ds := []) (bz 9 0) (by kernel_rfl) rfl (by kernel_rfl) ⟨(blk_cell BK356.out 0).trans rfl, (blk_cell BK356.out 1).trans rfl⟩ (fun hHeld => ?_); refine with_tabW laws_FnExactMayChange.tab13 laws_FnExactMayChange.bits13 (fun HT_ HW_ => ?_)
  generalize w176.drew = w177 at BK356 HB hHeld ⊢
  refine PYz 0 33 (bz 9 1) rfl rfl (any_of HT_.out (by kernel_rfl)) ?_
  refine PYz 2 35 (bz 9 5) rfl rfl (any_of HT_.out (by kernel_rfl)) ?_
  refine PYz 5 38 (bz 9 37) rfl rfl (any_of HT_.out (by kernel_rfl)) ?_
  refine take_ (i := 3) (N := some 36) (v := ?_) (a' := ?_) (bz 9 45) rfl rfl (take_ofW HT_.out HW_.out (by kernel_rfl)) (fun _ _ _ h => h) (Or.inl ⟨by rfl, ?_⟩) hHeld ?_ ?_
  rotate_left
  ·rintro w' ⟨s0, s1⟩
   go_simp
   with_reducible rfl
  rotate_left
  ·simp only [PUz]
   rfl
  refine one_ (i := 1) (N := some 34) (bz 9 47) rfl rfl (one_of HT_.out (by kernel_rfl)) (by decide) (fun K hK => ?_)
  refine goes_ Tryz.func11 (by kernel_rfl) rfl #[.slice A0 l0.length c0] (by rfl) rfl rfl MPz ?_
  with_reducible refine (laws_toRuleS.calls k _ _ l0 t360 _ ?side1 ?side2 A23.out).mono ?_
  (case side1 => exact KCz (Kd.C_below HR0.out HB.out))
  (case side2 => exact HC0.out)
  rintro e w178 ⟨v361, rfl, ho0, hb⟩
  refine ⟨_, rfl, ?_⟩
  have n0_ := Aside0.mk (Kd.S_lower ho0 (below_size (HBb GE356)))
  have n1_ := BBz BK356 hb
  have n2_ := Aside0.mk (below_step (HBb GE356) hb)
  clear BK356
  clear HB
  have HO362 := n0_
  have BK356 := n1_
  have HB := n2_
  clear n0_ n1_ n2_
  (try clear hb)
  (try clear hb2)
  (try clear hk)
  (try clear hi)
  (try clear ho0)
  refine hK.out _ _ ⟨(blk_cell BK356.out 0).trans rfl, (blk_cell BK356.out 1).trans rfl⟩ (fun hHeld => ?_)
  clear hK K
  refine norm_ (a' := ?_) ?_ ?_
  rotate_left
  ·show Act.put _ (some 34) _ = _
   simp only [PUz]
   rfl
  refine one_ (i := 4) (N := some 37) (bz 9 63) rfl rfl (one_of HT_.out (by kernel_rfl)) (by decide) (fun K hK => ?_)
  refine goes_ Tryz.func12 (by kernel_rfl) rfl #[.agg #[.slice A2_0 l2_0.length c2_0, .slice A2_1 l2_1.length c2_1]] (by rfl) rfl rfl MPz ?_
  with_reducible refine (laws_toEntry.calls k _ _ l2_0 _ _ l2_1 t363 t366 _ ?side1 ?side2 ?side3 ?side4 A24.out).mono ?_
  (case side1 => exact KCz (Kd.C_below HR2_0.out HB.out))
  (case side2 => exact HC2_0.out)
  (case side3 => exact KCz (Kd.C_below HR2_1.out HB.out))
  (case side4 => exact HC2_1.out)
  rintro e w179 ⟨v364, v367, rfl, ho0, ho1, hb⟩
  refine ⟨_, rfl, ?_⟩
  have n0_ := Aside0.mk (Kd.S_elder' (KSz HO362) (Kd.R_base ho0) hb)
  have n1_ := Aside0.mk (Kd.R_lower ho0 (below_size (HBb GE356)))
  have n2_ := Aside0.mk (Kd.S_lower ho1 (below_size (HBb GE356)))
  have n3_ := BBz BK356 hb
  have n4_ := Aside0.mk (below_step (HBb GE356) hb)
  clear HO362
  clear BK356
  clear HB
  have HO362 := n0_
  have HO365 := n1_
  have HO368 := n2_
  have BK356 := n3_
  have HB := n4_
  clear n0_ n1_ n2_ n3_ n4_
  (try clear hb)
  (try clear hb2)
  (try clear hk)
  (try clear hi)
  (try clear ho0)
  (try clear ho1)
  refine hK.out _ _ ⟨(blk_cell BK356.out 0).trans rfl, (blk_cell BK356.out 1).trans rfl⟩ (fun hHeld => ?_)
  clear hK K
  refine norm_ (a' := ?_) ?_ ?_
  rotate_left
  ·show Act.put _ (some 37) _ = _
   simp only [PUz]
   rfl
  refine one_ (i := 6) (N := some 39) (bz 9 127) rfl rfl (one_of HT_.out (by kernel_rfl)) (by decide) (fun K hK => ?_)
  refine goes_ Tryz.func13 (by kernel_rfl) rfl #[.slice A3 l3.length c3] (by rfl) rfl rfl MPz ?_
  with_reducible refine (laws_toStringS.calls k _ _ l3 t369 _ ?side1 ?side2 A25.out).mono ?_
  (case side1 => exact KCz (Kd.C_below HR3.out HB.out))
  (case side2 => exact HC3.out)
  rintro e w180 ⟨v370, rfl, ho0, hb⟩
  refine ⟨_, rfl, ?_⟩
  have n0_ := Aside0.mk (Kd.S_elder' (KSz HO362) (Kd.R_base ho0) hb)
  have n1_ := Aside0.mk (Kd.R_below (KRz HO365) hb)
  have n2_ := Aside0.mk (Kd.S_elder' (KSz HO368) (Kd.R_base ho0) hb)
  have n3_ := Aside0.mk (Kd.R_lower ho0 (below_size (HBb GE356)))
  have n4_ := BBz BK356 hb
  have n5_ := Aside0.mk (below_step (HBb GE356) hb)
  clear HO362
  clear HO365
  clear HO368
  clear BK356
  clear HB
  have HO362 := n0_
  have HO365 := n1_
  have HO368 := n2_
  have HO371 := n3_
  have BK356 := n4_
  have HB := n5_
  clear n0_ n1_ n2_ n3_ n4_ n5_
  (try clear hb)
  (try clear hb2)
  (try clear hk)
  (try clear hi)
  (try clear ho0)
  obtain ⟨Ao181, co181, eo181⟩ := Kd.S_slice HO362.out
  (first | subst eo181 | (injection eo181 with f1_ f2_ f3_; have f4_ := f1_.symm; have f5_ := f3_.symm; clear f1_ f2_ f3_; subst f4_; subst f5_))
  obtain ⟨Ao182, co182, eo182⟩ := Kd.R_slice HO365.out
  (first | subst eo182 | (injection eo182 with f1_ f2_ f3_; have f4_ := f1_.symm; have f5_ := f3_.symm; clear f1_ f2_ f3_; subst f4_; subst f5_))
  obtain ⟨Ao183, co183, eo183⟩ := Kd.S_slice HO368.out
  (first | subst eo183 | (injection eo183 with f1_ f2_ f3_; have f4_ := f1_.symm; have f5_ := f3_.symm; clear f1_ f2_ f3_; subst f4_; subst f5_))
  obtain ⟨Ao184, co184, eo184⟩ := Kd.R_slice HO371.out
  (first | subst eo184 | (injection eo184 with f1_ f2_ f3_; have f4_ := f1_.symm; have f5_ := f3_.symm; clear f1_ f2_ f3_; subst f4_; subst f5_))
  refine hK.out _ _ ⟨(blk_cell BK356.out 0).trans rfl, (blk_cell BK356.out 1).trans rfl⟩ (fun hHeld => ?_)
  clear hK K
  refine norm_ (a' := ?_) ?_ ?_
  rotate_left
  ·show Act.put _ (some 39) _ = _
   simp only [PUz]
   rfl
  refine one_ (i := 7) (N := some 40) (bz 9 255) rfl rfl (one_of HT_.out (by kernel_rfl)) (by decide) (fun K hK => ?_)
  refine goes_ Tryz.func10 (by kernel_rfl) rfl #[.slice Ao181 t360.length co181, .string a1, .agg #[.slice Ao182 t363.length co182, .slice Ao183 t366.length co183], .slice Ao184 t369.length co184] (by rfl) rfl rfl MPz ?_
  with_reducible refine (spec_MayChange.calls k _ _ t360 a1 _ _ t363 _ _ t366 _ _ t369 t372 _ ?side1 ?side2 ?side3 ?side4 ?side5 ?side6 ?side7 ?side8 A26.out).mono ?_
  (case side1 => repeat (first | exact (Kd.S_reads' HO362.out).2.2 | (with_reducible refine Kd.C_alloc ?_ _) | (with_reducible refine Kd.C_drewN ?_ _) | (with_reducible refine Kd.C_drew ?_)))
  (case side2 => exact (Kd.S_reads' HO362.out).2.1)
  (case side3 => repeat (first | exact (Kd.R_reads' HO365.out).2.2 | (with_reducible refine Kd.C_alloc ?_ _) | (with_reducible refine Kd.C_drewN ?_ _) | (with_reducible refine Kd.C_drew ?_)))
  (case side4 => exact (Kd.R_reads' HO365.out).2.1)
  (case side5 => repeat (first | exact (Kd.S_reads' HO368.out).2.2 | (with_reducible refine Kd.C_alloc ?_ _) | (with_reducible refine Kd.C_drewN ?_ _) | (with_reducible refine Kd.C_drew ?_)))
  (case side6 => exact (Kd.S_reads' HO368.out).2.1)
  (case side7 => repeat (first | exact (Kd.R_reads' HO371.out).2.2 | (with_reducible refine Kd.C_alloc ?_ _) | (with_reducible refine Kd.C_drewN ?_ _) | (with_reducible refine Kd.C_drew ?_)))
  (case side8 => exact (Kd.R_reads' HO371.out).2.1)
  rintro e w185 ⟨rfl, hb⟩
  refine ⟨_, rfl, ?_⟩
  have n0_ := Aside0.mk (Kd.S_below (KSz HO362) hb)
  have n1_ := Aside0.mk (Kd.R_below (KRz HO365) hb)
  have n2_ := Aside0.mk (Kd.S_below (KSz HO368) hb)
  have n3_ := Aside0.mk (Kd.R_below (KRz HO371) hb)
  have n4_ := BBz BK356 hb
  have n5_ := Aside0.mk (below_step (HBb GE356) hb)
  clear HO362
  clear HO365
  clear HO368
  clear HO371
  clear BK356
  clear HB
  have HO362 := n0_
  have HO365 := n1_
  have HO368 := n2_
  have HO371 := n3_
  have BK356 := n4_
  have HB := n5_
  clear n0_ n1_ n2_ n3_ n4_ n5_
  (try clear hb)
  (try clear hb2)
  (try clear hk)
  (try clear hi)
  refine hK.out _ _ ⟨(blk_cell BK356.out 0).trans rfl, (blk_cell BK356.out 1).trans rfl⟩ (fun hHeld => ?_)
  clear hK K
  refine norm_ (a' := ?_) ?_ ?_
  rotate_left
  ·show Act.put _ (some 40) _ = _
   simp only [PUz]
   rfl
  refine PYz 8 10 (bz 9 511) rfl rfl (any_of HT_.out (by kernel_rfl)) ?_
  refine done_ (done_of HT_.out (by kernel_rfl)) ?_
  try go_wp2_with (first | ((with_reducible refine gate_callee (f := 11) rfl ?_); refine goesL_ (some 42) rfl rfl Tryz.func11 (by kernel_rfl) rfl #[.slice A0 l0.length c0] rfl MPz ?_; (with_reducible refine (laws_toRuleS.calls k _ _ l0 t373 _ ?side1 ?side2 A27.out).mono ?_); (case side1 => exact KCz (Kd.C_below HR0.out HB.out)); (case side2 => exact HC0.out); rintro e w186 ⟨v374, rfl, ho0, hb⟩; refine ⟨_, rfl, ?_⟩; have n0_ := Aside0.mk (Kd.S_elder' (KSz HO362) (Kd.S_base ho0) hb); have n1_ := Aside0.mk (Kd.R_below (KRz HO365) hb); have n2_ := Aside0.mk (Kd.S_below (KSz HO368) hb); have n3_ := Aside0.mk (Kd.R_below (KRz HO371) hb); have n4_ := Aside0.mk (Kd.S_lower (Kd.S_new' (Kd.S_new' (Kd.S_new' ho0 (Kd.S_lt (KSz HO362))) (Kd.R_lt (KRz HO365))) (Kd.R_lt (KRz HO371))) (below_size (HBb GE356))); have n5_ := BBz BK356 hb; have n6_ := Aside0.mk (below_step (HBb GE356) hb); clear HO362; clear HO365; clear HO368; clear HO371; clear BK356; clear HB; have HO362 := n0_; have HO365 := n1_; have HO368 := n2_; have HO371 := n3_; have HO375 := n4_; have BK356 := n5_; have HB := n6_; clear n0_ n1_ n2_ n3_ n4_ n5_ n6_; (try clear hb); (try clear hb2); (try clear hk); (try clear hi); (try clear ho0); have hcz187_0 := C1z BK356; have hcz187_1 := C2z BK356; have hfz187_0 := blk_frozen BK356.out 0; have hfz187_1 := blk_frozen BK356.out 1) | ((with_reducible refine gate_callee (f := 12) rfl ?_); refine goesL_ (some 44) rfl rfl Tryz.func12 (by kernel_rfl) rfl #[.agg #[.slice A2_0 l2_0.length c2_0, .slice A2_1 l2_1.length c2_1]] rfl MPz ?_; (with_reducible refine (laws_toEntry.calls k _ _ l2_0 _ _ l2_1 t376 t379 _ ?side1 ?side2 ?side3 ?side4 A28.out).mono ?_); (case side1 => exact KCz (Kd.C_below HR2_0.out HB.out)); (case side2 => exact HC2_0.out); (case side3 => exact KCz (Kd.C_below HR2_1.out HB.out)); (case side4 => exact HC2_1.out); rintro e w188 ⟨v377, v380, rfl, ho0, ho1, hb⟩; refine ⟨_, rfl, ?_⟩; have n0_ := Aside0.mk (Kd.S_elder' (KSz HO362) (Kd.R_base ho0) hb); have n1_ := Aside0.mk (Kd.R_elder' (KRz HO365) (Kd.R_base ho0) hb); have n2_ := Aside0.mk (Kd.S_elder' (KSz HO368) (Kd.S_base ho1) hb); have n3_ := Aside0.mk (Kd.R_below (KRz HO371) hb); have n4_ := Aside0.mk (Kd.S_elder' (KSz HO375) (Kd.R_base ho0) hb); have n5_ := Aside0.mk (Kd.R_lower (Kd.R_new' ho0 (Kd.R_lt (KRz HO365))) (below_size (HBb GE356))); have n6_ := Aside0.mk (Kd.S_lower (Kd.S_new' (Kd.S_new' ho1 (Kd.S_lt (KSz HO368))) (Kd.R_lt (KRz HO371))) (below_size (HBb GE356))); have n7_ := BBz BK356 hb; have n8_ := Aside0.mk (below_step (HBb GE356) hb); clear HO362; clear HO365; clear HO368; clear HO371; clear HO375; clear BK356; clear HB; have HO362 := n0_; have HO365 := n1_; have HO368 := n2_; have HO371 := n3_; have HO375 := n4_; have HO378 := n5_; have HO381 := n6_; have BK356 := n7_; have HB := n8_; clear n0_ n1_ n2_ n3_ n4_ n5_ n6_ n7_ n8_; (try clear hb); (try clear hb2); (try clear hk); (try clear hi); (try clear ho0); (try clear ho1)) | ((with_reducible refine gate_dst (N := 12) rfl ?_); refine box_event ?hg (N := 12) ?hd (cs := #[.slice none 0 0, .slice none 0 0]) (t := 37) ?hr ?_; (case hd => rfl); (case hg => rfl); (case hr => first | (go_simp; done) | (go_simp; rfl)); intro gb382 hg w189 hbox hb; have n0_ := Aside0.mk (Kd.S_below (KSz HO362) hb); have n1_ := Aside0.mk (Kd.R_below (KRz HO365) hb); have n2_ := Aside0.mk (Kd.S_below (KSz HO368) hb); have n3_ := Aside0.mk (Kd.R_below (KRz HO371) hb); have n4_ := Aside0.mk (Kd.S_below (KSz HO375) hb); have n5_ := Aside0.mk (Kd.R_below (KRz HO378) hb); have n6_ := Aside0.mk (Kd.S_below (KSz HO381) hb); have n7_ := BBz BK356 hb; have n8_ := Aside0.mk (below_step (HBb GE356) hb); have n9_ := Aside0.mk (hbox); have n10_ := BSz w hg (HBb GE356); have n11_ := BSz w hg (HBb GE356); have n12_ := BNz BK356 hg; have n13_ := BMz BK356 hg; clear HO362; clear HO365; clear HO368; clear HO371; clear HO375; clear HO378; clear HO381; clear BK356; clear HB; have HO362 := n0_; have HO365 := n1_; have HO368 := n2_; have HO371 := n3_; have HO375 := n4_; have HO378 := n5_; have HO381 := n6_; have BK356 := n7_; have HB := n8_; have BK382 := n9_; have GW382 := n10_; have GE382 := n11_; have NB356_382 := n12_; have NB382_356 := n13_; clear n0_ n1_ n2_ n3_ n4_ n5_ n6_ n7_ n8_ n9_ n10_ n11_ n12_ n13_; clear hb hbox hg; obtain ⟨Ao190, co190, eo190⟩ := Kd.R_slice HO378.out; subst eo190; have hnb191 := NB382_356.out; have hnc191 := NB356_382.out; have hcz192_0 := C1z BK382; have hcz192_1 := C2z BK382; have hfz192_0 := blk_frozen BK382.out 0; have hfz192_1 := blk_frozen BK382.out 1; obtain ⟨Ao193, co193, eo193⟩ := Kd.S_slice HO381.out; subst eo193) | ((with_reducible refine gate_callee (f := 13) rfl ?_); refine goesL_ (some 46) rfl rfl Tryz.func13 (by kernel_rfl) rfl #[.slice A3 l3.length c3] rfl MPz ?_; (with_reducible refine (laws_toStringS.calls k _ _ l3 t383 _ ?side1 ?side2 A29.out).mono ?_); (case side1 => exact Kd.C_below HR3.out (HBc GE356 GE382)); (case side2 => exact HC3.out); rintro e w194 ⟨v384, rfl, ho0, hb⟩; refine ⟨_, rfl, ?_⟩; have n0_ := Aside0.mk (Kd.S_elder' (by (with_reducible repeat (first | apply Kd.S_alloc | apply Kd.S_drewN | apply Kd.S_drew)); exact (Kd.S_mono (Kd.S_far (p := ⟨gb382, 1, none⟩) (Kd.S_far (p := ⟨gb382, 0, none⟩) (Kd.S_types HO362.out BK382.out (by decide)) (fun _ hk => hk.2) (.slice Ao190 t376.length co190)) (fun _ hk => hk.2) (.slice Ao193 t379.length co193)) (fun _ h_ => h_.1))) (Kd.R_base ho0) hb); have n1_ := Aside0.mk (Kd.R_below (by (with_reducible repeat (first | apply Kd.R_alloc | apply Kd.R_drewN | apply Kd.R_drew)); exact (Kd.R_mono (Kd.R_far (p := ⟨gb382, 1, none⟩) (Kd.R_far (p := ⟨gb382, 0, none⟩) (Kd.R_types HO365.out BK382.out (by decide)) (fun _ hk => hk.2) (.slice Ao190 t376.length co190)) (fun _ hk => hk.2) (.slice Ao193 t379.length co193)) (fun _ h_ => h_.1))) hb); have n2_ := Aside0.mk (Kd.S_elder' (by (with_reducible repeat (first | apply Kd.S_alloc | apply Kd.S_drewN | apply Kd.S_drew)); exact (Kd.S_mono (Kd.S_far (p := ⟨gb382, 1, none⟩) (Kd.S_far (p := ⟨gb382, 0, none⟩) (Kd.S_types HO368.out BK382.out (by decide)) (fun _ hk => hk.2) (.slice Ao190 t376.length co190)) (fun _ hk => hk.2) (.slice Ao193 t379.length co193)) (fun _ h_ => h_.1))) (Kd.R_base ho0) hb); have n3_ := Aside0.mk (Kd.R_elder' (by (with_reducible repeat (first | apply Kd.R_alloc | apply Kd.R_drewN | apply Kd.R_drew)); exact (Kd.R_mono (Kd.R_far (p := ⟨gb382, 1, none⟩) (Kd.R_far (p := ⟨gb382, 0, none⟩) (Kd.R_types HO371.out BK382.out (by decide)) (fun _ hk => hk.2) (.slice Ao190 t376.length co190)) (fun _ hk => hk.2) (.slice Ao193 t379.length co193)) (fun _ h_ => h_.1))) (Kd.R_base ho0) hb); have n4_ := Aside0.mk (Kd.S_elder' (by (with_reducible repeat (first | apply Kd.S_alloc | apply Kd.S_drewN | apply Kd.S_drew)); exact (Kd.S_mono (Kd.S_far (p := ⟨gb382, 1, none⟩) (Kd.S_far (p := ⟨gb382, 0, none⟩) (Kd.S_types HO375.out BK382.out (by decide)) (fun _ hk => hk.2) (.slice Ao190 t376.length co190)) (fun _ hk => hk.2) (.slice Ao193 t379.length co193)) (fun _ h_ => h_.1))) (Kd.R_base ho0) hb); have n5_ := Aside0.mk (Kd.R_below (by (with_reducible repeat (first | apply Kd.R_alloc | apply Kd.R_drewN | apply Kd.R_drew)); exact (Kd.R_mono (Kd.R_far (p := ⟨gb382, 1, none⟩) (Kd.R_far (p := ⟨gb382, 0, none⟩) (Kd.R_types HO378.out BK382.out (by decide)) (fun _ hk => hk.2) (.slice Ao190 t376.length co190)) (fun _ hk => hk.2) (.slice Ao193 t379.length co193)) (fun _ h_ => h_.1))) hb); have n6_ := Aside0.mk (Kd.S_elder' (by (with_reducible repeat (first | apply Kd.S_alloc | apply Kd.S_drewN | apply Kd.S_drew)); exact (Kd.S_mono (Kd.S_far (p := ⟨gb382, 1, none⟩) (Kd.S_far (p := ⟨gb382, 0, none⟩) (Kd.S_types HO381.out BK382.out (by decide)) (fun _ hk => hk.2) (.slice Ao190 t376.length co190)) (fun _ hk => hk.2) (.slice Ao193 t379.length co193)) (fun _ h_ => h_.1))) (Kd.R_base ho0) hb); have n7_ := Aside0.mk (Kd.R_lower (Kd.R_new' ho0 (Kd.R_lt (by (with_reducible repeat (first | apply Kd.R_alloc | apply Kd.R_drewN | apply Kd.R_drew)); exact (Kd.R_mono (Kd.R_far (p := ⟨gb382, 1, none⟩) (Kd.R_far (p := ⟨gb382, 0, none⟩) (Kd.R_types HO371.out BK382.out (by decide)) (fun _ hk => hk.2) (.slice Ao190 t376.length co190)) (fun _ hk => hk.2) (.slice Ao193 t379.length co193)) (fun _ h_ => h_.1))))) (below_size (HBc GE356 GE382))); have n8_ := Aside0.mk (blk_below (g := gb356) (o := .cells #[.slice A2_0 l2_0.length c2_0, .slice A2_1 l2_1.length c2_1] 26 (0, 0)) (by (with_reducible repeat (first | refine blk_drewN ?_ _ | refine blk_drew ?_ | refine blk_alloc ?_ _)); refine blk_far ?_ NB356_382.out _; (with_reducible repeat (first | refine blk_drewN ?_ _ | refine blk_drew ?_ | refine blk_alloc ?_ _)); refine blk_far ?_ NB356_382.out _; (with_reducible repeat (first | refine blk_drewN ?_ _ | refine blk_drew ?_ | refine blk_alloc ?_ _)); exact BK356.out) hb); have n9_ := Aside0.mk (blk_below (g := gb382) (o := .cells #[.slice Ao190 t376.length co190, .slice Ao193 t379.length co193] 37 (0, 0)) (by (with_reducible repeat (first | refine blk_drewN ?_ _ | refine blk_drew ?_ | refine blk_alloc ?_ _)); refine blk_put (cs := #[.slice Ao190 t376.length co190, .slice none 0 0]) ?_ 1 _ rfl; (with_reducible repeat (first | refine blk_drewN ?_ _ | refine blk_drew ?_ | refine blk_alloc ?_ _)); refine blk_put (cs := #[.slice none 0 0, .slice none 0 0]) ?_ 0 _ rfl; (with_reducible repeat (first | refine blk_drewN ?_ _ | refine blk_drew ?_ | refine blk_alloc ?_ _)); exact BK382.out) hb); have n10_ := Aside0.mk (below_step (HBc GE356 GE382) hb); clear HO362; clear HO365; clear HO368; clear HO371; clear HO375; clear HO378; clear HO381; clear BK356; clear BK382; clear HB; have HO362 := n0_; have HO365 := n1_; have HO368 := n2_; have HO371 := n3_; have HO375 := n4_; have HO378 := n5_; have HO381 := n6_; have HO385 := n7_; have BK356 := n8_; have BK382 := n9_; have HB := n10_; clear n0_ n1_ n2_ n3_ n4_ n5_ n6_ n7_ n8_ n9_ n10_; (try clear hb); (try clear hb2); (try clear hk); (try clear hi); (try clear ho0); have hcz195_0 := C1z BK382; have hcz195_1 := C2z BK382; have hfz195_0 := blk_frozen BK382.out 0; have hfz195_1 := blk_frozen BK382.out 1; obtain ⟨Ao196, co196, eo196⟩ := Kd.S_slice HO375.out; subst eo196; obtain ⟨Ao197, co197, eo197⟩ := Kd.R_slice HO385.out; subst eo197) | ((with_reducible refine gate_callee (f := 14) rfl ?_); refine goesL_ (some 51) rfl rfl Tryz.func14 (by kernel_rfl) rfl #[.slice Ao196 t373.length co196, .string a1, .agg #[.slice Ao190 t376.length co190, .slice Ao193 t379.length co193], .slice Ao197 t383.length co197] rfl MPz ?_; (with_reducible refine (impl_MayChange.calls k _ _ t373 a1 _ _ t376 _ _ t379 _ _ t383 t386 _ ?side1 ?side2 ?side3 ?side4 ?side5 ?side6 ?side7 ?side8 A30.out).mono ?_); (case side1 => repeat (first | exact (Kd.S_reads' HO375.out).2.2 | (with_reducible refine Kd.C_alloc ?_ _) | (with_reducible refine Kd.C_drewN ?_ _) | (with_reducible refine Kd.C_drew ?_))); (case side2 => exact (Kd.S_reads' HO375.out).2.1); (case side3 => repeat (first | exact (Kd.R_reads' HO378.out).2.2 | (with_reducible refine Kd.C_alloc ?_ _) | (with_reducible refine Kd.C_drewN ?_ _) | (with_reducible refine Kd.C_drew ?_))); (case side4 => exact (Kd.R_reads' HO378.out).2.1); (case side5 => repeat (first | exact (Kd.S_reads' HO381.out).2.2 | (with_reducible refine Kd.C_alloc ?_ _) | (with_reducible refine Kd.C_drewN ?_ _) | (with_reducible refine Kd.C_drew ?_))); (case side6 => exact (Kd.S_reads' HO381.out).2.1); (case side7 => repeat (first | exact (Kd.R_reads' HO385.out).2.2 | (with_reducible refine Kd.C_alloc ?_ _) | (with_reducible refine Kd.C_drewN ?_ _) | (with_reducible refine Kd.C_drew ?_))); (case side8 => exact (Kd.R_reads' HO385.out).2.1); rintro e w198 ⟨rfl, hb⟩; refine ⟨_, rfl, ?_⟩; have n0_ := Aside0.mk (Kd.S_below (KSz HO362) hb); have n1_ := Aside0.mk (Kd.R_below (KRz HO365) hb); have n2_ := Aside0.mk (Kd.S_below (KSz HO368) hb); have n3_ := Aside0.mk (Kd.R_below (KRz HO371) hb); have n4_ := Aside0.mk (Kd.S_below (KSz HO375) hb); have n5_ := Aside0.mk (Kd.R_below (KRz HO378) hb); have n6_ := Aside0.mk (Kd.S_below (KSz HO381) hb); have n7_ := Aside0.mk (Kd.R_below (KRz HO385) hb); have n8_ := BBz BK356 hb; have n9_ := BBz BK382 hb; have n10_ := Aside0.mk (below_step (HBc GE356 GE382) hb); clear HO362; clear HO365; clear HO368; clear HO371; clear HO375; clear HO378; clear HO381; clear HO385; clear BK356; clear BK382; clear HB; have HO362 := n0_; have HO365 := n1_; have HO368 := n2_; have HO371 := n3_; have HO375 := n4_; have HO378 := n5_; have HO381 := n6_; have HO385 := n7_; have BK356 := n8_; have BK382 := n9_; have HB := n10_; clear n0_ n1_ n2_ n3_ n4_ n5_ n6_ n7_ n8_ n9_ n10_; (try clear hb); (try clear hb2); (try clear hk); (try clear hi)) | ((with_reducible refine gate_callee (f := 11) rfl ?_); refine goesL_ (some 57) rfl rfl Tryz.func11 (by kernel_rfl) rfl #[.slice A0 l0.length c0] rfl MPz ?_; (with_reducible refine (laws_toRuleS.calls k _ _ l0 t387 _ ?side1 ?side2 A58.out).mono ?_); (case side1 => exact KCz (Kd.C_below HR0.out HB.out)); (case side2 => exact HC0.out); rintro e w199 ⟨v388, rfl, ho0, hb⟩; refine ⟨_, rfl, ?_⟩; have n0_ := Aside0.mk (Kd.S_elder' (KSz HO362) (Kd.S_base ho0) hb); have n1_ := Aside0.mk (Kd.R_below (KRz HO365) hb); have n2_ := Aside0.mk (Kd.S_below (KSz HO368) hb); have n3_ := Aside0.mk (Kd.R_below (KRz HO371) hb); have n4_ := Aside0.mk (Kd.S_elder' (KSz HO375) (Kd.S_base ho0) hb); have n5_ := Aside0.mk (Kd.R_below (KRz HO378) hb); have n6_ := Aside0.mk (Kd.S_below (KSz HO381) hb); have n7_ := Aside0.mk (Kd.R_below (KRz HO385) hb); have n8_ := Aside0.mk (Kd.S_lower (Kd.S_new' (Kd.S_new' (Kd.S_new' (Kd.S_new' (Kd.S_new' (Kd.S_new' ho0 (Kd.S_lt (KSz HO362))) (Kd.R_lt (KRz HO365))) (Kd.R_lt (KRz HO371))) (Kd.S_lt (KSz HO375))) (Kd.R_lt (KRz HO378))) (Kd.R_lt (KRz HO385))) (below_size (HBc GE356 GE382))); have n9_ := BBz BK356 hb; have n10_ := BBz BK382 hb; have n11_ := Aside0.mk (below_step (HBc GE356 GE382) hb); clear HO362; clear HO365; clear HO368; clear HO371; clear HO375; clear HO378; clear HO381; clear HO385; clear BK356; clear BK382; clear HB; have HO362 := n0_; have HO365 := n1_; have HO368 := n2_; have HO371 := n3_; have HO375 := n4_; have HO378 := n5_; have HO381 := n6_; have HO385 := n7_; have HO389 := n8_; have BK356 := n9_; have BK382 := n10_; have HB := n11_; clear n0_ n1_ n2_ n3_ n4_ n5_ n6_ n7_ n8_ n9_ n10_ n11_; (try clear hb); (try clear hb2); (try clear hk); (try clear hi); (try clear ho0); obtain ⟨Ao200, co200, eo200⟩ := Kd.S_slice HO389.out; subst eo200) | ((with_reducible refine gate_callee (f := 15) rfl ?_); refine goesL_ (some 58) rfl rfl Tryz.func15 (by kernel_rfl) rfl #[.slice Ao196 t373.length co196, .slice Ao200 t387.length co200] rfl MPz ?_; (with_reducible refine (laws_eqRuleS.calls k _ _ t373 _ _ t387 false _ ?side1 ?side2 ?side3 ?side4 A59.out).mono ?_); (case side1 => repeat (first | exact (Kd.S_reads' HO375.out).2.2 | (with_reducible refine Kd.C_alloc ?_ _) | (with_reducible refine Kd.C_drewN ?_ _) | (with_reducible refine Kd.C_drew ?_))); (case side2 => exact (Kd.S_reads' HO375.out).2.1); (case side3 => repeat (first | exact (Kd.S_reads' HO389.out).2.2 | (with_reducible refine Kd.C_alloc ?_ _) | (with_reducible refine Kd.C_drewN ?_ _) | (with_reducible refine Kd.C_drew ?_))); (case side4 => exact (Kd.S_reads' HO389.out).2.1); rintro e w201 ⟨rfl, hb⟩; refine ⟨_, rfl, ?_⟩; have n0_ := Aside0.mk (Kd.S_below (KSz HO362) hb); have n1_ := Aside0.mk (Kd.R_below (KRz HO365) hb); have n2_ := Aside0.mk (Kd.S_below (KSz HO368) hb); have n3_ := Aside0.mk (Kd.R_below (KRz HO371) hb); have n4_ := Aside0.mk (Kd.S_below (KSz HO375) hb); have n5_ := Aside0.mk (Kd.R_below (KRz HO378) hb); have n6_ := Aside0.mk (Kd.S_below (KSz HO381) hb); have n7_ := Aside0.mk (Kd.R_below (KRz HO385) hb); have n8_ := Aside0.mk (Kd.S_below (KSz HO389) hb); have n9_ := BBz BK356 hb; have n10_ := BBz BK382 hb; have n11_ := Aside0.mk (below_step (HBc GE356 GE382) hb); clear HO362; clear HO365; clear HO368; clear HO371; clear HO375; clear HO378; clear HO381; clear HO385; clear HO389; clear BK356; clear BK382; clear HB; have HO362 := n0_; have HO365 := n1_; have HO368 := n2_; have HO371 := n3_; have HO375 := n4_; have HO378 := n5_; have HO381 := n6_; have HO385 := n7_; have HO389 := n8_; have BK356 := n9_; have BK382 := n10_; have HB := n11_; clear n0_ n1_ n2_ n3_ n4_ n5_ n6_ n7_ n8_ n9_ n10_ n11_; (try clear hb); (try clear hb2); (try clear hk); (try clear hi)))
  go_ret
  exact ⟨EZa, HBc GE356 GE382⟩
 subst c60
 have H1 : ((laws_toEntry.f k l2_0 l2_1).bind fun bt391 => ((laws_eqEntry.f k t376 t379 bt391.1 bt391.2).bind fun t397 => (if t397 = true then ((laws_toStringS.f k l3).bind fun t398 => ((laws_eqStringS.f k t383 t398).bind fun t401 => (if t401 = true then (some true) else (some false)))) else (some false)))) = some r := by rw [if_pos rfl] at H; exact H
 clear H
 have H := H1
 clear H1
 replace H := Option.bind_eq_some_iff.mp H
 obtain ⟨⟨t391, t394⟩, A610, H⟩ := H
 replace H : ((laws_eqEntry.f k t376 t379 t391 t394).bind fun t397 => (if t397 = true then ((laws_toStringS.f k l3).bind fun t398 => ((laws_eqStringS.f k t383 t398).bind fun t401 => (if t401 = true then (some true) else (some false)))) else (some false))) = some r := H
 have A61 := Aside0.mk A610
 clear A610
 replace H := Option.bind_eq_some_iff.mp H
 obtain ⟨t397, A620, H⟩ := H
 replace H : (if t397 = true then ((laws_toStringS.f k l3).bind fun t398 => ((laws_eqStringS.f k t383 t398).bind fun t401 => (if t401 = true then (some true) else (some false)))) else (some false)) = some r := H
 have A62 := Aside0.mk A620
 clear A620
 by_cases c63 : t397 = true
 rotate_left
 ·replace c63 := Bool.eq_false_iff.mpr c63
  subst c63
  have H1 : (some false) = some r := by rw [if_neg (show ¬ (false = true) by decide)] at H; exact H
  clear H
  have H := H1
  clear H1
  obtain rfl := Option.some.inj H
  go_enter Tryz.func3, Tryz.ntmps3
  try go_wp2_with (first | ((with_reducible refine gate_dst (N := 6) rfl ?_); refine box_event ?hg (N := 6) ?hd (cs := #[.slice A2_0 l2_0.length c2_0, .slice A2_1 l2_1.length c2_1]) (t := 26) ?hr ?_; (case hd => rfl); (case hg => rfl); (case hr => first | (go_simp; done) | (go_simp; rfl)); intro gb356 hg w139 hbox hb; have n0_ := Aside0.mk (below_step HBa hb); have n1_ := Aside0.mk (hbox); have n2_ := BSz w hg HBa; have n3_ := BSz w hg HBa; clear HB; have HB := n0_; have BK356 := n1_; have GW356 := n2_; have GE356 := n3_; clear n0_ n1_ n2_ n3_; clear hb hbox hg) | ((with_reducible refine gate_callee (f := 7) rfl ?_); refine goesL_ (some 20) rfl rfl Tryz.func7 (by kernel_rfl) rfl #[.slice A0 l0.length c0, .int .i64 1048576] rfl MPz ?_; (with_reducible refine (laws_szRuleS.calls k _ _ l0 1048576 t357 _ ?side1 ?side2 A7.out).mono ?_); (case side1 => exact KCz (Kd.C_below HR0.out HB.out)); (case side2 => exact HC0.out); rintro e w140 ⟨rfl, hb⟩; refine ⟨_, rfl, ?_⟩; have n0_ := BBz BK356 hb; have n1_ := Aside0.mk (below_step (HBb GE356) hb); clear BK356; clear HB; have BK356 := n0_; have HB := n1_; clear n0_ n1_; (try clear hb); (try clear hb2); (try clear hk); (try clear hi); have hcz141_0 := C1z BK356; have hcz141_1 := C2z BK356; have hfz141_0 := blk_frozen BK356.out 0; have hfz141_1 := blk_frozen BK356.out 1) | ((with_reducible refine gate_callee (f := 8) rfl ?_); refine goesL_ (some 25) rfl rfl Tryz.func8 (by kernel_rfl) rfl #[.agg #[.slice A2_0 l2_0.length c2_0, .slice A2_1 l2_1.length c2_1], .int .i64 t357] rfl MPz ?_; (with_reducible refine (laws_szEntry.calls k _ _ l2_0 _ _ l2_1 t357 t358 _ ?side1 ?side2 ?side3 ?side4 A11.out).mono ?_); (case side1 => exact KCz (Kd.C_below HR2_0.out HB.out)); (case side2 => exact HC2_0.out); (case side3 => exact KCz (Kd.C_below HR2_1.out HB.out)); (case side4 => exact HC2_1.out); rintro e w142 ⟨rfl, hb⟩; refine ⟨_, rfl, ?_⟩; have n0_ := BBz BK356 hb; have n1_ := Aside0.mk (below_step (HBb GE356) hb); clear BK356; clear HB; have BK356 := n0_; have HB := n1_; clear n0_ n1_; (try clear hb); (try clear hb2); (try clear hk); (try clear hi)) | ((with_reducible refine gate_callee (f := 9) rfl ?_); refine goesL_ (some 30) rfl rfl Tryz.func9 (by kernel_rfl) rfl #[.slice A3 l3.length c3, .int .i64 t358] rfl MPz ?_; (with_reducible refine (laws_szStringS.calls k _ _ l3 t358 t359 _ ?side1 ?side2 A17.out).mono ?_); (case side1 => exact KCz (Kd.C_below HR3.out HB.out)); (case side2 => exact HC3.out); rintro e w' ⟨rfl, ⟨nd, rfl⟩⟩; refine ⟨_, rfl, ?_⟩; (try (rw [drewN_self w142]; generalize hq_ : World.drewN w142 _ = w142; have n0_ : Aside0 (w142.heap[gb356]? = some (.cells #[.slice A2_0 l2_0.length c2_0, .slice A2_1 l2_1.length c2_1] 26 (0, 0))) := ⟨by rw [← hq_]; exact (BKz BK356)⟩; have n1_ : Aside0 (Below w.heap.size w w142) := ⟨by rw [← hq_]; exact (HBb GE356)⟩; clear BK356 HB hq_; have BK356 := n0_; have HB := n1_; clear n0_ n1_))))
  have n0_ := Aside0.mk (blk_drew BK356.out)
  have n1_ := Aside0.mk (below_drew1 HB.out)
  clear BK356
  clear HB
  have BK356 := n0_
  have HB := n1_
  clear n0_ n1_
  refine start_ (n := 9) (S := fun w' => w'.cell? ⟨gb356, 0, none⟩ = some (.slice A2_0 l2_0.length c2_0) ∧ w'.cell? ⟨gb356, 1, none⟩ = some (.slice A2_1 l2_1.length c2_1)) (ds := []) (bz 9 0) (by kernel_rfl) rfl (by kernel_rfl) ⟨(blk_cell BK356.out 0).trans rfl, (blk_cell BK356.out 1).trans rfl⟩ (fun hHeld => ?_); refine with_tabW laws_FnExactMayChange.tab13 laws_FnExactMayChange.bits13 (fun HT_ HW_ => ?_)
  generalize w142.drew = w143 at BK356 HB hHeld ⊢
  refine PYz 0 33 (bz 9 1) rfl rfl (any_of HT_.out (by kernel_rfl)) ?_
  refine PYz 2 35 (bz 9 5) rfl rfl (any_of HT_.out (by kernel_rfl)) ?_
  refine PYz 5 38 (bz 9 37) rfl rfl (any_of HT_.out (by kernel_rfl)) ?_
  refine take_ (i := 3) (N := some 36) (v := ?_) (a' := ?_) (bz 9 45) rfl rfl (take_ofW HT_.out HW_.out (by kernel_rfl)) (fun _ _ _ h => h) (Or.inl ⟨by rfl, ?_⟩) hHeld ?_ ?_
  rotate_left
  ·rintro w' ⟨s0, s1⟩
   go_simp
   with_reducible rfl
  rotate_left
  ·simp only [PUz]
   rfl
  refine one_ (i := 1) (N := some 34) (bz 9 47) rfl rfl (one_of HT_.out (by kernel_rfl)) (by decide) (fun K hK => ?_)
  refine goes_ Tryz.func11 (by kernel_rfl) rfl #[.slice A0 l0.length c0] (by rfl) rfl rfl MPz ?_
  with_reducible refine (laws_toRuleS.calls k _ _ l0 t360 _ ?side1 ?side2 A23.out).mono ?_
  (case side1 => exact KCz (Kd.C_below HR0.out HB.out))
  (case side2 => exact HC0.out)
  rintro e w144 ⟨v361, rfl, ho0, hb⟩
  refine ⟨_, rfl, ?_⟩
  have n0_ := Aside0.mk (Kd.S_lower ho0 (below_size (HBb GE356)))
  have n1_ := BBz BK356 hb
  have n2_ := Aside0.mk (below_step (HBb GE356) hb)
  clear BK356
  clear HB
  have HO362 := n0_
  have BK356 := n1_
  have HB := n2_
  clear n0_ n1_ n2_
  (try clear hb)
  (try clear hb2)
  (try clear hk)
  (try clear hi)
  (try clear ho0)
  refine hK.out _ _ ⟨(blk_cell BK356.out 0).trans rfl, (blk_cell BK356.out 1).trans rfl⟩ (fun hHeld => ?_)
  clear hK K
  refine norm_ (a' := ?_) ?_ ?_
  rotate_left
  ·show Act.put _ (some 34) _ = _
   simp only [PUz]
   rfl
  refine one_ (i := 4) (N := some 37) (bz 9 63) rfl rfl (one_of HT_.out (by kernel_rfl)) (by decide) (fun K hK => ?_)
  refine goes_ Tryz.func12 (by kernel_rfl) rfl #[.agg #[.slice A2_0 l2_0.length c2_0, .slice A2_1 l2_1.length c2_1]] (by rfl) rfl rfl MPz ?_
  with_reducible refine (laws_toEntry.calls k _ _ l2_0 _ _ l2_1 t363 t366 _ ?side1 ?side2 ?side3 ?side4 A24.out).mono ?_
  (case side1 => exact KCz (Kd.C_below HR2_0.out HB.out))
  (case side2 => exact HC2_0.out)
  (case side3 => exact KCz (Kd.C_below HR2_1.out HB.out))
  (case side4 => exact HC2_1.out)
  rintro e w145 ⟨v364, v367, rfl, ho0, ho1, hb⟩
  refine ⟨_, rfl, ?_⟩
  have n0_ := Aside0.mk (Kd.S_elder' (KSz HO362) (Kd.R_base ho0) hb)
  have n1_ := Aside0.mk (Kd.R_lower ho0 (below_size (HBb GE356)))
  have n2_ := Aside0.mk (Kd.S_lower ho1 (below_size (HBb GE356)))
  have n3_ := BBz BK356 hb
  have n4_ := Aside0.mk (below_step (HBb GE356) hb)
  clear HO362
  clear BK356
  clear HB
  have HO362 := n0_
  have HO365 := n1_
  have HO368 := n2_
  have BK356 := n3_
  have HB := n4_
  clear n0_ n1_ n2_ n3_ n4_
  (try clear hb)
  (try clear hb2)
  (try clear hk)
  (try clear hi)
  (try clear ho0)
  (try clear ho1)
  refine hK.out _ _ ⟨(blk_cell BK356.out 0).trans rfl, (blk_cell BK356.out 1).trans rfl⟩ (fun hHeld => ?_)
  clear hK K
  refine norm_ (a' := ?_) ?_ ?_
  rotate_left
  ·show Act.put _ (some 37) _ = _
   simp only [PUz]
   rfl
  refine one_ (i := 6) (N := some 39) (bz 9 127) rfl rfl (one_of HT_.out (by kernel_rfl)) (by decide) (fun K hK => ?_)
  refine goes_ Tryz.func13 (by kernel_rfl) rfl #[.slice A3 l3.length c3] (by rfl) rfl rfl MPz ?_
  with_reducible refine (laws_toStringS.calls k _ _ l3 t369 _ ?side1 ?side2 A25.out).mono ?_
  (case side1 => exact KCz (Kd.C_below HR3.out HB.out))
  (case side2 => exact HC3.out)
  rintro e w146 ⟨v370, rfl, ho0, hb⟩
  refine ⟨_, rfl, ?_⟩
  have n0_ := Aside0.mk (Kd.S_elder' (KSz HO362) (Kd.R_base ho0) hb)
  have n1_ := Aside0.mk (Kd.R_below (KRz HO365) hb)
  have n2_ := Aside0.mk (Kd.S_elder' (KSz HO368) (Kd.R_base ho0) hb)
  have n3_ := Aside0.mk (Kd.R_lower ho0 (below_size (HBb GE356)))
  have n4_ := BBz BK356 hb
  have n5_ := Aside0.mk (below_step (HBb GE356) hb)
  clear HO362
  clear HO365
  clear HO368
  clear BK356
  clear HB
  have HO362 := n0_
  have HO365 := n1_
  have HO368 := n2_
  have HO371 := n3_
  have BK356 := n4_
  have HB := n5_
  clear n0_ n1_ n2_ n3_ n4_ n5_
  (try clear hb)
  (try clear hb2)
  (try clear hk)
  (try clear hi)
  (try clear ho0)
  obtain ⟨Ao147, co147, eo147⟩ := Kd.S_slice HO362.out
  (first | subst eo147 | (injection eo147 with f1_ f2_ f3_; have f4_ := f1_.symm; have f5_ := f3_.symm; clear f1_ f2_ f3_; subst f4_; subst f5_))
  obtain ⟨Ao148, co148, eo148⟩ := Kd.R_slice HO365.out
  (first | subst eo148 | (injection eo148 with f1_ f2_ f3_; have f4_ := f1_.symm; have f5_ := f3_.symm; clear f1_ f2_ f3_; subst f4_; subst f5_))
  obtain ⟨Ao149, co149, eo149⟩ := Kd.S_slice HO368.out
  (first | subst eo149 | (injection eo149 with f1_ f2_ f3_; have f4_ := f1_.symm; have f5_ := f3_.symm; clear f1_ f2_ f3_; subst f4_; subst f5_))
  obtain ⟨Ao150, co150, eo150⟩ := Kd.R_slice HO371.out
  (first | subst eo150 | (injection eo150 with f1_ f2_ f3_; have f4_ := f1_.symm; have f5_ := f3_.symm; clear f1_ f2_ f3_; subst f4_; subst f5_))
  refine hK.out _ _ ⟨(blk_cell BK356.out 0).trans rfl, (blk_cell BK356.out 1).trans rfl⟩ (fun hHeld => ?_)
  clear hK K
  refine norm_ (a' := ?_) ?_ ?_
  rotate_left
  ·show Act.put _ (some 39) _ = _
   simp only [PUz]
   rfl
  refine one_ (i := 7) (N := some 40) (bz 9 255) rfl rfl (one_of HT_.out (by kernel_rfl)) (by decide) (fun K hK => ?_)
  refine goes_ Tryz.func10 (by kernel_rfl) rfl #[.slice Ao147 t360.length co147, .string a1, .agg #[.slice Ao148 t363.length co148, .slice Ao149 t366.length co149], .slice Ao150 t369.length co150] (by rfl) rfl rfl MPz ?_
  with_reducible refine (spec_MayChange.calls k _ _ t360 a1 _ _ t363 _ _ t366 _ _ t369 t372 _ ?side1 ?side2 ?side3 ?side4 ?side5 ?side6 ?side7 ?side8 A26.out).mono ?_
  (case side1 => repeat (first | exact (Kd.S_reads' HO362.out).2.2 | (with_reducible refine Kd.C_alloc ?_ _) | (with_reducible refine Kd.C_drewN ?_ _) | (with_reducible refine Kd.C_drew ?_)))
  (case side2 => exact (Kd.S_reads' HO362.out).2.1)
  (case side3 => repeat (first | exact (Kd.R_reads' HO365.out).2.2 | (with_reducible refine Kd.C_alloc ?_ _) | (with_reducible refine Kd.C_drewN ?_ _) | (with_reducible refine Kd.C_drew ?_)))
  (case side4 => exact (Kd.R_reads' HO365.out).2.1)
  (case side5 => repeat (first | exact (Kd.S_reads' HO368.out).2.2 | (with_reducible refine Kd.C_alloc ?_ _) | (with_reducible refine Kd.C_drewN ?_ _) | (with_reducible refine Kd.C_drew ?_)))
  (case side6 => exact (Kd.S_reads' HO368.out).2.1)
  (case side7 => repeat (first | exact (Kd.R_reads' HO371.out).2.2 | (with_reducible refine Kd.C_alloc ?_ _) | (with_reducible refine Kd.C_drewN ?_ _) | (with_reducible refine Kd.C_drew ?_)))
  (case side8 => exact (Kd.R_reads' HO371.out).2.1)
  rintro e w151 ⟨rfl, hb⟩
  refine ⟨_, rfl, ?_⟩
  have n0_ := Aside0.mk (Kd.S_below (KSz HO362) hb)
  have n1_ := Aside0.mk (Kd.R_below (KRz HO365) hb)
  have n2_ := Aside0.mk (Kd.S_below (KSz HO368) hb)
  have n3_ := Aside0.mk (Kd.R_below (KRz HO371) hb)
  have n4_ := BBz BK356 hb
  have n5_ := Aside0.mk (below_step (HBb GE356) hb)
  clear HO362
  clear HO365
  clear HO368
  clear HO371
  clear BK356
  clear HB
  have HO362 := n0_
  have HO365 := n1_
  have HO368 := n2_
  have HO371 := n3_
  have BK356 := n4_
  have HB := n5_
  clear n0_ n1_ n2_ n3_ n4_ n5_
  (try clear hb)
  (try clear hb2)
  (try clear hk)
  (try clear hi)
  refine hK.out _ _ ⟨(blk_cell BK356.out 0).trans rfl, (blk_cell BK356.out 1).trans rfl⟩ (fun hHeld => ?_)
  clear hK K
  refine norm_ (a' := ?_) ?_ ?_
  rotate_left
  ·show Act.put _ (some 40) _ = _
   simp only [PUz]
   rfl
  refine PYz 8 10 (bz 9 511) rfl rfl (any_of HT_.out (by kernel_rfl)) ?_
  refine done_ (done_of HT_.out (by kernel_rfl)) ?_
  try go_wp2_with (first | ((with_reducible refine gate_callee (f := 11) rfl ?_); refine goesL_ (some 42) rfl rfl Tryz.func11 (by kernel_rfl) rfl #[.slice A0 l0.length c0] rfl MPz ?_; (with_reducible refine (laws_toRuleS.calls k _ _ l0 t373 _ ?side1 ?side2 A27.out).mono ?_); (case side1 => exact KCz (Kd.C_below HR0.out HB.out)); (case side2 => exact HC0.out); rintro e w152 ⟨v374, rfl, ho0, hb⟩; refine ⟨_, rfl, ?_⟩; have n0_ := Aside0.mk (Kd.S_elder' (KSz HO362) (Kd.S_base ho0) hb); have n1_ := Aside0.mk (Kd.R_below (KRz HO365) hb); have n2_ := Aside0.mk (Kd.S_below (KSz HO368) hb); have n3_ := Aside0.mk (Kd.R_below (KRz HO371) hb); have n4_ := Aside0.mk (Kd.S_lower (Kd.S_new' (Kd.S_new' (Kd.S_new' ho0 (Kd.S_lt (KSz HO362))) (Kd.R_lt (KRz HO365))) (Kd.R_lt (KRz HO371))) (below_size (HBb GE356))); have n5_ := BBz BK356 hb; have n6_ := Aside0.mk (below_step (HBb GE356) hb); clear HO362; clear HO365; clear HO368; clear HO371; clear BK356; clear HB; have HO362 := n0_; have HO365 := n1_; have HO368 := n2_; have HO371 := n3_; have HO375 := n4_; have BK356 := n5_; have HB := n6_; clear n0_ n1_ n2_ n3_ n4_ n5_ n6_; (try clear hb); (try clear hb2); (try clear hk); (try clear hi); (try clear ho0); have hcz153_0 := C1z BK356; have hcz153_1 := C2z BK356; have hfz153_0 := blk_frozen BK356.out 0; have hfz153_1 := blk_frozen BK356.out 1) | ((with_reducible refine gate_callee (f := 12) rfl ?_); refine goesL_ (some 44) rfl rfl Tryz.func12 (by kernel_rfl) rfl #[.agg #[.slice A2_0 l2_0.length c2_0, .slice A2_1 l2_1.length c2_1]] rfl MPz ?_; (with_reducible refine (laws_toEntry.calls k _ _ l2_0 _ _ l2_1 t376 t379 _ ?side1 ?side2 ?side3 ?side4 A28.out).mono ?_); (case side1 => exact KCz (Kd.C_below HR2_0.out HB.out)); (case side2 => exact HC2_0.out); (case side3 => exact KCz (Kd.C_below HR2_1.out HB.out)); (case side4 => exact HC2_1.out); rintro e w154 ⟨v377, v380, rfl, ho0, ho1, hb⟩; refine ⟨_, rfl, ?_⟩; have n0_ := Aside0.mk (Kd.S_elder' (KSz HO362) (Kd.R_base ho0) hb); have n1_ := Aside0.mk (Kd.R_elder' (KRz HO365) (Kd.R_base ho0) hb); have n2_ := Aside0.mk (Kd.S_elder' (KSz HO368) (Kd.S_base ho1) hb); have n3_ := Aside0.mk (Kd.R_below (KRz HO371) hb); have n4_ := Aside0.mk (Kd.S_elder' (KSz HO375) (Kd.R_base ho0) hb); have n5_ := Aside0.mk (Kd.R_lower (Kd.R_new' ho0 (Kd.R_lt (KRz HO365))) (below_size (HBb GE356))); have n6_ := Aside0.mk (Kd.S_lower (Kd.S_new' (Kd.S_new' ho1 (Kd.S_lt (KSz HO368))) (Kd.R_lt (KRz HO371))) (below_size (HBb GE356))); have n7_ := BBz BK356 hb; have n8_ := Aside0.mk (below_step (HBb GE356) hb); clear HO362; clear HO365; clear HO368; clear HO371; clear HO375; clear BK356; clear HB; have HO362 := n0_; have HO365 := n1_; have HO368 := n2_; have HO371 := n3_; have HO375 := n4_; have HO378 := n5_; have HO381 := n6_; have BK356 := n7_; have HB := n8_; clear n0_ n1_ n2_ n3_ n4_ n5_ n6_ n7_ n8_; (try clear hb); (try clear hb2); (try clear hk); (try clear hi); (try clear ho0); (try clear ho1)) | ((with_reducible refine gate_dst (N := 12) rfl ?_); refine box_event ?hg (N := 12) ?hd (cs := #[.slice none 0 0, .slice none 0 0]) (t := 37) ?hr ?_; (case hd => rfl); (case hg => rfl); (case hr => first | (go_simp; done) | (go_simp; rfl)); intro gb382 hg w155 hbox hb; have n0_ := Aside0.mk (Kd.S_below (KSz HO362) hb); have n1_ := Aside0.mk (Kd.R_below (KRz HO365) hb); have n2_ := Aside0.mk (Kd.S_below (KSz HO368) hb); have n3_ := Aside0.mk (Kd.R_below (KRz HO371) hb); have n4_ := Aside0.mk (Kd.S_below (KSz HO375) hb); have n5_ := Aside0.mk (Kd.R_below (KRz HO378) hb); have n6_ := Aside0.mk (Kd.S_below (KSz HO381) hb); have n7_ := BBz BK356 hb; have n8_ := Aside0.mk (below_step (HBb GE356) hb); have n9_ := Aside0.mk (hbox); have n10_ := BSz w hg (HBb GE356); have n11_ := BSz w hg (HBb GE356); have n12_ := BNz BK356 hg; have n13_ := BMz BK356 hg; clear HO362; clear HO365; clear HO368; clear HO371; clear HO375; clear HO378; clear HO381; clear BK356; clear HB; have HO362 := n0_; have HO365 := n1_; have HO368 := n2_; have HO371 := n3_; have HO375 := n4_; have HO378 := n5_; have HO381 := n6_; have BK356 := n7_; have HB := n8_; have BK382 := n9_; have GW382 := n10_; have GE382 := n11_; have NB356_382 := n12_; have NB382_356 := n13_; clear n0_ n1_ n2_ n3_ n4_ n5_ n6_ n7_ n8_ n9_ n10_ n11_ n12_ n13_; clear hb hbox hg; obtain ⟨Ao156, co156, eo156⟩ := Kd.R_slice HO378.out; subst eo156; have hnb157 := NB382_356.out; have hnc157 := NB356_382.out; have hcz158_0 := C1z BK382; have hcz158_1 := C2z BK382; have hfz158_0 := blk_frozen BK382.out 0; have hfz158_1 := blk_frozen BK382.out 1; obtain ⟨Ao159, co159, eo159⟩ := Kd.S_slice HO381.out; subst eo159) | ((with_reducible refine gate_callee (f := 13) rfl ?_); refine goesL_ (some 46) rfl rfl Tryz.func13 (by kernel_rfl) rfl #[.slice A3 l3.length c3] rfl MPz ?_; (with_reducible refine (laws_toStringS.calls k _ _ l3 t383 _ ?side1 ?side2 A29.out).mono ?_); (case side1 => exact Kd.C_below HR3.out (HBc GE356 GE382)); (case side2 => exact HC3.out); rintro e w160 ⟨v384, rfl, ho0, hb⟩; refine ⟨_, rfl, ?_⟩; have n0_ := Aside0.mk (Kd.S_elder' (by (with_reducible repeat (first | apply Kd.S_alloc | apply Kd.S_drewN | apply Kd.S_drew)); exact (Kd.S_mono (Kd.S_far (p := ⟨gb382, 1, none⟩) (Kd.S_far (p := ⟨gb382, 0, none⟩) (Kd.S_types HO362.out BK382.out (by decide)) (fun _ hk => hk.2) (.slice Ao156 t376.length co156)) (fun _ hk => hk.2) (.slice Ao159 t379.length co159)) (fun _ h_ => h_.1))) (Kd.R_base ho0) hb); have n1_ := Aside0.mk (Kd.R_below (by (with_reducible repeat (first | apply Kd.R_alloc | apply Kd.R_drewN | apply Kd.R_drew)); exact (Kd.R_mono (Kd.R_far (p := ⟨gb382, 1, none⟩) (Kd.R_far (p := ⟨gb382, 0, none⟩) (Kd.R_types HO365.out BK382.out (by decide)) (fun _ hk => hk.2) (.slice Ao156 t376.length co156)) (fun _ hk => hk.2) (.slice Ao159 t379.length co159)) (fun _ h_ => h_.1))) hb); have n2_ := Aside0.mk (Kd.S_elder' (by (with_reducible repeat (first | apply Kd.S_alloc | apply Kd.S_drewN | apply Kd.S_drew)); exact (Kd.S_mono (Kd.S_far (p := ⟨gb382, 1, none⟩) (Kd.S_far (p := ⟨gb382, 0, none⟩) (Kd.S_types HO368.out BK382.out (by decide)) (fun _ hk => hk.2) (.slice Ao156 t376.length co156)) (fun _ hk => hk.2) (.slice Ao159 t379.length co159)) (fun _ h_ => h_.1))) (Kd.R_base ho0) hb); have n3_ := Aside0.mk (Kd.R_elder' (by (with_reducible repeat (first | apply Kd.R_alloc | apply Kd.R_drewN | apply Kd.R_drew)); exact (Kd.R_mono (Kd.R_far (p := ⟨gb382, 1, none⟩) (Kd.R_far (p := ⟨gb382, 0, none⟩) (Kd.R_types HO371.out BK382.out (by decide)) (fun _ hk => hk.2) (.slice Ao156 t376.length co156)) (fun _ hk => hk.2) (.slice Ao159 t379.length co159)) (fun _ h_ => h_.1))) (Kd.R_base ho0) hb); have n4_ := Aside0.mk (Kd.S_elder' (by (with_reducible repeat (first | apply Kd.S_alloc | apply Kd.S_drewN | apply Kd.S_drew)); exact (Kd.S_mono (Kd.S_far (p := ⟨gb382, 1, none⟩) (Kd.S_far (p := ⟨gb382, 0, none⟩) (Kd.S_types HO375.out BK382.out (by decide)) (fun _ hk => hk.2) (.slice Ao156 t376.length co156)) (fun _ hk => hk.2) (.slice Ao159 t379.length co159)) (fun _ h_ => h_.1))) (Kd.R_base ho0) hb); have n5_ := Aside0.mk (Kd.R_below (by (with_reducible repeat (first | apply Kd.R_alloc | apply Kd.R_drewN | apply Kd.R_drew)); exact (Kd.R_mono (Kd.R_far (p := ⟨gb382, 1, none⟩) (Kd.R_far (p := ⟨gb382, 0, none⟩) (Kd.R_types HO378.out BK382.out (by decide)) (fun _ hk => hk.2) (.slice Ao156 t376.length co156)) (fun _ hk => hk.2) (.slice Ao159 t379.length co159)) (fun _ h_ => h_.1))) hb); have n6_ := Aside0.mk (Kd.S_elder' (by (with_reducible repeat (first | apply Kd.S_alloc | apply Kd.S_drewN | apply Kd.S_drew)); exact (Kd.S_mono (Kd.S_far (p := ⟨gb382, 1, none⟩) (Kd.S_far (p := ⟨gb382, 0, none⟩) (Kd.S_types HO381.out BK382.out (by decide)) (fun _ hk => hk.2) (.slice Ao156 t376.length co156)) (fun _ hk => hk.2) (.slice Ao159 t379.length co159)) (fun _ h_ => h_.1))) (Kd.R_base ho0) hb); have n7_ := Aside0.mk (Kd.R_lower (Kd.R_new' ho0 (Kd.R_lt (by (with_reducible repeat (first | apply Kd.R_alloc | apply Kd.R_drewN | apply Kd.R_drew)); exact (Kd.R_mono (Kd.R_far (p := ⟨gb382, 1, none⟩) (Kd.R_far (p := ⟨gb382, 0, none⟩) (Kd.R_types HO371.out BK382.out (by decide)) (fun _ hk => hk.2) (.slice Ao156 t376.length co156)) (fun _ hk => hk.2) (.slice Ao159 t379.length co159)) (fun _ h_ => h_.1))))) (below_size (HBc GE356 GE382))); have n8_ := Aside0.mk (blk_below (g := gb356) (o := .cells #[.slice A2_0 l2_0.length c2_0, .slice A2_1 l2_1.length c2_1] 26 (0, 0)) (by (with_reducible repeat (first | refine blk_drewN ?_ _ | refine blk_drew ?_ | refine blk_alloc ?_ _)); refine blk_far ?_ NB356_382.out _; (with_reducible repeat (first | refine blk_drewN ?_ _ | refine blk_drew ?_ | refine blk_alloc ?_ _)); refine blk_far ?_ NB356_382.out _; (with_reducible repeat (first | refine blk_drewN ?_ _ | refine blk_drew ?_ | refine blk_alloc ?_ _)); exact BK356.out) hb); have n9_ := Aside0.mk (blk_below (g := gb382) (o := .cells #[.slice Ao156 t376.length co156, .slice Ao159 t379.length co159] 37 (0, 0)) (by (with_reducible repeat (first | refine blk_drewN ?_ _ | refine blk_drew ?_ | refine blk_alloc ?_ _)); refine blk_put (cs := #[.slice Ao156 t376.length co156, .slice none 0 0]) ?_ 1 _ rfl; (with_reducible repeat (first | refine blk_drewN ?_ _ | refine blk_drew ?_ | refine blk_alloc ?_ _)); refine blk_put (cs := #[.slice none 0 0, .slice none 0 0]) ?_ 0 _ rfl; (with_reducible repeat (first | refine blk_drewN ?_ _ | refine blk_drew ?_ | refine blk_alloc ?_ _)); exact BK382.out) hb); have n10_ := Aside0.mk (below_step (HBc GE356 GE382) hb); clear HO362; clear HO365; clear HO368; clear HO371; clear HO375; clear HO378; clear HO381; clear BK356; clear BK382; clear HB; have HO362 := n0_; have HO365 := n1_; have HO368 := n2_; have HO371 := n3_; have HO375 := n4_; have HO378 := n5_; have HO381 := n6_; have HO385 := n7_; have BK356 := n8_; have BK382 := n9_; have HB := n10_; clear n0_ n1_ n2_ n3_ n4_ n5_ n6_ n7_ n8_ n9_ n10_; (try clear hb); (try clear hb2); (try clear hk); (try clear hi); (try clear ho0); have hcz161_0 := C1z BK382; have hcz161_1 := C2z BK382; have hfz161_0 := blk_frozen BK382.out 0; have hfz161_1 := blk_frozen BK382.out 1; obtain ⟨Ao162, co162, eo162⟩ := Kd.S_slice HO375.out; subst eo162; obtain ⟨Ao163, co163, eo163⟩ := Kd.R_slice HO385.out; subst eo163) | ((with_reducible refine gate_callee (f := 14) rfl ?_); refine goesL_ (some 51) rfl rfl Tryz.func14 (by kernel_rfl) rfl #[.slice Ao162 t373.length co162, .string a1, .agg #[.slice Ao156 t376.length co156, .slice Ao159 t379.length co159], .slice Ao163 t383.length co163] rfl MPz ?_; (with_reducible refine (impl_MayChange.calls k _ _ t373 a1 _ _ t376 _ _ t379 _ _ t383 t386 _ ?side1 ?side2 ?side3 ?side4 ?side5 ?side6 ?side7 ?side8 A30.out).mono ?_); (case side1 => repeat (first | exact (Kd.S_reads' HO375.out).2.2 | (with_reducible refine Kd.C_alloc ?_ _) | (with_reducible refine Kd.C_drewN ?_ _) | (with_reducible refine Kd.C_drew ?_))); (case side2 => exact (Kd.S_reads' HO375.out).2.1); (case side3 => repeat (first | exact (Kd.R_reads' HO378.out).2.2 | (with_reducible refine Kd.C_alloc ?_ _) | (with_reducible refine Kd.C_drewN ?_ _) | (with_reducible refine Kd.C_drew ?_))); (case side4 => exact (Kd.R_reads' HO378.out).2.1); (case side5 => repeat (first | exact (Kd.S_reads' HO381.out).2.2 | (with_reducible refine Kd.C_alloc ?_ _) | (with_reducible refine Kd.C_drewN ?_ _) | (with_reducible refine Kd.C_drew ?_))); (case side6 => exact (Kd.S_reads' HO381.out).2.1); (case side7 => repeat (first | exact (Kd.R_reads' HO385.out).2.2 | (with_reducible refine Kd.C_alloc ?_ _) | (with_reducible refine Kd.C_drewN ?_ _) | (with_reducible refine Kd.C_drew ?_))); (case side8 => exact (Kd.R_reads' HO385.out).2.1); rintro e w164 ⟨rfl, hb⟩; refine ⟨_, rfl, ?_⟩; have n0_ := Aside0.mk (Kd.S_below (KSz HO362) hb); have n1_ := Aside0.mk (Kd.R_below (KRz HO365) hb); have n2_ := Aside0.mk (Kd.S_below (KSz HO368) hb); have n3_ := Aside0.mk (Kd.R_below (KRz HO371) hb); have n4_ := Aside0.mk (Kd.S_below (KSz HO375) hb); have n5_ := Aside0.mk (Kd.R_below (KRz HO378) hb); have n6_ := Aside0.mk (Kd.S_below (KSz HO381) hb); have n7_ := Aside0.mk (Kd.R_below (KRz HO385) hb); have n8_ := BBz BK356 hb; have n9_ := BBz BK382 hb; have n10_ := Aside0.mk (below_step (HBc GE356 GE382) hb); clear HO362; clear HO365; clear HO368; clear HO371; clear HO375; clear HO378; clear HO381; clear HO385; clear BK356; clear BK382; clear HB; have HO362 := n0_; have HO365 := n1_; have HO368 := n2_; have HO371 := n3_; have HO375 := n4_; have HO378 := n5_; have HO381 := n6_; have HO385 := n7_; have BK356 := n8_; have BK382 := n9_; have HB := n10_; clear n0_ n1_ n2_ n3_ n4_ n5_ n6_ n7_ n8_ n9_ n10_; (try clear hb); (try clear hb2); (try clear hk); (try clear hi)) | ((with_reducible refine gate_callee (f := 11) rfl ?_); refine goesL_ (some 57) rfl rfl Tryz.func11 (by kernel_rfl) rfl #[.slice A0 l0.length c0] rfl MPz ?_; (with_reducible refine (laws_toRuleS.calls k _ _ l0 t387 _ ?side1 ?side2 A58.out).mono ?_); (case side1 => exact KCz (Kd.C_below HR0.out HB.out)); (case side2 => exact HC0.out); rintro e w165 ⟨v388, rfl, ho0, hb⟩; refine ⟨_, rfl, ?_⟩; have n0_ := Aside0.mk (Kd.S_elder' (KSz HO362) (Kd.S_base ho0) hb); have n1_ := Aside0.mk (Kd.R_below (KRz HO365) hb); have n2_ := Aside0.mk (Kd.S_below (KSz HO368) hb); have n3_ := Aside0.mk (Kd.R_below (KRz HO371) hb); have n4_ := Aside0.mk (Kd.S_elder' (KSz HO375) (Kd.S_base ho0) hb); have n5_ := Aside0.mk (Kd.R_below (KRz HO378) hb); have n6_ := Aside0.mk (Kd.S_below (KSz HO381) hb); have n7_ := Aside0.mk (Kd.R_below (KRz HO385) hb); have n8_ := Aside0.mk (Kd.S_lower (Kd.S_new' (Kd.S_new' (Kd.S_new' (Kd.S_new' (Kd.S_new' (Kd.S_new' ho0 (Kd.S_lt (KSz HO362))) (Kd.R_lt (KRz HO365))) (Kd.R_lt (KRz HO371))) (Kd.S_lt (KSz HO375))) (Kd.R_lt (KRz HO378))) (Kd.R_lt (KRz HO385))) (below_size (HBc GE356 GE382))); have n9_ := BBz BK356 hb; have n10_ := BBz BK382 hb; have n11_ := Aside0.mk (below_step (HBc GE356 GE382) hb); clear HO362; clear HO365; clear HO368; clear HO371; clear HO375; clear HO378; clear HO381; clear HO385; clear BK356; clear BK382; clear HB; have HO362 := n0_; have HO365 := n1_; have HO368 := n2_; have HO371 := n3_; have HO375 := n4_; have HO378 := n5_; have HO381 := n6_; have HO385 := n7_; have HO389 := n8_; have BK356 := n9_; have BK382 := n10_; have HB := n11_; clear n0_ n1_ n2_ n3_ n4_ n5_ n6_ n7_ n8_ n9_ n10_ n11_; (try clear hb); (try clear hb2); (try clear hk); (try clear hi); (try clear ho0); obtain ⟨Ao166, co166, eo166⟩ := Kd.S_slice HO389.out; subst eo166) | ((with_reducible refine gate_callee (f := 15) rfl ?_); refine goesL_ (some 58) rfl rfl Tryz.func15 (by kernel_rfl) rfl #[.slice Ao162 t373.length co162, .slice Ao166 t387.length co166] rfl MPz ?_; (with_reducible refine (laws_eqRuleS.calls k _ _ t373 _ _ t387 true _ ?side1 ?side2 ?side3 ?side4 A59.out).mono ?_); (case side1 => repeat (first | exact (Kd.S_reads' HO375.out).2.2 | (with_reducible refine Kd.C_alloc ?_ _) | (with_reducible refine Kd.C_drewN ?_ _) | (with_reducible refine Kd.C_drew ?_))); (case side2 => exact (Kd.S_reads' HO375.out).2.1); (case side3 => repeat (first | exact (Kd.S_reads' HO389.out).2.2 | (with_reducible refine Kd.C_alloc ?_ _) | (with_reducible refine Kd.C_drewN ?_ _) | (with_reducible refine Kd.C_drew ?_))); (case side4 => exact (Kd.S_reads' HO389.out).2.1); rintro e w167 ⟨rfl, hb⟩; refine ⟨_, rfl, ?_⟩; have n0_ := Aside0.mk (Kd.S_below (KSz HO362) hb); have n1_ := Aside0.mk (Kd.R_below (KRz HO365) hb); have n2_ := Aside0.mk (Kd.S_below (KSz HO368) hb); have n3_ := Aside0.mk (Kd.R_below (KRz HO371) hb); have n4_ := Aside0.mk (Kd.S_below (KSz HO375) hb); have n5_ := Aside0.mk (Kd.R_below (KRz HO378) hb); have n6_ := Aside0.mk (Kd.S_below (KSz HO381) hb); have n7_ := Aside0.mk (Kd.R_below (KRz HO385) hb); have n8_ := Aside0.mk (Kd.S_below (KSz HO389) hb); have n9_ := BBz BK356 hb; have n10_ := BBz BK382 hb; have n11_ := Aside0.mk (below_step (HBc GE356 GE382) hb); clear HO362; clear HO365; clear HO368; clear HO371; clear HO375; clear HO378; clear HO381; clear HO385; clear HO389; clear BK356; clear BK382; clear HB; have HO362 := n0_; have HO365 := n1_; have HO368 := n2_; have HO371 := n3_; have HO375 := n4_; have HO378 := n5_; have HO381 := n6_; have HO385 := n7_; have HO389 := n8_; have BK356 := n9_; have BK382 := n10_; have HB := n11_; clear n0_ n1_ n2_ n3_ n4_ n5_ n6_ n7_ n8_ n9_ n10_ n11_; (try clear hb); (try clear hb2); (try clear hk); (try clear hi)))
  have n0_ := Aside0.mk (Kd.S_drew HO362.out)
  have n1_ := Aside0.mk (Kd.R_drew HO365.out)
  have n2_ := Aside0.mk (Kd.S_drew HO368.out)
  have n3_ := Aside0.mk (Kd.R_drew HO371.out)
  have n4_ := Aside0.mk (Kd.S_drew HO375.out)
  have n5_ := Aside0.mk (Kd.R_drew HO378.out)
  have n6_ := Aside0.mk (Kd.S_drew HO381.out)
  have n7_ := Aside0.mk (Kd.R_drew HO385.out)
  have n8_ := Aside0.mk (Kd.S_drew HO389.out)
  have n9_ := Aside0.mk (blk_drew BK356.out)
  have n10_ := Aside0.mk (blk_drew BK382.out)
  have n11_ := Aside0.mk (below_drew1 HB.out)
  clear HO362
  clear HO365
  clear HO368
  clear HO371
  clear HO375
  clear HO378
  clear HO381
  clear HO385
  clear HO389
  clear BK356
  clear BK382
  clear HB
  have HO362 := n0_
  have HO365 := n1_
  have HO368 := n2_
  have HO371 := n3_
  have HO375 := n4_
  have HO378 := n5_
  have HO381 := n6_
  have HO385 := n7_
  have HO389 := n8_
  have BK356 := n9_
  have BK382 := n10_
  have HB := n11_
  clear n0_ n1_ n2_ n3_ n4_ n5_ n6_ n7_ n8_ n9_ n10_ n11_
  refine start_ (n := 5) (S := fun w' => w'.cell? ⟨gb382, 0, none⟩ = some (.slice Ao156 t376.length co156) ∧ w'.cell? ⟨gb382, 1, none⟩ = some (.slice Ao159 t379.length co159) ∧ w'.cell? ⟨gb356, 0, none⟩ = some (.slice A2_0 l2_0.length c2_0) ∧ w'.cell? ⟨gb356, 1, none⟩ = some (.slice A2_1 l2_1.length c2_1)) (ds := []) (bz 5 0) (by kernel_rfl) rfl (by kernel_rfl) ⟨(blk_cell BK382.out 0).trans rfl, (blk_cell BK382.out 1).trans rfl, (blk_cell BK356.out 0).trans rfl, (blk_cell BK356.out 1).trans rfl⟩ (fun hHeld => ?_)
  generalize w167.drew = w168 at HO362 HO365 HO368 HO371 HO375 HO378 HO381 HO385 HO389 BK356 BK382 HB hHeld ⊢
  refine take_ (i := 0) (N := some 60) (v := ?_) (a' := ?_) (bz 5 1) rfl rfl (by kernel_rfl) (fun _ _ _ h => h) (Or.inl ⟨by rfl, ?_⟩) hHeld ?_ ?_
  rotate_left
  ·rintro w' ⟨s0, s1, s2, s3⟩
   go_simp
   with_reducible rfl
  rotate_left
  ·simp only [PUz]
   rfl
  refine take_ (i := 1) (N := some 61) (v := ?_) (a' := ?_) (bz 5 3) rfl rfl (by kernel_rfl) (fun _ _ _ h => h) (Or.inl ⟨by rfl, ?_⟩) hHeld ?_ ?_
  rotate_left
  ·rintro w' ⟨s0, s1, s2, s3⟩
   go_simp
   with_reducible rfl
  rotate_left
  ·simp only [PUz]
   rfl
  refine one_ (i := 2) (N := some 62) (bz 5 7) rfl rfl (by kernel_rfl) (by decide) (fun K hK => ?_)
  refine goes_ Tryz.func12 (by kernel_rfl) rfl #[.agg #[.slice A2_0 l2_0.length c2_0, .slice A2_1 l2_1.length c2_1]] (by rfl) rfl rfl MPz ?_
  with_reducible refine (laws_toEntry.calls k _ _ l2_0 _ _ l2_1 t391 t394 _ ?side1 ?side2 ?side3 ?side4 A61.out).mono ?_
  (case side1 => exact KCz (Kd.C_below HR2_0.out HB.out))
  (case side2 => exact HC2_0.out)
  (case side3 => exact KCz (Kd.C_below HR2_1.out HB.out))
  (case side4 => exact HC2_1.out)
  rintro e w169 ⟨v392, v395, rfl, ho0, ho1, hb⟩
  refine ⟨_, rfl, ?_⟩
  have n0_ := Aside0.mk (Kd.S_elder' (KSz HO362) (Kd.R_base ho0) hb)
  have n1_ := Aside0.mk (Kd.R_elder' (KRz HO365) (Kd.R_base ho0) hb)
  have n2_ := Aside0.mk (Kd.S_elder' (KSz HO368) (Kd.S_base ho1) hb)
  have n3_ := Aside0.mk (Kd.R_below (KRz HO371) hb)
  have n4_ := Aside0.mk (Kd.S_elder' (KSz HO375) (Kd.R_base ho0) hb)
  have n5_ := Aside0.mk (Kd.R_elder' (KRz HO378) (Kd.R_base ho0) hb)
  have n6_ := Aside0.mk (Kd.S_elder' (KSz HO381) (Kd.S_base ho1) hb)
  have n7_ := Aside0.mk (Kd.R_below (KRz HO385) hb)
  have n8_ := Aside0.mk (Kd.S_elder' (KSz HO389) (Kd.R_base ho0) hb)
  have n9_ := Aside0.mk (Kd.R_lower (Kd.R_new' (Kd.R_new' ho0 (Kd.R_lt (KRz HO365))) (Kd.R_lt (KRz HO378))) (below_size (HBc GE356 GE382)))
  have n10_ := Aside0.mk (Kd.S_lower (Kd.S_new' (Kd.S_new' (Kd.S_new' (Kd.S_new' ho1 (Kd.S_lt (KSz HO368))) (Kd.R_lt (KRz HO371))) (Kd.S_lt (KSz HO381))) (Kd.R_lt (KRz HO385))) (below_size (HBc GE356 GE382)))
  have n11_ := BBz BK356 hb
  have n12_ := BBz BK382 hb
  have n13_ := Aside0.mk (below_step (HBc GE356 GE382) hb)
  clear HO362
  clear HO365
  clear HO368
  clear HO371
  clear HO375
  clear HO378
  clear HO381
  clear HO385
  clear HO389
  clear BK356
  clear BK382
  clear HB
  have HO362 := n0_
  have HO365 := n1_
  have HO368 := n2_
  have HO371 := n3_
  have HO375 := n4_
  have HO378 := n5_
  have HO381 := n6_
  have HO385 := n7_
  have HO389 := n8_
  have HO393 := n9_
  have HO396 := n10_
  have BK356 := n11_
  have BK382 := n12_
  have HB := n13_
  clear n0_ n1_ n2_ n3_ n4_ n5_ n6_ n7_ n8_ n9_ n10_ n11_ n12_ n13_
  (try clear hb)
  (try clear hb2)
  (try clear hk)
  (try clear hi)
  (try clear ho0)
  (try clear ho1)
  obtain ⟨Ao170, co170, eo170⟩ := Kd.R_slice HO393.out
  (first | subst eo170 | (injection eo170 with f1_ f2_ f3_; have f4_ := f1_.symm; have f5_ := f3_.symm; clear f1_ f2_ f3_; subst f4_; subst f5_))
  obtain ⟨Ao171, co171, eo171⟩ := Kd.S_slice HO396.out
  (first | subst eo171 | (injection eo171 with f1_ f2_ f3_; have f4_ := f1_.symm; have f5_ := f3_.symm; clear f1_ f2_ f3_; subst f4_; subst f5_))
  refine hK.out _ _ ⟨(blk_cell BK382.out 0).trans rfl, (blk_cell BK382.out 1).trans rfl, (blk_cell BK356.out 0).trans rfl, (blk_cell BK356.out 1).trans rfl⟩ (fun hHeld => ?_)
  clear hK K
  refine norm_ (a' := ?_) ?_ ?_
  rotate_left
  ·show Act.put _ (some 62) _ = _
   simp only [PUz]
   rfl
  refine one_ (i := 3) (N := some 63) (bz 5 15) rfl rfl (by kernel_rfl) (by decide) (fun K hK => ?_)
  refine goes_ Tryz.func16 (by kernel_rfl) rfl #[.agg #[.slice Ao156 t376.length co156, .slice Ao159 t379.length co159], .agg #[.slice Ao170 t391.length co170, .slice Ao171 t394.length co171]] (by rfl) rfl rfl MPz ?_
  with_reducible refine (laws_eqEntry.calls k _ _ t376 _ _ t379 _ _ t391 _ _ t394 false _ ?side1 ?side2 ?side3 ?side4 ?side5 ?side6 ?side7 ?side8 A62.out).mono ?_
  (case side1 => repeat (first | exact (Kd.R_reads' HO378.out).2.2 | (with_reducible refine Kd.C_alloc ?_ _) | (with_reducible refine Kd.C_drewN ?_ _) | (with_reducible refine Kd.C_drew ?_)))
  (case side2 => exact (Kd.R_reads' HO378.out).2.1)
  (case side3 => repeat (first | exact (Kd.S_reads' HO381.out).2.2 | (with_reducible refine Kd.C_alloc ?_ _) | (with_reducible refine Kd.C_drewN ?_ _) | (with_reducible refine Kd.C_drew ?_)))
  (case side4 => exact (Kd.S_reads' HO381.out).2.1)
  (case side5 => repeat (first | exact (Kd.R_reads' HO393.out).2.2 | (with_reducible refine Kd.C_alloc ?_ _) | (with_reducible refine Kd.C_drewN ?_ _) | (with_reducible refine Kd.C_drew ?_)))
  (case side6 => exact (Kd.R_reads' HO393.out).2.1)
  (case side7 => repeat (first | exact (Kd.S_reads' HO396.out).2.2 | (with_reducible refine Kd.C_alloc ?_ _) | (with_reducible refine Kd.C_drewN ?_ _) | (with_reducible refine Kd.C_drew ?_)))
  (case side8 => exact (Kd.S_reads' HO396.out).2.1)
  rintro e w172 ⟨rfl, hb⟩
  refine ⟨_, rfl, ?_⟩
  have n0_ := Aside0.mk (Kd.S_below (KSz HO362) hb)
  have n1_ := Aside0.mk (Kd.R_below (KRz HO365) hb)
  have n2_ := Aside0.mk (Kd.S_below (KSz HO368) hb)
  have n3_ := Aside0.mk (Kd.R_below (KRz HO371) hb)
  have n4_ := Aside0.mk (Kd.S_below (KSz HO375) hb)
  have n5_ := Aside0.mk (Kd.R_below (KRz HO378) hb)
  have n6_ := Aside0.mk (Kd.S_below (KSz HO381) hb)
  have n7_ := Aside0.mk (Kd.R_below (KRz HO385) hb)
  have n8_ := Aside0.mk (Kd.S_below (KSz HO389) hb)
  have n9_ := Aside0.mk (Kd.R_below (KRz HO393) hb)
  have n10_ := Aside0.mk (Kd.S_below (KSz HO396) hb)
  have n11_ := BBz BK356 hb
  have n12_ := BBz BK382 hb
  have n13_ := Aside0.mk (below_step (HBc GE356 GE382) hb)
  clear HO362
  clear HO365
  clear HO368
  clear HO371
  clear HO375
  clear HO378
  clear HO381
  clear HO385
  clear HO389
  clear HO393
  clear HO396
  clear BK356
  clear BK382
  clear HB
  have HO362 := n0_
  have HO365 := n1_
  have HO368 := n2_
  have HO371 := n3_
  have HO375 := n4_
  have HO378 := n5_
  have HO381 := n6_
  have HO385 := n7_
  have HO389 := n8_
  have HO393 := n9_
  have HO396 := n10_
  have BK356 := n11_
  have BK382 := n12_
  have HB := n13_
  clear n0_ n1_ n2_ n3_ n4_ n5_ n6_ n7_ n8_ n9_ n10_ n11_ n12_ n13_
  (try clear hb)
  (try clear hb2)
  (try clear hk)
  (try clear hi)
  refine hK.out _ _ ⟨(blk_cell BK382.out 0).trans rfl, (blk_cell BK382.out 1).trans rfl, (blk_cell BK356.out 0).trans rfl, (blk_cell BK356.out 1).trans rfl⟩ (fun hHeld => ?_)
  clear hK K
  refine norm_ (a' := ?_) ?_ ?_
  rotate_left
  ·show Act.put _ (some 63) _ = _
   simp only [PUz]
   rfl
  refine pure_ (i := 4) (N := some 64) (v := ?_) (a' := ?_) (bz 5 31) rfl rfl (by kernel_rfl) (fun _ _ _ h => h) (Or.inl ⟨by rfl, ?_⟩) ?_ ?_
  rotate_left
  ·intro w'
   go_simp
   with_reducible rfl
  rotate_left
  ·simp only [PUz]
   rfl
  refine done_ (by kernel_rfl) ?_
  try go_wp2
  go_ret
  exact ⟨EZa, HBc GE356 GE382⟩
 subst c63
 have H1 : ((laws_toStringS.f k l3).bind fun t398 => ((laws_eqStringS.f k t383 t398).bind fun t401 => (if t401 = true then (some true) else (some false)))) = some r := by rw [if_pos rfl] at H; exact H
 clear H
 have H := H1
 clear H1
 replace H := Option.bind_eq_some_iff.mp H
 obtain ⟨t398, A640, H⟩ := H
 replace H : ((laws_eqStringS.f k t383 t398).bind fun t401 => (if t401 = true then (some true) else (some false))) = some r := H
 have A64 := Aside0.mk A640
 clear A640
 replace H := Option.bind_eq_some_iff.mp H
 obtain ⟨t401, A650, H⟩ := H
 replace H : (if t401 = true then (some true) else (some false)) = some r := H
 have A65 := Aside0.mk A650
 clear A650
 by_cases c66 : t401 = true
 ·subst c66
  have H1 : (some true) = some r := by rw [if_pos rfl] at H; exact H
  clear H
  have H := H1
  clear H1
  obtain rfl := Option.some.inj H
  go_enter Tryz.func3, Tryz.ntmps3
  try go_wp2_with (first | ((with_reducible refine gate_dst (N := 6) rfl ?_); refine box_event ?hg (N := 6) ?hd (cs := #[.slice A2_0 l2_0.length c2_0, .slice A2_1 l2_1.length c2_1]) (t := 26) ?hr ?_; (case hd => rfl); (case hg => rfl); (case hr => first | (go_simp; done) | (go_simp; rfl)); intro gb356 hg w67 hbox hb; have n0_ := Aside0.mk (below_step HBa hb); have n1_ := Aside0.mk (hbox); have n2_ := BSz w hg HBa; have n3_ := BSz w hg HBa; clear HB; have HB := n0_; have BK356 := n1_; have GW356 := n2_; have GE356 := n3_; clear n0_ n1_ n2_ n3_; clear hb hbox hg) | ((with_reducible refine gate_callee (f := 7) rfl ?_); refine goesL_ (some 20) rfl rfl Tryz.func7 (by kernel_rfl) rfl #[.slice A0 l0.length c0, .int .i64 1048576] rfl MPz ?_; (with_reducible refine (laws_szRuleS.calls k _ _ l0 1048576 t357 _ ?side1 ?side2 A7.out).mono ?_); (case side1 => exact KCz (Kd.C_below HR0.out HB.out)); (case side2 => exact HC0.out); rintro e w68 ⟨rfl, hb⟩; refine ⟨_, rfl, ?_⟩; have n0_ := BBz BK356 hb; have n1_ := Aside0.mk (below_step (HBb GE356) hb); clear BK356; clear HB; have BK356 := n0_; have HB := n1_; clear n0_ n1_; (try clear hb); (try clear hb2); (try clear hk); (try clear hi); have hcz69_0 := C1z BK356; have hcz69_1 := C2z BK356; have hfz69_0 := blk_frozen BK356.out 0; have hfz69_1 := blk_frozen BK356.out 1) | ((with_reducible refine gate_callee (f := 8) rfl ?_); refine goesL_ (some 25) rfl rfl Tryz.func8 (by kernel_rfl) rfl #[.agg #[.slice A2_0 l2_0.length c2_0, .slice A2_1 l2_1.length c2_1], .int .i64 t357] rfl MPz ?_; (with_reducible refine (laws_szEntry.calls k _ _ l2_0 _ _ l2_1 t357 t358 _ ?side1 ?side2 ?side3 ?side4 A11.out).mono ?_); (case side1 => exact KCz (Kd.C_below HR2_0.out HB.out)); (case side2 => exact HC2_0.out); (case side3 => exact KCz (Kd.C_below HR2_1.out HB.out)); (case side4 => exact HC2_1.out); rintro e w70 ⟨rfl, hb⟩; refine ⟨_, rfl, ?_⟩; have n0_ := BBz BK356 hb; have n1_ := Aside0.mk (below_step (HBb GE356) hb); clear BK356; clear HB; have BK356 := n0_; have HB := n1_; clear n0_ n1_; (try clear hb); (try clear hb2); (try clear hk); (try clear hi)) | ((with_reducible refine gate_callee (f := 9) rfl ?_); refine goesL_ (some 30) rfl rfl Tryz.func9 (by kernel_rfl) rfl #[.slice A3 l3.length c3, .int .i64 t358] rfl MPz ?_; (with_reducible refine (laws_szStringS.calls k _ _ l3 t358 t359 _ ?side1 ?side2 A17.out).mono ?_); (case side1 => exact KCz (Kd.C_below HR3.out HB.out)); (case side2 => exact HC3.out); rintro e w' ⟨rfl, ⟨nd, rfl⟩⟩; refine ⟨_, rfl, ?_⟩; (try (rw [drewN_self w70]; generalize hq_ : World.drewN w70 _ = w70; have n0_ : Aside0 (w70.heap[gb356]? = some (.cells #[.slice A2_0 l2_0.length c2_0, .slice A2_1 l2_1.length c2_1] 26 (0, 0))) := ⟨by rw [← hq_]; exact (BKz BK356)⟩; have n1_ : Aside0 (Below w.heap.size w w70) := ⟨by rw [← hq_]; exact (HBb GE356)⟩; clear BK356 HB hq_; have BK356 := n0_; have HB := n1_; clear n0_ n1_))))
  have n0_ := Aside0.mk (blk_drew BK356.out)
  have n1_ := Aside0.mk (below_drew1 HB.out)
  clear BK356
  clear HB
  have BK356 := n0_
  have HB := n1_
  clear n0_ n1_
  refine start_ (n := 9) (S := fun w' => w'.cell? ⟨gb356, 0, none⟩ = some (.slice A2_0 l2_0.length c2_0) ∧ w'.cell? ⟨gb356, 1, none⟩ = some (.slice A2_1 l2_1.length c2_1)) (ds := []) (bz 9 0) (by kernel_rfl) rfl (by kernel_rfl) ⟨(blk_cell BK356.out 0).trans rfl, (blk_cell BK356.out 1).trans rfl⟩ (fun hHeld => ?_); refine with_tabW laws_FnExactMayChange.tab13 laws_FnExactMayChange.bits13 (fun HT_ HW_ => ?_)
  generalize w70.drew = w71 at BK356 HB hHeld ⊢
  refine PYz 0 33 (bz 9 1) rfl rfl (any_of HT_.out (by kernel_rfl)) ?_
  refine PYz 2 35 (bz 9 5) rfl rfl (any_of HT_.out (by kernel_rfl)) ?_
  refine PYz 5 38 (bz 9 37) rfl rfl (any_of HT_.out (by kernel_rfl)) ?_
  refine take_ (i := 3) (N := some 36) (v := ?_) (a' := ?_) (bz 9 45) rfl rfl (take_ofW HT_.out HW_.out (by kernel_rfl)) (fun _ _ _ h => h) (Or.inl ⟨by rfl, ?_⟩) hHeld ?_ ?_
  rotate_left
  ·rintro w' ⟨s0, s1⟩
   go_simp
   with_reducible rfl
  rotate_left
  ·simp only [PUz]
   rfl
  refine one_ (i := 1) (N := some 34) (bz 9 47) rfl rfl (one_of HT_.out (by kernel_rfl)) (by decide) (fun K hK => ?_)
  refine goes_ Tryz.func11 (by kernel_rfl) rfl #[.slice A0 l0.length c0] (by rfl) rfl rfl MPz ?_
  with_reducible refine (laws_toRuleS.calls k _ _ l0 t360 _ ?side1 ?side2 A23.out).mono ?_
  (case side1 => exact KCz (Kd.C_below HR0.out HB.out))
  (case side2 => exact HC0.out)
  rintro e w72 ⟨v361, rfl, ho0, hb⟩
  refine ⟨_, rfl, ?_⟩
  have n0_ := Aside0.mk (Kd.S_lower ho0 (below_size (HBb GE356)))
  have n1_ := BBz BK356 hb
  have n2_ := Aside0.mk (below_step (HBb GE356) hb)
  clear BK356
  clear HB
  have HO362 := n0_
  have BK356 := n1_
  have HB := n2_
  clear n0_ n1_ n2_
  (try clear hb)
  (try clear hb2)
  (try clear hk)
  (try clear hi)
  (try clear ho0)
  refine hK.out _ _ ⟨(blk_cell BK356.out 0).trans rfl, (blk_cell BK356.out 1).trans rfl⟩ (fun hHeld => ?_)
  clear hK K
  refine norm_ (a' := ?_) ?_ ?_
  rotate_left
  ·show Act.put _ (some 34) _ = _
   simp only [PUz]
   rfl
  refine one_ (i := 4) (N := some 37) (bz 9 63) rfl rfl (one_of HT_.out (by kernel_rfl)) (by decide) (fun K hK => ?_)
  refine goes_ Tryz.func12 (by kernel_rfl) rfl #[.agg #[.slice A2_0 l2_0.length c2_0, .slice A2_1 l2_1.length c2_1]] (by rfl) rfl rfl MPz ?_
  with_reducible refine (laws_toEntry.calls k _ _ l2_0 _ _ l2_1 t363 t366 _ ?side1 ?side2 ?side3 ?side4 A24.out).mono ?_
  (case side1 => exact KCz (Kd.C_below HR2_0.out HB.out))
  (case side2 => exact HC2_0.out)
  (case side3 => exact KCz (Kd.C_below HR2_1.out HB.out))
  (case side4 => exact HC2_1.out)
  rintro e w73 ⟨v364, v367, rfl, ho0, ho1, hb⟩
  refine ⟨_, rfl, ?_⟩
  have n0_ := Aside0.mk (Kd.S_elder' (KSz HO362) (Kd.R_base ho0) hb)
  have n1_ := Aside0.mk (Kd.R_lower ho0 (below_size (HBb GE356)))
  have n2_ := Aside0.mk (Kd.S_lower ho1 (below_size (HBb GE356)))
  have n3_ := BBz BK356 hb
  have n4_ := Aside0.mk (below_step (HBb GE356) hb)
  clear HO362
  clear BK356
  clear HB
  have HO362 := n0_
  have HO365 := n1_
  have HO368 := n2_
  have BK356 := n3_
  have HB := n4_
  clear n0_ n1_ n2_ n3_ n4_
  (try clear hb)
  (try clear hb2)
  (try clear hk)
  (try clear hi)
  (try clear ho0)
  (try clear ho1)
  refine hK.out _ _ ⟨(blk_cell BK356.out 0).trans rfl, (blk_cell BK356.out 1).trans rfl⟩ (fun hHeld => ?_)
  clear hK K
  refine norm_ (a' := ?_) ?_ ?_
  rotate_left
  ·show Act.put _ (some 37) _ = _
   simp only [PUz]
   rfl
  refine one_ (i := 6) (N := some 39) (bz 9 127) rfl rfl (one_of HT_.out (by kernel_rfl)) (by decide) (fun K hK => ?_)
  refine goes_ Tryz.func13 (by kernel_rfl) rfl #[.slice A3 l3.length c3] (by rfl) rfl rfl MPz ?_
  with_reducible refine (laws_toStringS.calls k _ _ l3 t369 _ ?side1 ?side2 A25.out).mono ?_
  (case side1 => exact KCz (Kd.C_below HR3.out HB.out))
  (case side2 => exact HC3.out)
  rintro e w74 ⟨v370, rfl, ho0, hb⟩
  refine ⟨_, rfl, ?_⟩
  have n0_ := Aside0.mk (Kd.S_elder' (KSz HO362) (Kd.R_base ho0) hb)
  have n1_ := Aside0.mk (Kd.R_below (KRz HO365) hb)
  have n2_ := Aside0.mk (Kd.S_elder' (KSz HO368) (Kd.R_base ho0) hb)
  have n3_ := Aside0.mk (Kd.R_lower ho0 (below_size (HBb GE356)))
  have n4_ := BBz BK356 hb
  have n5_ := Aside0.mk (below_step (HBb GE356) hb)
  clear HO362
  clear HO365
  clear HO368
  clear BK356
  clear HB
  have HO362 := n0_
  have HO365 := n1_
  have HO368 := n2_
  have HO371 := n3_
  have BK356 := n4_
  have HB := n5_
  clear n0_ n1_ n2_ n3_ n4_ n5_
  (try clear hb)
  (try clear hb2)
  (try clear hk)
  (try clear hi)
  (try clear ho0)
  obtain ⟨Ao75, co75, eo75⟩ := Kd.S_slice HO362.out
  (first | subst eo75 | (injection eo75 with f1_ f2_ f3_; have f4_ := f1_.symm; have f5_ := f3_.symm; clear f1_ f2_ f3_; subst f4_; subst f5_))
  obtain ⟨Ao76, co76, eo76⟩ := Kd.R_slice HO365.out
  (first | subst eo76 | (injection eo76 with f1_ f2_ f3_; have f4_ := f1_.symm; have f5_ := f3_.symm; clear f1_ f2_ f3_; subst f4_; subst f5_))
  obtain ⟨Ao77, co77, eo77⟩ := Kd.S_slice HO368.out
  (first | subst eo77 | (injection eo77 with f1_ f2_ f3_; have f4_ := f1_.symm; have f5_ := f3_.symm; clear f1_ f2_ f3_; subst f4_; subst f5_))
  obtain ⟨Ao78, co78, eo78⟩ := Kd.R_slice HO371.out
  (first | subst eo78 | (injection eo78 with f1_ f2_ f3_; have f4_ := f1_.symm; have f5_ := f3_.symm; clear f1_ f2_ f3_; subst f4_; subst f5_))
  refine hK.out _ _ ⟨(blk_cell BK356.out 0).trans rfl, (blk_cell BK356.out 1).trans rfl⟩ (fun hHeld => ?_)
  clear hK K
  refine norm_ (a' := ?_) ?_ ?_
  rotate_left
  ·show Act.put _ (some 39) _ = _
   simp only [PUz]
   rfl
  refine one_ (i := 7) (N := some 40) (bz 9 255) rfl rfl (one_of HT_.out (by kernel_rfl)) (by decide) (fun K hK => ?_)
  refine goes_ Tryz.func10 (by kernel_rfl) rfl #[.slice Ao75 t360.length co75, .string a1, .agg #[.slice Ao76 t363.length co76, .slice Ao77 t366.length co77], .slice Ao78 t369.length co78] (by rfl) rfl rfl MPz ?_
  with_reducible refine (spec_MayChange.calls k _ _ t360 a1 _ _ t363 _ _ t366 _ _ t369 t372 _ ?side1 ?side2 ?side3 ?side4 ?side5 ?side6 ?side7 ?side8 A26.out).mono ?_
  (case side1 => repeat (first | exact (Kd.S_reads' HO362.out).2.2 | (with_reducible refine Kd.C_alloc ?_ _) | (with_reducible refine Kd.C_drewN ?_ _) | (with_reducible refine Kd.C_drew ?_)))
  (case side2 => exact (Kd.S_reads' HO362.out).2.1)
  (case side3 => repeat (first | exact (Kd.R_reads' HO365.out).2.2 | (with_reducible refine Kd.C_alloc ?_ _) | (with_reducible refine Kd.C_drewN ?_ _) | (with_reducible refine Kd.C_drew ?_)))
  (case side4 => exact (Kd.R_reads' HO365.out).2.1)
  (case side5 => repeat (first | exact (Kd.S_reads' HO368.out).2.2 | (with_reducible refine Kd.C_alloc ?_ _) | (with_reducible refine Kd.C_drewN ?_ _) | (with_reducible refine Kd.C_drew ?_)))
  (case side6 => exact (Kd.S_reads' HO368.out).2.1)
  (case side7 => repeat (first | exact (Kd.R_reads' HO371.out).2.2 | (with_reducible refine Kd.C_alloc ?_ _) | (with_reducible refine Kd.C_drewN ?_ _) | (with_reducible refine Kd.C_drew ?_)))
  (case side8 => exact (Kd.R_reads' HO371.out).2.1)
  rintro e w79 ⟨rfl, hb⟩
  refine ⟨_, rfl, ?_⟩
  have n0_ := Aside0.mk (Kd.S_below (KSz HO362) hb)
  have n1_ := Aside0.mk (Kd.R_below (KRz HO365) hb)
  have n2_ := Aside0.mk (Kd.S_below (KSz HO368) hb)
  have n3_ := Aside0.mk (Kd.R_below (KRz HO371) hb)
  have n4_ := BBz BK356 hb
  have n5_ := Aside0.mk (below_step (HBb GE356) hb)
  clear HO362
  clear HO365
  clear HO368
  clear HO371
  clear BK356
  clear HB
  have HO362 := n0_
  have HO365 := n1_
  have HO368 := n2_
  have HO371 := n3_
  have BK356 := n4_
  have HB := n5_
  clear n0_ n1_ n2_ n3_ n4_ n5_
  (try clear hb)
  (try clear hb2)
  (try clear hk)
  (try clear hi)
  refine hK.out _ _ ⟨(blk_cell BK356.out 0).trans rfl, (blk_cell BK356.out 1).trans rfl⟩ (fun hHeld => ?_)
  clear hK K
  refine norm_ (a' := ?_) ?_ ?_
  rotate_left
  ·show Act.put _ (some 40) _ = _
   simp only [PUz]
   rfl
  refine PYz 8 10 (bz 9 511) rfl rfl (any_of HT_.out (by kernel_rfl)) ?_
  refine done_ (done_of HT_.out (by kernel_rfl)) ?_
  try go_wp2_with (first | ((with_reducible refine gate_callee (f := 11) rfl ?_); refine goesL_ (some 42) rfl rfl Tryz.func11 (by kernel_rfl) rfl #[.slice A0 l0.length c0] rfl MPz ?_; (with_reducible refine (laws_toRuleS.calls k _ _ l0 t373 _ ?side1 ?side2 A27.out).mono ?_); (case side1 => exact KCz (Kd.C_below HR0.out HB.out)); (case side2 => exact HC0.out); rintro e w80 ⟨v374, rfl, ho0, hb⟩; refine ⟨_, rfl, ?_⟩; have n0_ := Aside0.mk (Kd.S_elder' (KSz HO362) (Kd.S_base ho0) hb); have n1_ := Aside0.mk (Kd.R_below (KRz HO365) hb); have n2_ := Aside0.mk (Kd.S_below (KSz HO368) hb); have n3_ := Aside0.mk (Kd.R_below (KRz HO371) hb); have n4_ := Aside0.mk (Kd.S_lower (Kd.S_new' (Kd.S_new' (Kd.S_new' ho0 (Kd.S_lt (KSz HO362))) (Kd.R_lt (KRz HO365))) (Kd.R_lt (KRz HO371))) (below_size (HBb GE356))); have n5_ := BBz BK356 hb; have n6_ := Aside0.mk (below_step (HBb GE356) hb); clear HO362; clear HO365; clear HO368; clear HO371; clear BK356; clear HB; have HO362 := n0_; have HO365 := n1_; have HO368 := n2_; have HO371 := n3_; have HO375 := n4_; have BK356 := n5_; have HB := n6_; clear n0_ n1_ n2_ n3_ n4_ n5_ n6_; (try clear hb); (try clear hb2); (try clear hk); (try clear hi); (try clear ho0); have hcz81_0 := C1z BK356; have hcz81_1 := C2z BK356; have hfz81_0 := blk_frozen BK356.out 0; have hfz81_1 := blk_frozen BK356.out 1) | ((with_reducible refine gate_callee (f := 12) rfl ?_); refine goesL_ (some 44) rfl rfl Tryz.func12 (by kernel_rfl) rfl #[.agg #[.slice A2_0 l2_0.length c2_0, .slice A2_1 l2_1.length c2_1]] rfl MPz ?_; (with_reducible refine (laws_toEntry.calls k _ _ l2_0 _ _ l2_1 t376 t379 _ ?side1 ?side2 ?side3 ?side4 A28.out).mono ?_); (case side1 => exact KCz (Kd.C_below HR2_0.out HB.out)); (case side2 => exact HC2_0.out); (case side3 => exact KCz (Kd.C_below HR2_1.out HB.out)); (case side4 => exact HC2_1.out); rintro e w82 ⟨v377, v380, rfl, ho0, ho1, hb⟩; refine ⟨_, rfl, ?_⟩; have n0_ := Aside0.mk (Kd.S_elder' (KSz HO362) (Kd.R_base ho0) hb); have n1_ := Aside0.mk (Kd.R_elder' (KRz HO365) (Kd.R_base ho0) hb); have n2_ := Aside0.mk (Kd.S_elder' (KSz HO368) (Kd.S_base ho1) hb); have n3_ := Aside0.mk (Kd.R_below (KRz HO371) hb); have n4_ := Aside0.mk (Kd.S_elder' (KSz HO375) (Kd.R_base ho0) hb); have n5_ := Aside0.mk (Kd.R_lower (Kd.R_new' ho0 (Kd.R_lt (KRz HO365))) (below_size (HBb GE356))); have n6_ := Aside0.mk (Kd.S_lower (Kd.S_new' (Kd.S_new' ho1 (Kd.S_lt (KSz HO368))) (Kd.R_lt (KRz HO371))) (below_size (HBb GE356))); have n7_ := BBz BK356 hb; have n8_ := Aside0.mk (below_step (HBb GE356) hb); clear HO362; clear HO365; clear HO368; clear HO371; clear HO375; clear BK356; clear HB; have HO362 := n0_; have HO365 := n1_; have HO368 := n2_; have HO371 := n3_; have HO375 := n4_; have HO378 := n5_; have HO381 := n6_; have BK356 := n7_; have HB := n8_; clear n0_ n1_ n2_ n3_ n4_ n5_ n6_ n7_ n8_; (try clear hb); (try clear hb2); (try clear hk); (try clear hi); (try clear ho0); (try clear ho1)) | ((with_reducible refine gate_dst (N := 12) rfl ?_); refine box_event ?hg (N := 12) ?hd (cs := #[.slice none 0 0, .slice none 0 0]) (t := 37) ?hr ?_; (case hd => rfl); (case hg => rfl); (case hr => first | (go_simp; done) | (go_simp; rfl)); intro gb382 hg w83 hbox hb; have n0_ := Aside0.mk (Kd.S_below (KSz HO362) hb); have n1_ := Aside0.mk (Kd.R_below (KRz HO365) hb); have n2_ := Aside0.mk (Kd.S_below (KSz HO368) hb); have n3_ := Aside0.mk (Kd.R_below (KRz HO371) hb); have n4_ := Aside0.mk (Kd.S_below (KSz HO375) hb); have n5_ := Aside0.mk (Kd.R_below (KRz HO378) hb); have n6_ := Aside0.mk (Kd.S_below (KSz HO381) hb); have n7_ := BBz BK356 hb; have n8_ := Aside0.mk (below_step (HBb GE356) hb); have n9_ := Aside0.mk (hbox); have n10_ := BSz w hg (HBb GE356); have n11_ := BSz w hg (HBb GE356); have n12_ := BNz BK356 hg; have n13_ := BMz BK356 hg; clear HO362; clear HO365; clear HO368; clear HO371; clear HO375; clear HO378; clear HO381; clear BK356; clear HB; have HO362 := n0_; have HO365 := n1_; have HO368 := n2_; have HO371 := n3_; have HO375 := n4_; have HO378 := n5_; have HO381 := n6_; have BK356 := n7_; have HB := n8_; have BK382 := n9_; have GW382 := n10_; have GE382 := n11_; have NB356_382 := n12_; have NB382_356 := n13_; clear n0_ n1_ n2_ n3_ n4_ n5_ n6_ n7_ n8_ n9_ n10_ n11_ n12_ n13_; clear hb hbox hg; obtain ⟨Ao84, co84, eo84⟩ := Kd.R_slice HO378.out; subst eo84; have hnb85 := NB382_356.out; have hnc85 := NB356_382.out; have hcz86_0 := C1z BK382; have hcz86_1 := C2z BK382; have hfz86_0 := blk_frozen BK382.out 0; have hfz86_1 := blk_frozen BK382.out 1; obtain ⟨Ao87, co87, eo87⟩ := Kd.S_slice HO381.out; subst eo87) | ((with_reducible refine gate_callee (f := 13) rfl ?_); refine goesL_ (some 46) rfl rfl Tryz.func13 (by kernel_rfl) rfl #[.slice A3 l3.length c3] rfl MPz ?_; (with_reducible refine (laws_toStringS.calls k _ _ l3 t383 _ ?side1 ?side2 A29.out).mono ?_); (case side1 => exact Kd.C_below HR3.out (HBc GE356 GE382)); (case side2 => exact HC3.out); rintro e w88 ⟨v384, rfl, ho0, hb⟩; refine ⟨_, rfl, ?_⟩; have n0_ := Aside0.mk (Kd.S_elder' (by (with_reducible repeat (first | apply Kd.S_alloc | apply Kd.S_drewN | apply Kd.S_drew)); exact (Kd.S_mono (Kd.S_far (p := ⟨gb382, 1, none⟩) (Kd.S_far (p := ⟨gb382, 0, none⟩) (Kd.S_types HO362.out BK382.out (by decide)) (fun _ hk => hk.2) (.slice Ao84 t376.length co84)) (fun _ hk => hk.2) (.slice Ao87 t379.length co87)) (fun _ h_ => h_.1))) (Kd.R_base ho0) hb); have n1_ := Aside0.mk (Kd.R_below (by (with_reducible repeat (first | apply Kd.R_alloc | apply Kd.R_drewN | apply Kd.R_drew)); exact (Kd.R_mono (Kd.R_far (p := ⟨gb382, 1, none⟩) (Kd.R_far (p := ⟨gb382, 0, none⟩) (Kd.R_types HO365.out BK382.out (by decide)) (fun _ hk => hk.2) (.slice Ao84 t376.length co84)) (fun _ hk => hk.2) (.slice Ao87 t379.length co87)) (fun _ h_ => h_.1))) hb); have n2_ := Aside0.mk (Kd.S_elder' (by (with_reducible repeat (first | apply Kd.S_alloc | apply Kd.S_drewN | apply Kd.S_drew)); exact (Kd.S_mono (Kd.S_far (p := ⟨gb382, 1, none⟩) (Kd.S_far (p := ⟨gb382, 0, none⟩) (Kd.S_types HO368.out BK382.out (by decide)) (fun _ hk => hk.2) (.slice Ao84 t376.length co84)) (fun _ hk => hk.2) (.slice Ao87 t379.length co87)) (fun _ h_ => h_.1))) (Kd.R_base ho0) hb); have n3_ := Aside0.mk (Kd.R_elder' (by (with_reducible repeat (first | apply Kd.R_alloc | apply Kd.R_drewN | apply Kd.R_drew)); exact (Kd.R_mono (Kd.R_far (p := ⟨gb382, 1, none⟩) (Kd.R_far (p := ⟨gb382, 0, none⟩) (Kd.R_types HO371.out BK382.out (by decide)) (fun _ hk => hk.2) (.slice Ao84 t376.length co84)) (fun _ hk => hk.2) (.slice Ao87 t379.length co87)) (fun _ h_ => h_.1))) (Kd.R_base ho0) hb); have n4_ := Aside0.mk (Kd.S_elder' (by (with_reducible repeat (first | apply Kd.S_alloc | apply Kd.S_drewN | apply Kd.S_drew)); exact (Kd.S_mono (Kd.S_far (p := ⟨gb382, 1, none⟩) (Kd.S_far (p := ⟨gb382, 0, none⟩) (Kd.S_types HO375.out BK382.out (by decide)) (fun _ hk => hk.2) (.slice Ao84 t376.length co84)) (fun _ hk => hk.2) (.slice Ao87 t379.length co87)) (fun _ h_ => h_.1))) (Kd.R_base ho0) hb); have n5_ := Aside0.mk (Kd.R_below (by (with_reducible repeat (first | apply Kd.R_alloc | apply Kd.R_drewN | apply Kd.R_drew)); exact (Kd.R_mono (Kd.R_far (p := ⟨gb382, 1, none⟩) (Kd.R_far (p := ⟨gb382, 0, none⟩) (Kd.R_types HO378.out BK382.out (by decide)) (fun _ hk => hk.2) (.slice Ao84 t376.length co84)) (fun _ hk => hk.2) (.slice Ao87 t379.length co87)) (fun _ h_ => h_.1))) hb); have n6_ := Aside0.mk (Kd.S_elder' (by (with_reducible repeat (first | apply Kd.S_alloc | apply Kd.S_drewN | apply Kd.S_drew)); exact (Kd.S_mono (Kd.S_far (p := ⟨gb382, 1, none⟩) (Kd.S_far (p := ⟨gb382, 0, none⟩) (Kd.S_types HO381.out BK382.out (by decide)) (fun _ hk => hk.2) (.slice Ao84 t376.length co84)) (fun _ hk => hk.2) (.slice Ao87 t379.length co87)) (fun _ h_ => h_.1))) (Kd.R_base ho0) hb); have n7_ := Aside0.mk (Kd.R_lower (Kd.R_new' ho0 (Kd.R_lt (by (with_reducible repeat (first | apply Kd.R_alloc | apply Kd.R_drewN | apply Kd.R_drew)); exact (Kd.R_mono (Kd.R_far (p := ⟨gb382, 1, none⟩) (Kd.R_far (p := ⟨gb382, 0, none⟩) (Kd.R_types HO371.out BK382.out (by decide)) (fun _ hk => hk.2) (.slice Ao84 t376.length co84)) (fun _ hk => hk.2) (.slice Ao87 t379.length co87)) (fun _ h_ => h_.1))))) (below_size (HBc GE356 GE382))); have n8_ := Aside0.mk (blk_below (g := gb356) (o := .cells #[.slice A2_0 l2_0.length c2_0, .slice A2_1 l2_1.length c2_1] 26 (0, 0)) (by (with_reducible repeat (first | refine blk_drewN ?_ _ | refine blk_drew ?_ | refine blk_alloc ?_ _)); refine blk_far ?_ NB356_382.out _; (with_reducible repeat (first | refine blk_drewN ?_ _ | refine blk_drew ?_ | refine blk_alloc ?_ _)); refine blk_far ?_ NB356_382.out _; (with_reducible repeat (first | refine blk_drewN ?_ _ | refine blk_drew ?_ | refine blk_alloc ?_ _)); exact BK356.out) hb); have n9_ := Aside0.mk (blk_below (g := gb382) (o := .cells #[.slice Ao84 t376.length co84, .slice Ao87 t379.length co87] 37 (0, 0)) (by (with_reducible repeat (first | refine blk_drewN ?_ _ | refine blk_drew ?_ | refine blk_alloc ?_ _)); refine blk_put (cs := #[.slice Ao84 t376.length co84, .slice none 0 0]) ?_ 1 _ rfl; (with_reducible repeat (first | refine blk_drewN ?_ _ | refine blk_drew ?_ | refine blk_alloc ?_ _)); refine blk_put (cs := #[.slice none 0 0, .slice none 0 0]) ?_ 0 _ rfl; (with_reducible repeat (first | refine blk_drewN ?_ _ | refine blk_drew ?_ | refine blk_alloc ?_ _)); exact BK382.out) hb); have n10_ := Aside0.mk (below_step (HBc GE356 GE382) hb); clear HO362; clear HO365; clear HO368; clear HO371; clear HO375; clear HO378; clear HO381; clear BK356; clear BK382; clear HB; have HO362 := n0_; have HO365 := n1_; have HO368 := n2_; have HO371 := n3_; have HO375 := n4_; have HO378 := n5_; have HO381 := n6_; have HO385 := n7_; have BK356 := n8_; have BK382 := n9_; have HB := n10_; clear n0_ n1_ n2_ n3_ n4_ n5_ n6_ n7_ n8_ n9_ n10_; (try clear hb); (try clear hb2); (try clear hk); (try clear hi); (try clear ho0); have hcz89_0 := C1z BK382; have hcz89_1 := C2z BK382; have hfz89_0 := blk_frozen BK382.out 0; have hfz89_1 := blk_frozen BK382.out 1; obtain ⟨Ao90, co90, eo90⟩ := Kd.S_slice HO375.out; subst eo90; obtain ⟨Ao91, co91, eo91⟩ := Kd.R_slice HO385.out; subst eo91) | ((with_reducible refine gate_callee (f := 14) rfl ?_); refine goesL_ (some 51) rfl rfl Tryz.func14 (by kernel_rfl) rfl #[.slice Ao90 t373.length co90, .string a1, .agg #[.slice Ao84 t376.length co84, .slice Ao87 t379.length co87], .slice Ao91 t383.length co91] rfl MPz ?_; (with_reducible refine (impl_MayChange.calls k _ _ t373 a1 _ _ t376 _ _ t379 _ _ t383 t386 _ ?side1 ?side2 ?side3 ?side4 ?side5 ?side6 ?side7 ?side8 A30.out).mono ?_); (case side1 => repeat (first | exact (Kd.S_reads' HO375.out).2.2 | (with_reducible refine Kd.C_alloc ?_ _) | (with_reducible refine Kd.C_drewN ?_ _) | (with_reducible refine Kd.C_drew ?_))); (case side2 => exact (Kd.S_reads' HO375.out).2.1); (case side3 => repeat (first | exact (Kd.R_reads' HO378.out).2.2 | (with_reducible refine Kd.C_alloc ?_ _) | (with_reducible refine Kd.C_drewN ?_ _) | (with_reducible refine Kd.C_drew ?_))); (case side4 => exact (Kd.R_reads' HO378.out).2.1); (case side5 => repeat (first | exact (Kd.S_reads' HO381.out).2.2 | (with_reducible refine Kd.C_alloc ?_ _) | (with_reducible refine Kd.C_drewN ?_ _) | (with_reducible refine Kd.C_drew ?_))); (case side6 => exact (Kd.S_reads' HO381.out).2.1); (case side7 => repeat (first | exact (Kd.R_reads' HO385.out).2.2 | (with_reducible refine Kd.C_alloc ?_ _) | (with_reducible refine Kd.C_drewN ?_ _) | (with_reducible refine Kd.C_drew ?_))); (case side8 => exact (Kd.R_reads' HO385.out).2.1); rintro e w92 ⟨rfl, hb⟩; refine ⟨_, rfl, ?_⟩; have n0_ := Aside0.mk (Kd.S_below (KSz HO362) hb); have n1_ := Aside0.mk (Kd.R_below (KRz HO365) hb); have n2_ := Aside0.mk (Kd.S_below (KSz HO368) hb); have n3_ := Aside0.mk (Kd.R_below (KRz HO371) hb); have n4_ := Aside0.mk (Kd.S_below (KSz HO375) hb); have n5_ := Aside0.mk (Kd.R_below (KRz HO378) hb); have n6_ := Aside0.mk (Kd.S_below (KSz HO381) hb); have n7_ := Aside0.mk (Kd.R_below (KRz HO385) hb); have n8_ := BBz BK356 hb; have n9_ := BBz BK382 hb; have n10_ := Aside0.mk (below_step (HBc GE356 GE382) hb); clear HO362; clear HO365; clear HO368; clear HO371; clear HO375; clear HO378; clear HO381; clear HO385; clear BK356; clear BK382; clear HB; have HO362 := n0_; have HO365 := n1_; have HO368 := n2_; have HO371 := n3_; have HO375 := n4_; have HO378 := n5_; have HO381 := n6_; have HO385 := n7_; have BK356 := n8_; have BK382 := n9_; have HB := n10_; clear n0_ n1_ n2_ n3_ n4_ n5_ n6_ n7_ n8_ n9_ n10_; (try clear hb); (try clear hb2); (try clear hk); (try clear hi)) | ((with_reducible refine gate_callee (f := 11) rfl ?_); refine goesL_ (some 57) rfl rfl Tryz.func11 (by kernel_rfl) rfl #[.slice A0 l0.length c0] rfl MPz ?_; (with_reducible refine (laws_toRuleS.calls k _ _ l0 t387 _ ?side1 ?side2 A58.out).mono ?_); (case side1 => exact KCz (Kd.C_below HR0.out HB.out)); (case side2 => exact HC0.out); rintro e w93 ⟨v388, rfl, ho0, hb⟩; refine ⟨_, rfl, ?_⟩; have n0_ := Aside0.mk (Kd.S_elder' (KSz HO362) (Kd.S_base ho0) hb); have n1_ := Aside0.mk (Kd.R_below (KRz HO365) hb); have n2_ := Aside0.mk (Kd.S_below (KSz HO368) hb); have n3_ := Aside0.mk (Kd.R_below (KRz HO371) hb); have n4_ := Aside0.mk (Kd.S_elder' (KSz HO375) (Kd.S_base ho0) hb); have n5_ := Aside0.mk (Kd.R_below (KRz HO378) hb); have n6_ := Aside0.mk (Kd.S_below (KSz HO381) hb); have n7_ := Aside0.mk (Kd.R_below (KRz HO385) hb); have n8_ := Aside0.mk (Kd.S_lower (Kd.S_new' (Kd.S_new' (Kd.S_new' (Kd.S_new' (Kd.S_new' (Kd.S_new' ho0 (Kd.S_lt (KSz HO362))) (Kd.R_lt (KRz HO365))) (Kd.R_lt (KRz HO371))) (Kd.S_lt (KSz HO375))) (Kd.R_lt (KRz HO378))) (Kd.R_lt (KRz HO385))) (below_size (HBc GE356 GE382))); have n9_ := BBz BK356 hb; have n10_ := BBz BK382 hb; have n11_ := Aside0.mk (below_step (HBc GE356 GE382) hb); clear HO362; clear HO365; clear HO368; clear HO371; clear HO375; clear HO378; clear HO381; clear HO385; clear BK356; clear BK382; clear HB; have HO362 := n0_; have HO365 := n1_; have HO368 := n2_; have HO371 := n3_; have HO375 := n4_; have HO378 := n5_; have HO381 := n6_; have HO385 := n7_; have HO389 := n8_; have BK356 := n9_; have BK382 := n10_; have HB := n11_; clear n0_ n1_ n2_ n3_ n4_ n5_ n6_ n7_ n8_ n9_ n10_ n11_; (try clear hb); (try clear hb2); (try clear hk); (try clear hi); (try clear ho0); obtain ⟨Ao94, co94, eo94⟩ := Kd.S_slice HO389.out; subst eo94) | ((with_reducible refine gate_callee (f := 15) rfl ?_); refine goesL_ (some 58) rfl rfl Tryz.func15 (by kernel_rfl) rfl #[.slice Ao90 t373.length co90, .slice Ao94 t387.length co94] rfl MPz ?_; (with_reducible refine (laws_eqRuleS.calls k _ _ t373 _ _ t387 true _ ?side1 ?side2 ?side3 ?side4 A59.out).mono ?_); (case side1 => repeat (first | exact (Kd.S_reads' HO375.out).2.2 | (with_reducible refine Kd.C_alloc ?_ _) | (with_reducible refine Kd.C_drewN ?_ _) | (with_reducible refine Kd.C_drew ?_))); (case side2 => exact (Kd.S_reads' HO375.out).2.1); (case side3 => repeat (first | exact (Kd.S_reads' HO389.out).2.2 | (with_reducible refine Kd.C_alloc ?_ _) | (with_reducible refine Kd.C_drewN ?_ _) | (with_reducible refine Kd.C_drew ?_))); (case side4 => exact (Kd.S_reads' HO389.out).2.1); rintro e w95 ⟨rfl, hb⟩; refine ⟨_, rfl, ?_⟩; have n0_ := Aside0.mk (Kd.S_below (KSz HO362) hb); have n1_ := Aside0.mk (Kd.R_below (KRz HO365) hb); have n2_ := Aside0.mk (Kd.S_below (KSz HO368) hb); have n3_ := Aside0.mk (Kd.R_below (KRz HO371) hb); have n4_ := Aside0.mk (Kd.S_below (KSz HO375) hb); have n5_ := Aside0.mk (Kd.R_below (KRz HO378) hb); have n6_ := Aside0.mk (Kd.S_below (KSz HO381) hb); have n7_ := Aside0.mk (Kd.R_below (KRz HO385) hb); have n8_ := Aside0.mk (Kd.S_below (KSz HO389) hb); have n9_ := BBz BK356 hb; have n10_ := BBz BK382 hb; have n11_ := Aside0.mk (below_step (HBc GE356 GE382) hb); clear HO362; clear HO365; clear HO368; clear HO371; clear HO375; clear HO378; clear HO381; clear HO385; clear HO389; clear BK356; clear BK382; clear HB; have HO362 := n0_; have HO365 := n1_; have HO368 := n2_; have HO371 := n3_; have HO375 := n4_; have HO378 := n5_; have HO381 := n6_; have HO385 := n7_; have HO389 := n8_; have BK356 := n9_; have BK382 := n10_; have HB := n11_; clear n0_ n1_ n2_ n3_ n4_ n5_ n6_ n7_ n8_ n9_ n10_ n11_; (try clear hb); (try clear hb2); (try clear hk); (try clear hi)))
  have n0_ := Aside0.mk (Kd.S_drew HO362.out)
  have n1_ := Aside0.mk (Kd.R_drew HO365.out)
  have n2_ := Aside0.mk (Kd.S_drew HO368.out)
  have n3_ := Aside0.mk (Kd.R_drew HO371.out)
  have n4_ := Aside0.mk (Kd.S_drew HO375.out)
  have n5_ := Aside0.mk (Kd.R_drew HO378.out)
  have n6_ := Aside0.mk (Kd.S_drew HO381.out)
  have n7_ := Aside0.mk (Kd.R_drew HO385.out)
  have n8_ := Aside0.mk (Kd.S_drew HO389.out)
  have n9_ := Aside0.mk (blk_drew BK356.out)
  have n10_ := Aside0.mk (blk_drew BK382.out)
  have n11_ := Aside0.mk (below_drew1 HB.out)
  clear HO362
  clear HO365
  clear HO368
  clear HO371
  clear HO375
  clear HO378
  clear HO381
  clear HO385
  clear HO389
  clear BK356
  clear BK382
  clear HB
  have HO362 := n0_
  have HO365 := n1_
  have HO368 := n2_
  have HO371 := n3_
  have HO375 := n4_
  have HO378 := n5_
  have HO381 := n6_
  have HO385 := n7_
  have HO389 := n8_
  have BK356 := n9_
  have BK382 := n10_
  have HB := n11_
  clear n0_ n1_ n2_ n3_ n4_ n5_ n6_ n7_ n8_ n9_ n10_ n11_
  refine start_ (n := 5) (S := fun w' => w'.cell? ⟨gb382, 0, none⟩ = some (.slice Ao84 t376.length co84) ∧ w'.cell? ⟨gb382, 1, none⟩ = some (.slice Ao87 t379.length co87) ∧ w'.cell? ⟨gb356, 0, none⟩ = some (.slice A2_0 l2_0.length c2_0) ∧ w'.cell? ⟨gb356, 1, none⟩ = some (.slice A2_1 l2_1.length c2_1)) (ds := []) (bz 5 0) (by kernel_rfl) rfl (by kernel_rfl) ⟨(blk_cell BK382.out 0).trans rfl, (blk_cell BK382.out 1).trans rfl, (blk_cell BK356.out 0).trans rfl, (blk_cell BK356.out 1).trans rfl⟩ (fun hHeld => ?_)
  generalize w95.drew = w96 at HO362 HO365 HO368 HO371 HO375 HO378 HO381 HO385 HO389 BK356 BK382 HB hHeld ⊢
  refine take_ (i := 0) (N := some 60) (v := ?_) (a' := ?_) (bz 5 1) rfl rfl (by kernel_rfl) (fun _ _ _ h => h) (Or.inl ⟨by rfl, ?_⟩) hHeld ?_ ?_
  rotate_left
  ·rintro w' ⟨s0, s1, s2, s3⟩
   go_simp
   with_reducible rfl
  rotate_left
  ·simp only [PUz]
   rfl
  refine take_ (i := 1) (N := some 61) (v := ?_) (a' := ?_) (bz 5 3) rfl rfl (by kernel_rfl) (fun _ _ _ h => h) (Or.inl ⟨by rfl, ?_⟩) hHeld ?_ ?_
  rotate_left
  ·rintro w' ⟨s0, s1, s2, s3⟩
   go_simp
   with_reducible rfl
  rotate_left
  ·simp only [PUz]
   rfl
  refine one_ (i := 2) (N := some 62) (bz 5 7) rfl rfl (by kernel_rfl) (by decide) (fun K hK => ?_)
  refine goes_ Tryz.func12 (by kernel_rfl) rfl #[.agg #[.slice A2_0 l2_0.length c2_0, .slice A2_1 l2_1.length c2_1]] (by rfl) rfl rfl MPz ?_
  with_reducible refine (laws_toEntry.calls k _ _ l2_0 _ _ l2_1 t391 t394 _ ?side1 ?side2 ?side3 ?side4 A61.out).mono ?_
  (case side1 => exact KCz (Kd.C_below HR2_0.out HB.out))
  (case side2 => exact HC2_0.out)
  (case side3 => exact KCz (Kd.C_below HR2_1.out HB.out))
  (case side4 => exact HC2_1.out)
  rintro e w97 ⟨v392, v395, rfl, ho0, ho1, hb⟩
  refine ⟨_, rfl, ?_⟩
  have n0_ := Aside0.mk (Kd.S_elder' (KSz HO362) (Kd.R_base ho0) hb)
  have n1_ := Aside0.mk (Kd.R_elder' (KRz HO365) (Kd.R_base ho0) hb)
  have n2_ := Aside0.mk (Kd.S_elder' (KSz HO368) (Kd.S_base ho1) hb)
  have n3_ := Aside0.mk (Kd.R_below (KRz HO371) hb)
  have n4_ := Aside0.mk (Kd.S_elder' (KSz HO375) (Kd.R_base ho0) hb)
  have n5_ := Aside0.mk (Kd.R_elder' (KRz HO378) (Kd.R_base ho0) hb)
  have n6_ := Aside0.mk (Kd.S_elder' (KSz HO381) (Kd.S_base ho1) hb)
  have n7_ := Aside0.mk (Kd.R_below (KRz HO385) hb)
  have n8_ := Aside0.mk (Kd.S_elder' (KSz HO389) (Kd.R_base ho0) hb)
  have n9_ := Aside0.mk (Kd.R_lower (Kd.R_new' (Kd.R_new' ho0 (Kd.R_lt (KRz HO365))) (Kd.R_lt (KRz HO378))) (below_size (HBc GE356 GE382)))
  have n10_ := Aside0.mk (Kd.S_lower (Kd.S_new' (Kd.S_new' (Kd.S_new' (Kd.S_new' ho1 (Kd.S_lt (KSz HO368))) (Kd.R_lt (KRz HO371))) (Kd.S_lt (KSz HO381))) (Kd.R_lt (KRz HO385))) (below_size (HBc GE356 GE382)))
  have n11_ := BBz BK356 hb
  have n12_ := BBz BK382 hb
  have n13_ := Aside0.mk (below_step (HBc GE356 GE382) hb)
  clear HO362
  clear HO365
  clear HO368
  clear HO371
  clear HO375
  clear HO378
  clear HO381
  clear HO385
  clear HO389
  clear BK356
  clear BK382
  clear HB
  have HO362 := n0_
  have HO365 := n1_
  have HO368 := n2_
  have HO371 := n3_
  have HO375 := n4_
  have HO378 := n5_
  have HO381 := n6_
  have HO385 := n7_
  have HO389 := n8_
  have HO393 := n9_
  have HO396 := n10_
  have BK356 := n11_
  have BK382 := n12_
  have HB := n13_
  clear n0_ n1_ n2_ n3_ n4_ n5_ n6_ n7_ n8_ n9_ n10_ n11_ n12_ n13_
  (try clear hb)
  (try clear hb2)
  (try clear hk)
  (try clear hi)
  (try clear ho0)
  (try clear ho1)
  obtain ⟨Ao98, co98, eo98⟩ := Kd.R_slice HO393.out
  (first | subst eo98 | (injection eo98 with f1_ f2_ f3_; have f4_ := f1_.symm; have f5_ := f3_.symm; clear f1_ f2_ f3_; subst f4_; subst f5_))
  obtain ⟨Ao99, co99, eo99⟩ := Kd.S_slice HO396.out
  (first | subst eo99 | (injection eo99 with f1_ f2_ f3_; have f4_ := f1_.symm; have f5_ := f3_.symm; clear f1_ f2_ f3_; subst f4_; subst f5_))
  refine hK.out _ _ ⟨(blk_cell BK382.out 0).trans rfl, (blk_cell BK382.out 1).trans rfl, (blk_cell BK356.out 0).trans rfl, (blk_cell BK356.out 1).trans rfl⟩ (fun hHeld => ?_)
  clear hK K
  refine norm_ (a' := ?_) ?_ ?_
  rotate_left
  ·show Act.put _ (some 62) _ = _
   simp only [PUz]
   rfl
  refine one_ (i := 3) (N := some 63) (bz 5 15) rfl rfl (by kernel_rfl) (by decide) (fun K hK => ?_)
  refine goes_ Tryz.func16 (by kernel_rfl) rfl #[.agg #[.slice Ao84 t376.length co84, .slice Ao87 t379.length co87], .agg #[.slice Ao98 t391.length co98, .slice Ao99 t394.length co99]] (by rfl) rfl rfl MPz ?_
  with_reducible refine (laws_eqEntry.calls k _ _ t376 _ _ t379 _ _ t391 _ _ t394 true _ ?side1 ?side2 ?side3 ?side4 ?side5 ?side6 ?side7 ?side8 A62.out).mono ?_
  (case side1 => repeat (first | exact (Kd.R_reads' HO378.out).2.2 | (with_reducible refine Kd.C_alloc ?_ _) | (with_reducible refine Kd.C_drewN ?_ _) | (with_reducible refine Kd.C_drew ?_)))
  (case side2 => exact (Kd.R_reads' HO378.out).2.1)
  (case side3 => repeat (first | exact (Kd.S_reads' HO381.out).2.2 | (with_reducible refine Kd.C_alloc ?_ _) | (with_reducible refine Kd.C_drewN ?_ _) | (with_reducible refine Kd.C_drew ?_)))
  (case side4 => exact (Kd.S_reads' HO381.out).2.1)
  (case side5 => repeat (first | exact (Kd.R_reads' HO393.out).2.2 | (with_reducible refine Kd.C_alloc ?_ _) | (with_reducible refine Kd.C_drewN ?_ _) | (with_reducible refine Kd.C_drew ?_)))
  (case side6 => exact (Kd.R_reads' HO393.out).2.1)
  (case side7 => repeat (first | exact (Kd.S_reads' HO396.out).2.2 | (with_reducible refine Kd.C_alloc ?_ _) | (with_reducible refine Kd.C_drewN ?_ _) | (with_reducible refine Kd.C_drew ?_)))
  (case side8 => exact (Kd.S_reads' HO396.out).2.1)
  rintro e w100 ⟨rfl, hb⟩
  refine ⟨_, rfl, ?_⟩
  have n0_ := Aside0.mk (Kd.S_below (KSz HO362) hb)
  have n1_ := Aside0.mk (Kd.R_below (KRz HO365) hb)
  have n2_ := Aside0.mk (Kd.S_below (KSz HO368) hb)
  have n3_ := Aside0.mk (Kd.R_below (KRz HO371) hb)
  have n4_ := Aside0.mk (Kd.S_below (KSz HO375) hb)
  have n5_ := Aside0.mk (Kd.R_below (KRz HO378) hb)
  have n6_ := Aside0.mk (Kd.S_below (KSz HO381) hb)
  have n7_ := Aside0.mk (Kd.R_below (KRz HO385) hb)
  have n8_ := Aside0.mk (Kd.S_below (KSz HO389) hb)
  have n9_ := Aside0.mk (Kd.R_below (KRz HO393) hb)
  have n10_ := Aside0.mk (Kd.S_below (KSz HO396) hb)
  have n11_ := BBz BK356 hb
  have n12_ := BBz BK382 hb
  have n13_ := Aside0.mk (below_step (HBc GE356 GE382) hb)
  clear HO362
  clear HO365
  clear HO368
  clear HO371
  clear HO375
  clear HO378
  clear HO381
  clear HO385
  clear HO389
  clear HO393
  clear HO396
  clear BK356
  clear BK382
  clear HB
  have HO362 := n0_
  have HO365 := n1_
  have HO368 := n2_
  have HO371 := n3_
  have HO375 := n4_
  have HO378 := n5_
  have HO381 := n6_
  have HO385 := n7_
  have HO389 := n8_
  have HO393 := n9_
  have HO396 := n10_
  have BK356 := n11_
  have BK382 := n12_
  have HB := n13_
  clear n0_ n1_ n2_ n3_ n4_ n5_ n6_ n7_ n8_ n9_ n10_ n11_ n12_ n13_
  (try clear hb)
  (try clear hb2)
  (try clear hk)
  (try clear hi)
  refine hK.out _ _ ⟨(blk_cell BK382.out 0).trans rfl, (blk_cell BK382.out 1).trans rfl, (blk_cell BK356.out 0).trans rfl, (blk_cell BK356.out 1).trans rfl⟩ (fun hHeld => ?_)
  clear hK K
  refine norm_ (a' := ?_) ?_ ?_
  rotate_left
  ·show Act.put _ (some 63) _ = _
   simp only [PUz]
   rfl
  refine pure_ (i := 4) (N := some 64) (v := ?_) (a' := ?_) (bz 5 31) rfl rfl (by kernel_rfl) (fun _ _ _ h => h) (Or.inl ⟨by rfl, ?_⟩) ?_ ?_
  rotate_left
  ·intro w'
   go_simp
   with_reducible rfl
  rotate_left
  ·simp only [PUz]
   rfl
  refine done_ (by kernel_rfl) ?_
  try go_wp2_with (first | ((with_reducible refine gate_callee (f := 13) rfl ?_); refine goesL_ (some 67) rfl rfl Tryz.func13 (by kernel_rfl) rfl #[.slice A3 l3.length c3] rfl MPz ?_; (with_reducible refine (laws_toStringS.calls k _ _ l3 t398 _ ?side1 ?side2 A64.out).mono ?_); (case side1 => exact KCz (Kd.C_below HR3.out HB.out)); (case side2 => exact HC3.out); rintro e w101 ⟨v399, rfl, ho0, hb⟩; refine ⟨_, rfl, ?_⟩; have n0_ := Aside0.mk (Kd.S_elder' (KSz HO362) (Kd.R_base ho0) hb); have n1_ := Aside0.mk (Kd.R_below (KRz HO365) hb); have n2_ := Aside0.mk (Kd.S_elder' (KSz HO368) (Kd.R_base ho0) hb); have n3_ := Aside0.mk (Kd.R_elder' (KRz HO371) (Kd.R_base ho0) hb); have n4_ := Aside0.mk (Kd.S_elder' (KSz HO375) (Kd.R_base ho0) hb); have n5_ := Aside0.mk (Kd.R_below (KRz HO378) hb); have n6_ := Aside0.mk (Kd.S_elder' (KSz HO381) (Kd.R_base ho0) hb); have n7_ := Aside0.mk (Kd.R_elder' (KRz HO385) (Kd.R_base ho0) hb); have n8_ := Aside0.mk (Kd.S_elder' (KSz HO389) (Kd.R_base ho0) hb); have n9_ := Aside0.mk (Kd.R_below (KRz HO393) hb); have n10_ := Aside0.mk (Kd.S_elder' (KSz HO396) (Kd.R_base ho0) hb); have n11_ := Aside0.mk (Kd.R_lower (Kd.R_new' (Kd.R_new' ho0 (Kd.R_lt (KRz HO371))) (Kd.R_lt (KRz HO385))) (below_size (HBc GE356 GE382))); have n12_ := BBz BK356 hb; have n13_ := BBz BK382 hb; have n14_ := Aside0.mk (below_step (HBc GE356 GE382) hb); clear HO362; clear HO365; clear HO368; clear HO371; clear HO375; clear HO378; clear HO381; clear HO385; clear HO389; clear HO393; clear HO396; clear BK356; clear BK382; clear HB; have HO362 := n0_; have HO365 := n1_; have HO368 := n2_; have HO371 := n3_; have HO375 := n4_; have HO378 := n5_; have HO381 := n6_; have HO385 := n7_; have HO389 := n8_; have HO393 := n9_; have HO396 := n10_; have HO400 := n11_; have BK356 := n12_; have BK382 := n13_; have HB := n14_; clear n0_ n1_ n2_ n3_ n4_ n5_ n6_ n7_ n8_ n9_ n10_ n11_ n12_ n13_ n14_; (try clear hb); (try clear hb2); (try clear hk); (try clear hi); (try clear ho0); obtain ⟨Ao102, co102, eo102⟩ := Kd.R_slice HO400.out; subst eo102) | ((with_reducible refine gate_callee (f := 17) rfl ?_); refine goesL_ (some 68) rfl rfl Tryz.func17 (by kernel_rfl) rfl #[.slice Ao91 t383.length co91, .slice Ao102 t398.length co102] rfl MPz ?_; (with_reducible refine (laws_eqStringS.calls k _ _ t383 _ _ t398 true _ ?side1 ?side2 ?side3 ?side4 A65.out).mono ?_); (case side1 => repeat (first | exact (Kd.R_reads' HO385.out).2.2 | (with_reducible refine Kd.C_alloc ?_ _) | (with_reducible refine Kd.C_drewN ?_ _) | (with_reducible refine Kd.C_drew ?_))); (case side2 => exact (Kd.R_reads' HO385.out).2.1); (case side3 => repeat (first | exact (Kd.R_reads' HO400.out).2.2 | (with_reducible refine Kd.C_alloc ?_ _) | (with_reducible refine Kd.C_drewN ?_ _) | (with_reducible refine Kd.C_drew ?_))); (case side4 => exact (Kd.R_reads' HO400.out).2.1); rintro e w' ⟨rfl, ⟨nd, rfl⟩⟩; refine ⟨_, rfl, ?_⟩))
  go_ret
  exact ⟨EZa, HBc GE356 GE382⟩
 replace c66 := Bool.eq_false_iff.mpr c66
 subst c66
 have H1 : (some false) = some r := by rw [if_neg (show ¬ (false = true) by decide)] at H; exact H
 clear H
 have H := H1
 clear H1
 obtain rfl := Option.some.inj H
 go_enter Tryz.func3, Tryz.ntmps3
 try go_wp2_with (first | ((with_reducible refine gate_dst (N := 6) rfl ?_); refine box_event ?hg (N := 6) ?hd (cs := #[.slice A2_0 l2_0.length c2_0, .slice A2_1 l2_1.length c2_1]) (t := 26) ?hr ?_; (case hd => rfl); (case hg => rfl); (case hr => first | (go_simp; done) | (go_simp; rfl)); intro gb356 hg w103 hbox hb; have n0_ := Aside0.mk (below_step HBa hb); have n1_ := Aside0.mk (hbox); have n2_ := BSz w hg HBa; have n3_ := BSz w hg HBa; clear HB; have HB := n0_; have BK356 := n1_; have GW356 := n2_; have GE356 := n3_; clear n0_ n1_ n2_ n3_; clear hb hbox hg) | ((with_reducible refine gate_callee (f := 7) rfl ?_); refine goesL_ (some 20) rfl rfl Tryz.func7 (by kernel_rfl) rfl #[.slice A0 l0.length c0, .int .i64 1048576] rfl MPz ?_; (with_reducible refine (laws_szRuleS.calls k _ _ l0 1048576 t357 _ ?side1 ?side2 A7.out).mono ?_); (case side1 => exact KCz (Kd.C_below HR0.out HB.out)); (case side2 => exact HC0.out); rintro e w104 ⟨rfl, hb⟩; refine ⟨_, rfl, ?_⟩; have n0_ := BBz BK356 hb; have n1_ := Aside0.mk (below_step (HBb GE356) hb); clear BK356; clear HB; have BK356 := n0_; have HB := n1_; clear n0_ n1_; (try clear hb); (try clear hb2); (try clear hk); (try clear hi); have hcz105_0 := C1z BK356; have hcz105_1 := C2z BK356; have hfz105_0 := blk_frozen BK356.out 0; have hfz105_1 := blk_frozen BK356.out 1) | ((with_reducible refine gate_callee (f := 8) rfl ?_); refine goesL_ (some 25) rfl rfl Tryz.func8 (by kernel_rfl) rfl #[.agg #[.slice A2_0 l2_0.length c2_0, .slice A2_1 l2_1.length c2_1], .int .i64 t357] rfl MPz ?_; (with_reducible refine (laws_szEntry.calls k _ _ l2_0 _ _ l2_1 t357 t358 _ ?side1 ?side2 ?side3 ?side4 A11.out).mono ?_); (case side1 => exact KCz (Kd.C_below HR2_0.out HB.out)); (case side2 => exact HC2_0.out); (case side3 => exact KCz (Kd.C_below HR2_1.out HB.out)); (case side4 => exact HC2_1.out); rintro e w106 ⟨rfl, hb⟩; refine ⟨_, rfl, ?_⟩; have n0_ := BBz BK356 hb; have n1_ := Aside0.mk (below_step (HBb GE356) hb); clear BK356; clear HB; have BK356 := n0_; have HB := n1_; clear n0_ n1_; (try clear hb); (try clear hb2); (try clear hk); (try clear hi)) | ((with_reducible refine gate_callee (f := 9) rfl ?_); refine goesL_ (some 30) rfl rfl Tryz.func9 (by kernel_rfl) rfl #[.slice A3 l3.length c3, .int .i64 t358] rfl MPz ?_; (with_reducible refine (laws_szStringS.calls k _ _ l3 t358 t359 _ ?side1 ?side2 A17.out).mono ?_); (case side1 => exact KCz (Kd.C_below HR3.out HB.out)); (case side2 => exact HC3.out); rintro e w' ⟨rfl, ⟨nd, rfl⟩⟩; refine ⟨_, rfl, ?_⟩; (try (rw [drewN_self w106]; generalize hq_ : World.drewN w106 _ = w106; have n0_ : Aside0 (w106.heap[gb356]? = some (.cells #[.slice A2_0 l2_0.length c2_0, .slice A2_1 l2_1.length c2_1] 26 (0, 0))) := ⟨by rw [← hq_]; exact (BKz BK356)⟩; have n1_ : Aside0 (Below w.heap.size w w106) := ⟨by rw [← hq_]; exact (HBb GE356)⟩; clear BK356 HB hq_; have BK356 := n0_; have HB := n1_; clear n0_ n1_))))
 have n0_ := Aside0.mk (blk_drew BK356.out)
 have n1_ := Aside0.mk (below_drew1 HB.out)
 clear BK356
 clear HB
 have BK356 := n0_
 have HB := n1_
 clear n0_ n1_
 refine start_ (n := 9) (S := fun w' => w'.cell? ⟨gb356, 0, none⟩ = some (.slice A2_0 l2_0.length c2_0) ∧ w'.cell? ⟨gb356, 1, none⟩ = some (.slice A2_1 l2_1.length c2_1)) (ds := []) (bz 9 0) (by kernel_rfl) rfl (by kernel_rfl) ⟨(blk_cell BK356.out 0).trans rfl, (blk_cell BK356.out 1).trans rfl⟩ (fun hHeld => ?_); refine with_tabW laws_FnExactMayChange.tab13 laws_FnExactMayChange.bits13 (fun HT_ HW_ => ?_)
 generalize w106.drew = w107 at BK356 HB hHeld ⊢
 refine PYz 0 33 (bz 9 1) rfl rfl (any_of HT_.out (by kernel_rfl)) ?_
 refine PYz 2 35 (bz 9 5) rfl rfl (any_of HT_.out (by kernel_rfl)) ?_
 refine PYz 5 38 (bz 9 37) rfl rfl (any_of HT_.out (by kernel_rfl)) ?_
 refine take_ (i := 3) (N := some 36) (v := ?_) (a' := ?_) (bz 9 45) rfl rfl (take_ofW HT_.out HW_.out (by kernel_rfl)) (fun _ _ _ h => h) (Or.inl ⟨by rfl, ?_⟩) hHeld ?_ ?_
 rotate_left
 ·rintro w' ⟨s0, s1⟩
  go_simp
  with_reducible rfl
 rotate_left
 ·simp only [PUz]
  rfl
 refine one_ (i := 1) (N := some 34) (bz 9 47) rfl rfl (one_of HT_.out (by kernel_rfl)) (by decide) (fun K hK => ?_)
 refine goes_ Tryz.func11 (by kernel_rfl) rfl #[.slice A0 l0.length c0] (by rfl) rfl rfl MPz ?_
 with_reducible refine (laws_toRuleS.calls k _ _ l0 t360 _ ?side1 ?side2 A23.out).mono ?_
 (case side1 => exact KCz (Kd.C_below HR0.out HB.out))
 (case side2 => exact HC0.out)
 rintro e w108 ⟨v361, rfl, ho0, hb⟩
 refine ⟨_, rfl, ?_⟩
 have n0_ := Aside0.mk (Kd.S_lower ho0 (below_size (HBb GE356)))
 have n1_ := BBz BK356 hb
 have n2_ := Aside0.mk (below_step (HBb GE356) hb)
 clear BK356
 clear HB
 have HO362 := n0_
 have BK356 := n1_
 have HB := n2_
 clear n0_ n1_ n2_
 (try clear hb)
 (try clear hb2)
 (try clear hk)
 (try clear hi)
 (try clear ho0)
 refine hK.out _ _ ⟨(blk_cell BK356.out 0).trans rfl, (blk_cell BK356.out 1).trans rfl⟩ (fun hHeld => ?_)
 clear hK K
 refine norm_ (a' := ?_) ?_ ?_
 rotate_left
 ·show Act.put _ (some 34) _ = _
  simp only [PUz]
  rfl
 refine one_ (i := 4) (N := some 37) (bz 9 63) rfl rfl (one_of HT_.out (by kernel_rfl)) (by decide) (fun K hK => ?_)
 refine goes_ Tryz.func12 (by kernel_rfl) rfl #[.agg #[.slice A2_0 l2_0.length c2_0, .slice A2_1 l2_1.length c2_1]] (by rfl) rfl rfl MPz ?_
 with_reducible refine (laws_toEntry.calls k _ _ l2_0 _ _ l2_1 t363 t366 _ ?side1 ?side2 ?side3 ?side4 A24.out).mono ?_
 (case side1 => exact KCz (Kd.C_below HR2_0.out HB.out))
 (case side2 => exact HC2_0.out)
 (case side3 => exact KCz (Kd.C_below HR2_1.out HB.out))
 (case side4 => exact HC2_1.out)
 rintro e w109 ⟨v364, v367, rfl, ho0, ho1, hb⟩
 refine ⟨_, rfl, ?_⟩
 have n0_ := Aside0.mk (Kd.S_elder' (KSz HO362) (Kd.R_base ho0) hb)
 have n1_ := Aside0.mk (Kd.R_lower ho0 (below_size (HBb GE356)))
 have n2_ := Aside0.mk (Kd.S_lower ho1 (below_size (HBb GE356)))
 have n3_ := BBz BK356 hb
 have n4_ := Aside0.mk (below_step (HBb GE356) hb)
 clear HO362
 clear BK356
 clear HB
 have HO362 := n0_
 have HO365 := n1_
 have HO368 := n2_
 have BK356 := n3_
 have HB := n4_
 clear n0_ n1_ n2_ n3_ n4_
 (try clear hb)
 (try clear hb2)
 (try clear hk)
 (try clear hi)
 (try clear ho0)
 (try clear ho1)
 refine hK.out _ _ ⟨(blk_cell BK356.out 0).trans rfl, (blk_cell BK356.out 1).trans rfl⟩ (fun hHeld => ?_)
 clear hK K
 refine norm_ (a' := ?_) ?_ ?_
 rotate_left
 ·show Act.put _ (some 37) _ = _
  simp only [PUz]
  rfl
 refine one_ (i := 6) (N := some 39) (bz 9 127) rfl rfl (one_of HT_.out (by kernel_rfl)) (by decide) (fun K hK => ?_)
 refine goes_ Tryz.func13 (by kernel_rfl) rfl #[.slice A3 l3.length c3] (by rfl) rfl rfl MPz ?_
 with_reducible refine (laws_toStringS.calls k _ _ l3 t369 _ ?side1 ?side2 A25.out).mono ?_
 (case side1 => exact KCz (Kd.C_below HR3.out HB.out))
 (case side2 => exact HC3.out)
 rintro e w110 ⟨v370, rfl, ho0, hb⟩
 refine ⟨_, rfl, ?_⟩
 have n0_ := Aside0.mk (Kd.S_elder' (KSz HO362) (Kd.R_base ho0) hb)
 have n1_ := Aside0.mk (Kd.R_below (KRz HO365) hb)
 have n2_ := Aside0.mk (Kd.S_elder' (KSz HO368) (Kd.R_base ho0) hb)
 have n3_ := Aside0.mk (Kd.R_lower ho0 (below_size (HBb GE356)))
 have n4_ := BBz BK356 hb
 have n5_ := Aside0.mk (below_step (HBb GE356) hb)
 clear HO362
 clear HO365
 clear HO368
 clear BK356
 clear HB
 have HO362 := n0_
 have HO365 := n1_
 have HO368 := n2_
 have HO371 := n3_
 have BK356 := n4_
 have HB := n5_
 clear n0_ n1_ n2_ n3_ n4_ n5_
 (try clear hb)
 (try clear hb2)
 (try clear hk)
 (try clear hi)
 (try clear ho0)
 obtain ⟨Ao111, co111, eo111⟩ := Kd.S_slice HO362.out
 (first | subst eo111 | (injection eo111 with f1_ f2_ f3_; have f4_ := f1_.symm; have f5_ := f3_.symm; clear f1_ f2_ f3_; subst f4_; subst f5_))
 obtain ⟨Ao112, co112, eo112⟩ := Kd.R_slice HO365.out
 (first | subst eo112 | (injection eo112 with f1_ f2_ f3_; have f4_ := f1_.symm; have f5_ := f3_.symm; clear f1_ f2_ f3_; subst f4_; subst f5_))
 obtain ⟨Ao113, co113, eo113⟩ := Kd.S_slice HO368.out
 (first | subst eo113 | (injection eo113 with f1_ f2_ f3_; have f4_ := f1_.symm; have f5_ := f3_.symm; clear f1_ f2_ f3_; subst f4_; subst f5_))
 obtain ⟨Ao114, co114, eo114⟩ := Kd.R_slice HO371.out
 (first | subst eo114 | (injection eo114 with f1_ f2_ f3_; have f4_ := f1_.symm; have f5_ := f3_.symm; clear f1_ f2_ f3_; subst f4_; subst f5_))
 refine hK.out _ _ ⟨(blk_cell BK356.out 0).trans rfl, (blk_cell BK356.out 1).trans rfl⟩ (fun hHeld => ?_)
 clear hK K
 refine norm_ (a' := ?_) ?_ ?_
 rotate_left
 ·show Act.put _ (some 39) _ = _
  simp only [PUz]
  rfl
 refine one_ (i := 7) (N := some 40) (bz 9 255) rfl rfl (one_of HT_.out (by kernel_rfl)) (by decide) (fun K hK => ?_)
 refine goes_ Tryz.func10 (by kernel_rfl) rfl #[.slice Ao111 t360.length co111, .string a1, .agg #[.slice Ao112 t363.length co112, .slice Ao113 t366.length co113], .slice Ao114 t369.length co114] (by rfl) rfl rfl MPz ?_
 with_reducible refine (spec_MayChange.calls k _ _ t360 a1 _ _ t363 _ _ t366 _ _ t369 t372 _ ?side1 ?side2 ?side3 ?side4 ?side5 ?side6 ?side7 ?side8 A26.out).mono ?_
 (case side1 => repeat (first | exact (Kd.S_reads' HO362.out).2.2 | (with_reducible refine Kd.C_alloc ?_ _) | (with_reducible refine Kd.C_drewN ?_ _) | (with_reducible refine Kd.C_drew ?_)))
 (case side2 => exact (Kd.S_reads' HO362.out).2.1)
 (case side3 => repeat (first | exact (Kd.R_reads' HO365.out).2.2 | (with_reducible refine Kd.C_alloc ?_ _) | (with_reducible refine Kd.C_drewN ?_ _) | (with_reducible refine Kd.C_drew ?_)))
 (case side4 => exact (Kd.R_reads' HO365.out).2.1)
 (case side5 => repeat (first | exact (Kd.S_reads' HO368.out).2.2 | (with_reducible refine Kd.C_alloc ?_ _) | (with_reducible refine Kd.C_drewN ?_ _) | (with_reducible refine Kd.C_drew ?_)))
 (case side6 => exact (Kd.S_reads' HO368.out).2.1)
 (case side7 => repeat (first | exact (Kd.R_reads' HO371.out).2.2 | (with_reducible refine Kd.C_alloc ?_ _) | (with_reducible refine Kd.C_drewN ?_ _) | (with_reducible refine Kd.C_drew ?_)))
 (case side8 => exact (Kd.R_reads' HO371.out).2.1)
 rintro e w115 ⟨rfl, hb⟩
 refine ⟨_, rfl, ?_⟩
 have n0_ := Aside0.mk (Kd.S_below (KSz HO362) hb)
 have n1_ := Aside0.mk (Kd.R_below (KRz HO365) hb)
 have n2_ := Aside0.mk (Kd.S_below (KSz HO368) hb)
 have n3_ := Aside0.mk (Kd.R_below (KRz HO371) hb)
 have n4_ := BBz BK356 hb
 have n5_ := Aside0.mk (below_step (HBb GE356) hb)
 clear HO362
 clear HO365
 clear HO368
 clear HO371
 clear BK356
 clear HB
 have HO362 := n0_
 have HO365 := n1_
 have HO368 := n2_
 have HO371 := n3_
 have BK356 := n4_
 have HB := n5_
 clear n0_ n1_ n2_ n3_ n4_ n5_
 (try clear hb)
 (try clear hb2)
 (try clear hk)
 (try clear hi)
 refine hK.out _ _ ⟨(blk_cell BK356.out 0).trans rfl, (blk_cell BK356.out 1).trans rfl⟩ (fun hHeld => ?_)
 clear hK K
 refine norm_ (a' := ?_) ?_ ?_
 rotate_left
 ·show Act.put _ (some 40) _ = _
  simp only [PUz]
  rfl
 refine PYz 8 10 (bz 9 511) rfl rfl (any_of HT_.out (by kernel_rfl)) ?_
 refine done_ (done_of HT_.out (by kernel_rfl)) ?_
 try go_wp2_with (first | ((with_reducible refine gate_callee (f := 11) rfl ?_); refine goesL_ (some 42) rfl rfl Tryz.func11 (by kernel_rfl) rfl #[.slice A0 l0.length c0] rfl MPz ?_; (with_reducible refine (laws_toRuleS.calls k _ _ l0 t373 _ ?side1 ?side2 A27.out).mono ?_); (case side1 => exact KCz (Kd.C_below HR0.out HB.out)); (case side2 => exact HC0.out); rintro e w116 ⟨v374, rfl, ho0, hb⟩; refine ⟨_, rfl, ?_⟩; have n0_ := Aside0.mk (Kd.S_elder' (KSz HO362) (Kd.S_base ho0) hb); have n1_ := Aside0.mk (Kd.R_below (KRz HO365) hb); have n2_ := Aside0.mk (Kd.S_below (KSz HO368) hb); have n3_ := Aside0.mk (Kd.R_below (KRz HO371) hb); have n4_ := Aside0.mk (Kd.S_lower (Kd.S_new' (Kd.S_new' (Kd.S_new' ho0 (Kd.S_lt (KSz HO362))) (Kd.R_lt (KRz HO365))) (Kd.R_lt (KRz HO371))) (below_size (HBb GE356))); have n5_ := BBz BK356 hb; have n6_ := Aside0.mk (below_step (HBb GE356) hb); clear HO362; clear HO365; clear HO368; clear HO371; clear BK356; clear HB; have HO362 := n0_; have HO365 := n1_; have HO368 := n2_; have HO371 := n3_; have HO375 := n4_; have BK356 := n5_; have HB := n6_; clear n0_ n1_ n2_ n3_ n4_ n5_ n6_; (try clear hb); (try clear hb2); (try clear hk); (try clear hi); (try clear ho0); have hcz117_0 := C1z BK356; have hcz117_1 := C2z BK356; have hfz117_0 := blk_frozen BK356.out 0; have hfz117_1 := blk_frozen BK356.out 1) | ((with_reducible refine gate_callee (f := 12) rfl ?_); refine goesL_ (some 44) rfl rfl Tryz.func12 (by kernel_rfl) rfl #[.agg #[.slice A2_0 l2_0.length c2_0, .slice A2_1 l2_1.length c2_1]] rfl MPz ?_; (with_reducible refine (laws_toEntry.calls k _ _ l2_0 _ _ l2_1 t376 t379 _ ?side1 ?side2 ?side3 ?side4 A28.out).mono ?_); (case side1 => exact KCz (Kd.C_below HR2_0.out HB.out)); (case side2 => exact HC2_0.out); (case side3 => exact KCz (Kd.C_below HR2_1.out HB.out)); (case side4 => exact HC2_1.out); rintro e w118 ⟨v377, v380, rfl, ho0, ho1, hb⟩; refine ⟨_, rfl, ?_⟩; have n0_ := Aside0.mk (Kd.S_elder' (KSz HO362) (Kd.R_base ho0) hb); have n1_ := Aside0.mk (Kd.R_elder' (KRz HO365) (Kd.R_base ho0) hb); have n2_ := Aside0.mk (Kd.S_elder' (KSz HO368) (Kd.S_base ho1) hb); have n3_ := Aside0.mk (Kd.R_below (KRz HO371) hb); have n4_ := Aside0.mk (Kd.S_elder' (KSz HO375) (Kd.R_base ho0) hb); have n5_ := Aside0.mk (Kd.R_lower (Kd.R_new' ho0 (Kd.R_lt (KRz HO365))) (below_size (HBb GE356))); have n6_ := Aside0.mk (Kd.S_lower (Kd.S_new' (Kd.S_new' ho1 (Kd.S_lt (KSz HO368))) (Kd.R_lt (KRz HO371))) (below_size (HBb GE356))); have n7_ := BBz BK356 hb; have n8_ := Aside0.mk (below_step (HBb GE356) hb); clear HO362; clear HO365; clear HO368; clear HO371; clear HO375; clear BK356; clear HB; have HO362 := n0_; have HO365 := n1_; have HO368 := n2_; have HO371 := n3_; have HO375 := n4_; have HO378 := n5_; have HO381 := n6_; have BK356 := n7_; have HB := n8_; clear n0_ n1_ n2_ n3_ n4_ n5_ n6_ n7_ n8_; (try clear hb); (try clear hb2); (try clear hk); (try clear hi); (try clear ho0); (try clear ho1)) | ((with_reducible refine gate_dst (N := 12) rfl ?_); refine box_event ?hg (N := 12) ?hd (cs := #[.slice none 0 0, .slice none 0 0]) (t := 37) ?hr ?_; (case hd => rfl); (case hg => rfl); (case hr => first | (go_simp; done) | (go_simp; rfl)); intro gb382 hg w119 hbox hb; have n0_ := Aside0.mk (Kd.S_below (KSz HO362) hb); have n1_ := Aside0.mk (Kd.R_below (KRz HO365) hb); have n2_ := Aside0.mk (Kd.S_below (KSz HO368) hb); have n3_ := Aside0.mk (Kd.R_below (KRz HO371) hb); have n4_ := Aside0.mk (Kd.S_below (KSz HO375) hb); have n5_ := Aside0.mk (Kd.R_below (KRz HO378) hb); have n6_ := Aside0.mk (Kd.S_below (KSz HO381) hb); have n7_ := BBz BK356 hb; have n8_ := Aside0.mk (below_step (HBb GE356) hb); have n9_ := Aside0.mk (hbox); have n10_ := BSz w hg (HBb GE356); have n11_ := BSz w hg (HBb GE356); have n12_ := BNz BK356 hg; have n13_ := BMz BK356 hg; clear HO362; clear HO365; clear HO368; clear HO371; clear HO375; clear HO378; clear HO381; clear BK356; clear HB; have HO362 := n0_; have HO365 := n1_; have HO368 := n2_; have HO371 := n3_; have HO375 := n4_; have HO378 := n5_; have HO381 := n6_; have BK356 := n7_; have HB := n8_; have BK382 := n9_; have GW382 := n10_; have GE382 := n11_; have NB356_382 := n12_; have NB382_356 := n13_; clear n0_ n1_ n2_ n3_ n4_ n5_ n6_ n7_ n8_ n9_ n10_ n11_ n12_ n13_; clear hb hbox hg; obtain ⟨Ao120, co120, eo120⟩ := Kd.R_slice HO378.out; subst eo120; have hnb121 := NB382_356.out; have hnc121 := NB356_382.out; have hcz122_0 := C1z BK382; have hcz122_1 := C2z BK382; have hfz122_0 := blk_frozen BK382.out 0; have hfz122_1 := blk_frozen BK382.out 1; obtain ⟨Ao123, co123, eo123⟩ := Kd.S_slice HO381.out; subst eo123) | ((with_reducible refine gate_callee (f := 13) rfl ?_); refine goesL_ (some 46) rfl rfl Tryz.func13 (by kernel_rfl) rfl #[.slice A3 l3.length c3] rfl MPz ?_; (with_reducible refine (laws_toStringS.calls k _ _ l3 t383 _ ?side1 ?side2 A29.out).mono ?_); (case side1 => exact Kd.C_below HR3.out (HBc GE356 GE382)); (case side2 => exact HC3.out); rintro e w124 ⟨v384, rfl, ho0, hb⟩; refine ⟨_, rfl, ?_⟩; have n0_ := Aside0.mk (Kd.S_elder' (by (with_reducible repeat (first | apply Kd.S_alloc | apply Kd.S_drewN | apply Kd.S_drew)); exact (Kd.S_mono (Kd.S_far (p := ⟨gb382, 1, none⟩) (Kd.S_far (p := ⟨gb382, 0, none⟩) (Kd.S_types HO362.out BK382.out (by decide)) (fun _ hk => hk.2) (.slice Ao120 t376.length co120)) (fun _ hk => hk.2) (.slice Ao123 t379.length co123)) (fun _ h_ => h_.1))) (Kd.R_base ho0) hb); have n1_ := Aside0.mk (Kd.R_below (by (with_reducible repeat (first | apply Kd.R_alloc | apply Kd.R_drewN | apply Kd.R_drew)); exact (Kd.R_mono (Kd.R_far (p := ⟨gb382, 1, none⟩) (Kd.R_far (p := ⟨gb382, 0, none⟩) (Kd.R_types HO365.out BK382.out (by decide)) (fun _ hk => hk.2) (.slice Ao120 t376.length co120)) (fun _ hk => hk.2) (.slice Ao123 t379.length co123)) (fun _ h_ => h_.1))) hb); have n2_ := Aside0.mk (Kd.S_elder' (by (with_reducible repeat (first | apply Kd.S_alloc | apply Kd.S_drewN | apply Kd.S_drew)); exact (Kd.S_mono (Kd.S_far (p := ⟨gb382, 1, none⟩) (Kd.S_far (p := ⟨gb382, 0, none⟩) (Kd.S_types HO368.out BK382.out (by decide)) (fun _ hk => hk.2) (.slice Ao120 t376.length co120)) (fun _ hk => hk.2) (.slice Ao123 t379.length co123)) (fun _ h_ => h_.1))) (Kd.R_base ho0) hb); have n3_ := Aside0.mk (Kd.R_elder' (by (with_reducible repeat (first | apply Kd.R_alloc | apply Kd.R_drewN | apply Kd.R_drew)); exact (Kd.R_mono (Kd.R_far (p := ⟨gb382, 1, none⟩) (Kd.R_far (p := ⟨gb382, 0, none⟩) (Kd.R_types HO371.out BK382.out (by decide)) (fun _ hk => hk.2) (.slice Ao120 t376.length co120)) (fun _ hk => hk.2) (.slice Ao123 t379.length co123)) (fun _ h_ => h_.1))) (Kd.R_base ho0) hb); have n4_ := Aside0.mk (Kd.S_elder' (by (with_reducible repeat (first | apply Kd.S_alloc | apply Kd.S_drewN | apply Kd.S_drew)); exact (Kd.S_mono (Kd.S_far (p := ⟨gb382, 1, none⟩) (Kd.S_far (p := ⟨gb382, 0, none⟩) (Kd.S_types HO375.out BK382.out (by decide)) (fun _ hk => hk.2) (.slice Ao120 t376.length co120)) (fun _ hk => hk.2) (.slice Ao123 t379.length co123)) (fun _ h_ => h_.1))) (Kd.R_base ho0) hb); have n5_ := Aside0.mk (Kd.R_below (by (with_reducible repeat (first | apply Kd.R_alloc | apply Kd.R_drewN | apply Kd.R_drew)); exact (Kd.R_mono (Kd.R_far (p := ⟨gb382, 1, none⟩) (Kd.R_far (p := ⟨gb382, 0, none⟩) (Kd.R_types HO378.out BK382.out (by decide)) (fun _ hk => hk.2) (.slice Ao120 t376.length co120)) (fun _ hk => hk.2) (.slice Ao123 t379.length co123)) (fun _ h_ => h_.1))) hb); have n6_ := Aside0.mk (Kd.S_elder' (by (with_reducible repeat (first | apply Kd.S_alloc | apply Kd.S_drewN | apply Kd.S_drew)); exact (Kd.S_mono (Kd.S_far (p := ⟨gb382, 1, none⟩) (Kd.S_far (p := ⟨gb382, 0, none⟩) (Kd.S_types HO381.out BK382.out (by decide)) (fun _ hk => hk.2) (.slice Ao120 t376.length co120)) (fun _ hk => hk.2) (.slice Ao123 t379.length co123)) (fun _ h_ => h_.1))) (Kd.R_base ho0) hb); have n7_ := Aside0.mk (Kd.R_lower (Kd.R_new' ho0 (Kd.R_lt (by (with_reducible repeat (first | apply Kd.R_alloc | apply Kd.R_drewN | apply Kd.R_drew)); exact (Kd.R_mono (Kd.R_far (p := ⟨gb382, 1, none⟩) (Kd.R_far (p := ⟨gb382, 0, none⟩) (Kd.R_types HO371.out BK382.out (by decide)) (fun _ hk => hk.2) (.slice Ao120 t376.length co120)) (fun _ hk => hk.2) (.slice Ao123 t379.length co123)) (fun _ h_ => h_.1))))) (below_size (HBc GE356 GE382))); have n8_ := Aside0.mk (blk_below (g := gb356) (o := .cells #[.slice A2_0 l2_0.length c2_0, .slice A2_1 l2_1.length c2_1] 26 (0, 0)) (by (with_reducible repeat (first | refine blk_drewN ?_ _ | refine blk_drew ?_ | refine blk_alloc ?_ _)); refine blk_far ?_ NB356_382.out _; (with_reducible repeat (first | refine blk_drewN ?_ _ | refine blk_drew ?_ | refine blk_alloc ?_ _)); refine blk_far ?_ NB356_382.out _; (with_reducible repeat (first | refine blk_drewN ?_ _ | refine blk_drew ?_ | refine blk_alloc ?_ _)); exact BK356.out) hb); have n9_ := Aside0.mk (blk_below (g := gb382) (o := .cells #[.slice Ao120 t376.length co120, .slice Ao123 t379.length co123] 37 (0, 0)) (by (with_reducible repeat (first | refine blk_drewN ?_ _ | refine blk_drew ?_ | refine blk_alloc ?_ _)); refine blk_put (cs := #[.slice Ao120 t376.length co120, .slice none 0 0]) ?_ 1 _ rfl; (with_reducible repeat (first | refine blk_drewN ?_ _ | refine blk_drew ?_ | refine blk_alloc ?_ _)); refine blk_put (cs := #[.slice none 0 0, .slice none 0 0]) ?_ 0 _ rfl; (with_reducible repeat (first | refine blk_drewN ?_ _ | refine blk_drew ?_ | refine blk_alloc ?_ _)); exact BK382.out) hb); have n10_ := Aside0.mk (below_step (HBc GE356 GE382) hb); clear HO362; clear HO365; clear HO368; clear HO371; clear HO375; clear HO378; clear HO381; clear BK356; clear BK382; clear HB; have HO362 := n0_; have HO365 := n1_; have HO368 := n2_; have HO371 := n3_; have HO375 := n4_; have HO378 := n5_; have HO381 := n6_; have HO385 := n7_; have BK356 := n8_; have BK382 := n9_; have HB := n10_; clear n0_ n1_ n2_ n3_ n4_ n5_ n6_ n7_ n8_ n9_ n10_; (try clear hb); (try clear hb2); (try clear hk); (try clear hi); (try clear ho0); have hcz125_0 := C1z BK382; have hcz125_1 := C2z BK382; have hfz125_0 := blk_frozen BK382.out 0; have hfz125_1 := blk_frozen BK382.out 1; obtain ⟨Ao126, co126, eo126⟩ := Kd.S_slice HO375.out; subst eo126; obtain ⟨Ao127, co127, eo127⟩ := Kd.R_slice HO385.out; subst eo127) | ((with_reducible refine gate_callee (f := 14) rfl ?_); refine goesL_ (some 51) rfl rfl Tryz.func14 (by kernel_rfl) rfl #[.slice Ao126 t373.length co126, .string a1, .agg #[.slice Ao120 t376.length co120, .slice Ao123 t379.length co123], .slice Ao127 t383.length co127] rfl MPz ?_; (with_reducible refine (impl_MayChange.calls k _ _ t373 a1 _ _ t376 _ _ t379 _ _ t383 t386 _ ?side1 ?side2 ?side3 ?side4 ?side5 ?side6 ?side7 ?side8 A30.out).mono ?_); (case side1 => repeat (first | exact (Kd.S_reads' HO375.out).2.2 | (with_reducible refine Kd.C_alloc ?_ _) | (with_reducible refine Kd.C_drewN ?_ _) | (with_reducible refine Kd.C_drew ?_))); (case side2 => exact (Kd.S_reads' HO375.out).2.1); (case side3 => repeat (first | exact (Kd.R_reads' HO378.out).2.2 | (with_reducible refine Kd.C_alloc ?_ _) | (with_reducible refine Kd.C_drewN ?_ _) | (with_reducible refine Kd.C_drew ?_))); (case side4 => exact (Kd.R_reads' HO378.out).2.1); (case side5 => repeat (first | exact (Kd.S_reads' HO381.out).2.2 | (with_reducible refine Kd.C_alloc ?_ _) | (with_reducible refine Kd.C_drewN ?_ _) | (with_reducible refine Kd.C_drew ?_))); (case side6 => exact (Kd.S_reads' HO381.out).2.1); (case side7 => repeat (first | exact (Kd.R_reads' HO385.out).2.2 | (with_reducible refine Kd.C_alloc ?_ _) | (with_reducible refine Kd.C_drewN ?_ _) | (with_reducible refine Kd.C_drew ?_))); (case side8 => exact (Kd.R_reads' HO385.out).2.1); rintro e w128 ⟨rfl, hb⟩; refine ⟨_, rfl, ?_⟩; have n0_ := Aside0.mk (Kd.S_below (KSz HO362) hb); have n1_ := Aside0.mk (Kd.R_below (KRz HO365) hb); have n2_ := Aside0.mk (Kd.S_below (KSz HO368) hb); have n3_ := Aside0.mk (Kd.R_below (KRz HO371) hb); have n4_ := Aside0.mk (Kd.S_below (KSz HO375) hb); have n5_ := Aside0.mk (Kd.R_below (KRz HO378) hb); have n6_ := Aside0.mk (Kd.S_below (KSz HO381) hb); have n7_ := Aside0.mk (Kd.R_below (KRz HO385) hb); have n8_ := BBz BK356 hb; have n9_ := BBz BK382 hb; have n10_ := Aside0.mk (below_step (HBc GE356 GE382) hb); clear HO362; clear HO365; clear HO368; clear HO371; clear HO375; clear HO378; clear HO381; clear HO385; clear BK356; clear BK382; clear HB; have HO362 := n0_; have HO365 := n1_; have HO368 := n2_; have HO371 := n3_; have HO375 := n4_; have HO378 := n5_; have HO381 := n6_; have HO385 := n7_; have BK356 := n8_; have BK382 := n9_; have HB := n10_; clear n0_ n1_ n2_ n3_ n4_ n5_ n6_ n7_ n8_ n9_ n10_; (try clear hb); (try clear hb2); (try clear hk); (try clear hi)) | ((with_reducible refine gate_callee (f := 11) rfl ?_); refine goesL_ (some 57) rfl rfl Tryz.func11 (by kernel_rfl) rfl #[.slice A0 l0.length c0] rfl MPz ?_; (with_reducible refine (laws_toRuleS.calls k _ _ l0 t387 _ ?side1 ?side2 A58.out).mono ?_); (case side1 => exact KCz (Kd.C_below HR0.out HB.out)); (case side2 => exact HC0.out); rintro e w129 ⟨v388, rfl, ho0, hb⟩; refine ⟨_, rfl, ?_⟩; have n0_ := Aside0.mk (Kd.S_elder' (KSz HO362) (Kd.S_base ho0) hb); have n1_ := Aside0.mk (Kd.R_below (KRz HO365) hb); have n2_ := Aside0.mk (Kd.S_below (KSz HO368) hb); have n3_ := Aside0.mk (Kd.R_below (KRz HO371) hb); have n4_ := Aside0.mk (Kd.S_elder' (KSz HO375) (Kd.S_base ho0) hb); have n5_ := Aside0.mk (Kd.R_below (KRz HO378) hb); have n6_ := Aside0.mk (Kd.S_below (KSz HO381) hb); have n7_ := Aside0.mk (Kd.R_below (KRz HO385) hb); have n8_ := Aside0.mk (Kd.S_lower (Kd.S_new' (Kd.S_new' (Kd.S_new' (Kd.S_new' (Kd.S_new' (Kd.S_new' ho0 (Kd.S_lt (KSz HO362))) (Kd.R_lt (KRz HO365))) (Kd.R_lt (KRz HO371))) (Kd.S_lt (KSz HO375))) (Kd.R_lt (KRz HO378))) (Kd.R_lt (KRz HO385))) (below_size (HBc GE356 GE382))); have n9_ := BBz BK356 hb; have n10_ := BBz BK382 hb; have n11_ := Aside0.mk (below_step (HBc GE356 GE382) hb); clear HO362; clear HO365; clear HO368; clear HO371; clear HO375; clear HO378; clear HO381; clear HO385; clear BK356; clear BK382; clear HB; have HO362 := n0_; have HO365 := n1_; have HO368 := n2_; have HO371 := n3_; have HO375 := n4_; have HO378 := n5_; have HO381 := n6_; have HO385 := n7_; have HO389 := n8_; have BK356 := n9_; have BK382 := n10_; have HB := n11_; clear n0_ n1_ n2_ n3_ n4_ n5_ n6_ n7_ n8_ n9_ n10_ n11_; (try clear hb); (try clear hb2); (try clear hk); (try clear hi); (try clear ho0); obtain ⟨Ao130, co130, eo130⟩ := Kd.S_slice HO389.out; subst eo130) | ((with_reducible refine gate_callee (f := 15) rfl ?_); refine goesL_ (some 58) rfl rfl Tryz.func15 (by kernel_rfl) rfl #[.slice Ao126 t373.length co126, .slice Ao130 t387.length co130] rfl MPz ?_; (with_reducible refine (laws_eqRuleS.calls k _ _ t373 _ _ t387 true _ ?side1 ?side2 ?side3 ?side4 A59.out).mono ?_); (case side1 => repeat (first | exact (Kd.S_reads' HO375.out).2.2 | (with_reducible refine Kd.C_alloc ?_ _) | (with_reducible refine Kd.C_drewN ?_ _) | (with_reducible refine Kd.C_drew ?_))); (case side2 => exact (Kd.S_reads' HO375.out).2.1); (case side3 => repeat (first | exact (Kd.S_reads' HO389.out).2.2 | (with_reducible refine Kd.C_alloc ?_ _) | (with_reducible refine Kd.C_drewN ?_ _) | (with_reducible refine Kd.C_drew ?_))); (case side4 => exact (Kd.S_reads' HO389.out).2.1); rintro e w131 ⟨rfl, hb⟩; refine ⟨_, rfl, ?_⟩; have n0_ := Aside0.mk (Kd.S_below (KSz HO362) hb); have n1_ := Aside0.mk (Kd.R_below (KRz HO365) hb); have n2_ := Aside0.mk (Kd.S_below (KSz HO368) hb); have n3_ := Aside0.mk (Kd.R_below (KRz HO371) hb); have n4_ := Aside0.mk (Kd.S_below (KSz HO375) hb); have n5_ := Aside0.mk (Kd.R_below (KRz HO378) hb); have n6_ := Aside0.mk (Kd.S_below (KSz HO381) hb); have n7_ := Aside0.mk (Kd.R_below (KRz HO385) hb); have n8_ := Aside0.mk (Kd.S_below (KSz HO389) hb); have n9_ := BBz BK356 hb; have n10_ := BBz BK382 hb; have n11_ := Aside0.mk (below_step (HBc GE356 GE382) hb); clear HO362; clear HO365; clear HO368; clear HO371; clear HO375; clear HO378; clear HO381; clear HO385; clear HO389; clear BK356; clear BK382; clear HB; have HO362 := n0_; have HO365 := n1_; have HO368 := n2_; have HO371 := n3_; have HO375 := n4_; have HO378 := n5_; have HO381 := n6_; have HO385 := n7_; have HO389 := n8_; have BK356 := n9_; have BK382 := n10_; have HB := n11_; clear n0_ n1_ n2_ n3_ n4_ n5_ n6_ n7_ n8_ n9_ n10_ n11_; (try clear hb); (try clear hb2); (try clear hk); (try clear hi)))
 have n0_ := Aside0.mk (Kd.S_drew HO362.out)
 have n1_ := Aside0.mk (Kd.R_drew HO365.out)
 have n2_ := Aside0.mk (Kd.S_drew HO368.out)
 have n3_ := Aside0.mk (Kd.R_drew HO371.out)
 have n4_ := Aside0.mk (Kd.S_drew HO375.out)
 have n5_ := Aside0.mk (Kd.R_drew HO378.out)
 have n6_ := Aside0.mk (Kd.S_drew HO381.out)
 have n7_ := Aside0.mk (Kd.R_drew HO385.out)
 have n8_ := Aside0.mk (Kd.S_drew HO389.out)
 have n9_ := Aside0.mk (blk_drew BK356.out)
 have n10_ := Aside0.mk (blk_drew BK382.out)
 have n11_ := Aside0.mk (below_drew1 HB.out)
 clear HO362
 clear HO365
 clear HO368
 clear HO371
 clear HO375
 clear HO378
 clear HO381
 clear HO385
 clear HO389
 clear BK356
 clear BK382
 clear HB
 have HO362 := n0_
 have HO365 := n1_
 have HO368 := n2_
 have HO371 := n3_
 have HO375 := n4_
 have HO378 := n5_
 have HO381 := n6_
 have HO385 := n7_
 have HO389 := n8_
 have BK356 := n9_
 have BK382 := n10_
 have HB := n11_
 clear n0_ n1_ n2_ n3_ n4_ n5_ n6_ n7_ n8_ n9_ n10_ n11_
 refine start_ (n := 5) (S := fun w' => w'.cell? ⟨gb382, 0, none⟩ = some (.slice Ao120 t376.length co120) ∧ w'.cell? ⟨gb382, 1, none⟩ = some (.slice Ao123 t379.length co123) ∧ w'.cell? ⟨gb356, 0, none⟩ = some (.slice A2_0 l2_0.length c2_0) ∧ w'.cell? ⟨gb356, 1, none⟩ = some (.slice A2_1 l2_1.length c2_1)) (ds := []) (bz 5 0) (by kernel_rfl) rfl (by kernel_rfl) ⟨(blk_cell BK382.out 0).trans rfl, (blk_cell BK382.out 1).trans rfl, (blk_cell BK356.out 0).trans rfl, (blk_cell BK356.out 1).trans rfl⟩ (fun hHeld => ?_)
 generalize w131.drew = w132 at HO362 HO365 HO368 HO371 HO375 HO378 HO381 HO385 HO389 BK356 BK382 HB hHeld ⊢
 refine take_ (i := 0) (N := some 60) (v := ?_) (a' := ?_) (bz 5 1) rfl rfl (by kernel_rfl) (fun _ _ _ h => h) (Or.inl ⟨by rfl, ?_⟩) hHeld ?_ ?_
 rotate_left
 ·rintro w' ⟨s0, s1, s2, s3⟩
  go_simp
  with_reducible rfl
 rotate_left
 ·simp only [PUz]
  rfl
 refine take_ (i := 1) (N := some 61) (v := ?_) (a' := ?_) (bz 5 3) rfl rfl (by kernel_rfl) (fun _ _ _ h => h) (Or.inl ⟨by rfl, ?_⟩) hHeld ?_ ?_
 rotate_left
 ·rintro w' ⟨s0, s1, s2, s3⟩
  go_simp
  with_reducible rfl
 rotate_left
 ·simp only [PUz]
  rfl
 refine one_ (i := 2) (N := some 62) (bz 5 7) rfl rfl (by kernel_rfl) (by decide) (fun K hK => ?_)
 refine goes_ Tryz.func12 (by kernel_rfl) rfl #[.agg #[.slice A2_0 l2_0.length c2_0, .slice A2_1 l2_1.length c2_1]] (by rfl) rfl rfl MPz ?_
 with_reducible refine (laws_toEntry.calls k _ _ l2_0 _ _ l2_1 t391 t394 _ ?side1 ?side2 ?side3 ?side4 A61.out).mono ?_
 (case side1 => exact KCz (Kd.C_below HR2_0.out HB.out))
 (case side2 => exact HC2_0.out)
 (case side3 => exact KCz (Kd.C_below HR2_1.out HB.out))
 (case side4 => exact HC2_1.out)
 rintro e w133 ⟨v392, v395, rfl, ho0, ho1, hb⟩
 refine ⟨_, rfl, ?_⟩
 have n0_ := Aside0.mk (Kd.S_elder' (KSz HO362) (Kd.R_base ho0) hb)
 have n1_ := Aside0.mk (Kd.R_elder' (KRz HO365) (Kd.R_base ho0) hb)
 have n2_ := Aside0.mk (Kd.S_elder' (KSz HO368) (Kd.S_base ho1) hb)
 have n3_ := Aside0.mk (Kd.R_below (KRz HO371) hb)
 have n4_ := Aside0.mk (Kd.S_elder' (KSz HO375) (Kd.R_base ho0) hb)
 have n5_ := Aside0.mk (Kd.R_elder' (KRz HO378) (Kd.R_base ho0) hb)
 have n6_ := Aside0.mk (Kd.S_elder' (KSz HO381) (Kd.S_base ho1) hb)
 have n7_ := Aside0.mk (Kd.R_below (KRz HO385) hb)
 have n8_ := Aside0.mk (Kd.S_elder' (KSz HO389) (Kd.R_base ho0) hb)
 have n9_ := Aside0.mk (Kd.R_lower (Kd.R_new' (Kd.R_new' ho0 (Kd.R_lt (KRz HO365))) (Kd.R_lt (KRz HO378))) (below_size (HBc GE356 GE382)))
 have n10_ := Aside0.mk (Kd.S_lower (Kd.S_new' (Kd.S_new' (Kd.S_new' (Kd.S_new' ho1 (Kd.S_lt (KSz HO368))) (Kd.R_lt (KRz HO371))) (Kd.S_lt (KSz HO381))) (Kd.R_lt (KRz HO385))) (below_size (HBc GE356 GE382)))
 have n11_ := BBz BK356 hb
 have n12_ := BBz BK382 hb
 have n13_ := Aside0.mk (below_step (HBc GE356 GE382) hb)
 clear HO362
 clear HO365
 clear HO368
 clear HO371
 clear HO375
 clear HO378
 clear HO381
 clear HO385
 clear HO389
 clear BK356
 clear BK382
 clear HB
 have HO362 := n0_
 have HO365 := n1_
 have HO368 := n2_
 have HO371 := n3_
 have HO375 := n4_
 have HO378 := n5_
 have HO381 := n6_
 have HO385 := n7_
 have HO389 := n8_
 have HO393 := n9_
 have HO396 := n10_
 have BK356 := n11_
 have BK382 := n12_
 have HB := n13_
 clear n0_ n1_ n2_ n3_ n4_ n5_ n6_ n7_ n8_ n9_ n10_ n11_ n12_ n13_
 (try clear hb)
 (try clear hb2)
 (try clear hk)
 (try clear hi)
 (try clear ho0)
 (try clear ho1)
 obtain ⟨Ao134, co134, eo134⟩ := Kd.R_slice HO393.out
 (first | subst eo134 | (injection eo134 with f1_ f2_ f3_; have f4_ := f1_.symm; have f5_ := f3_.symm; clear f1_ f2_ f3_; subst f4_; subst f5_))
 obtain ⟨Ao135, co135, eo135⟩ := Kd.S_slice HO396.out
 (first | subst eo135 | (injection eo135 with f1_ f2_ f3_; have f4_ := f1_.symm; have f5_ := f3_.symm; clear f1_ f2_ f3_; subst f4_; subst f5_))
 refine hK.out _ _ ⟨(blk_cell BK382.out 0).trans rfl, (blk_cell BK382.out 1).trans rfl, (blk_cell BK356.out 0).trans rfl, (blk_cell BK356.out 1).trans rfl⟩ (fun hHeld => ?_)
 clear hK K
 refine norm_ (a' := ?_) ?_ ?_
 rotate_left
 ·show Act.put _ (some 62) _ = _
  simp only [PUz]
  rfl
 refine one_ (i := 3) (N := some 63) (bz 5 15) rfl rfl (by kernel_rfl) (by decide) (fun K hK => ?_)
 refine goes_ Tryz.func16 (by kernel_rfl) rfl #[.agg #[.slice Ao120 t376.length co120, .slice Ao123 t379.length co123], .agg #[.slice Ao134 t391.length co134, .slice Ao135 t394.length co135]] (by rfl) rfl rfl MPz ?_
 with_reducible refine (laws_eqEntry.calls k _ _ t376 _ _ t379 _ _ t391 _ _ t394 true _ ?side1 ?side2 ?side3 ?side4 ?side5 ?side6 ?side7 ?side8 A62.out).mono ?_
 (case side1 => repeat (first | exact (Kd.R_reads' HO378.out).2.2 | (with_reducible refine Kd.C_alloc ?_ _) | (with_reducible refine Kd.C_drewN ?_ _) | (with_reducible refine Kd.C_drew ?_)))
 (case side2 => exact (Kd.R_reads' HO378.out).2.1)
 (case side3 => repeat (first | exact (Kd.S_reads' HO381.out).2.2 | (with_reducible refine Kd.C_alloc ?_ _) | (with_reducible refine Kd.C_drewN ?_ _) | (with_reducible refine Kd.C_drew ?_)))
 (case side4 => exact (Kd.S_reads' HO381.out).2.1)
 (case side5 => repeat (first | exact (Kd.R_reads' HO393.out).2.2 | (with_reducible refine Kd.C_alloc ?_ _) | (with_reducible refine Kd.C_drewN ?_ _) | (with_reducible refine Kd.C_drew ?_)))
 (case side6 => exact (Kd.R_reads' HO393.out).2.1)
 (case side7 => repeat (first | exact (Kd.S_reads' HO396.out).2.2 | (with_reducible refine Kd.C_alloc ?_ _) | (with_reducible refine Kd.C_drewN ?_ _) | (with_reducible refine Kd.C_drew ?_)))
 (case side8 => exact (Kd.S_reads' HO396.out).2.1)
 rintro e w136 ⟨rfl, hb⟩
 refine ⟨_, rfl, ?_⟩
 have n0_ := Aside0.mk (Kd.S_below (KSz HO362) hb)
 have n1_ := Aside0.mk (Kd.R_below (KRz HO365) hb)
 have n2_ := Aside0.mk (Kd.S_below (KSz HO368) hb)
 have n3_ := Aside0.mk (Kd.R_below (KRz HO371) hb)
 have n4_ := Aside0.mk (Kd.S_below (KSz HO375) hb)
 have n5_ := Aside0.mk (Kd.R_below (KRz HO378) hb)
 have n6_ := Aside0.mk (Kd.S_below (KSz HO381) hb)
 have n7_ := Aside0.mk (Kd.R_below (KRz HO385) hb)
 have n8_ := Aside0.mk (Kd.S_below (KSz HO389) hb)
 have n9_ := Aside0.mk (Kd.R_below (KRz HO393) hb)
 have n10_ := Aside0.mk (Kd.S_below (KSz HO396) hb)
 have n11_ := BBz BK356 hb
 have n12_ := BBz BK382 hb
 have n13_ := Aside0.mk (below_step (HBc GE356 GE382) hb)
 clear HO362
 clear HO365
 clear HO368
 clear HO371
 clear HO375
 clear HO378
 clear HO381
 clear HO385
 clear HO389
 clear HO393
 clear HO396
 clear BK356
 clear BK382
 clear HB
 have HO362 := n0_
 have HO365 := n1_
 have HO368 := n2_
 have HO371 := n3_
 have HO375 := n4_
 have HO378 := n5_
 have HO381 := n6_
 have HO385 := n7_
 have HO389 := n8_
 have HO393 := n9_
 have HO396 := n10_
 have BK356 := n11_
 have BK382 := n12_
 have HB := n13_
 clear n0_ n1_ n2_ n3_ n4_ n5_ n6_ n7_ n8_ n9_ n10_ n11_ n12_ n13_
 (try clear hb)
 (try clear hb2)
 (try clear hk)
 (try clear hi)
 refine hK.out _ _ ⟨(blk_cell BK382.out 0).trans rfl, (blk_cell BK382.out 1).trans rfl, (blk_cell BK356.out 0).trans rfl, (blk_cell BK356.out 1).trans rfl⟩ (fun hHeld => ?_)
 clear hK K
 refine norm_ (a' := ?_) ?_ ?_
 rotate_left
 ·show Act.put _ (some 63) _ = _
  simp only [PUz]
  rfl
 refine pure_ (i := 4) (N := some 64) (v := ?_) (a' := ?_) (bz 5 31) rfl rfl (by kernel_rfl) (fun _ _ _ h => h) (Or.inl ⟨by rfl, ?_⟩) ?_ ?_
 rotate_left
 ·intro w'
  go_simp
  with_reducible rfl
 rotate_left
 ·simp only [PUz]
  rfl
 refine done_ (by kernel_rfl) ?_
 try go_wp2_with (first | ((with_reducible refine gate_callee (f := 13) rfl ?_); refine goesL_ (some 67) rfl rfl Tryz.func13 (by kernel_rfl) rfl #[.slice A3 l3.length c3] rfl MPz ?_; (with_reducible refine (laws_toStringS.calls k _ _ l3 t398 _ ?side1 ?side2 A64.out).mono ?_); (case side1 => exact KCz (Kd.C_below HR3.out HB.out)); (case side2 => exact HC3.out); rintro e w137 ⟨v399, rfl, ho0, hb⟩; refine ⟨_, rfl, ?_⟩; have n0_ := Aside0.mk (Kd.S_elder' (KSz HO362) (Kd.R_base ho0) hb); have n1_ := Aside0.mk (Kd.R_below (KRz HO365) hb); have n2_ := Aside0.mk (Kd.S_elder' (KSz HO368) (Kd.R_base ho0) hb); have n3_ := Aside0.mk (Kd.R_elder' (KRz HO371) (Kd.R_base ho0) hb); have n4_ := Aside0.mk (Kd.S_elder' (KSz HO375) (Kd.R_base ho0) hb); have n5_ := Aside0.mk (Kd.R_below (KRz HO378) hb); have n6_ := Aside0.mk (Kd.S_elder' (KSz HO381) (Kd.R_base ho0) hb); have n7_ := Aside0.mk (Kd.R_elder' (KRz HO385) (Kd.R_base ho0) hb); have n8_ := Aside0.mk (Kd.S_elder' (KSz HO389) (Kd.R_base ho0) hb); have n9_ := Aside0.mk (Kd.R_below (KRz HO393) hb); have n10_ := Aside0.mk (Kd.S_elder' (KSz HO396) (Kd.R_base ho0) hb); have n11_ := Aside0.mk (Kd.R_lower (Kd.R_new' (Kd.R_new' ho0 (Kd.R_lt (KRz HO371))) (Kd.R_lt (KRz HO385))) (below_size (HBc GE356 GE382))); have n12_ := BBz BK356 hb; have n13_ := BBz BK382 hb; have n14_ := Aside0.mk (below_step (HBc GE356 GE382) hb); clear HO362; clear HO365; clear HO368; clear HO371; clear HO375; clear HO378; clear HO381; clear HO385; clear HO389; clear HO393; clear HO396; clear BK356; clear BK382; clear HB; have HO362 := n0_; have HO365 := n1_; have HO368 := n2_; have HO371 := n3_; have HO375 := n4_; have HO378 := n5_; have HO381 := n6_; have HO385 := n7_; have HO389 := n8_; have HO393 := n9_; have HO396 := n10_; have HO400 := n11_; have BK356 := n12_; have BK382 := n13_; have HB := n14_; clear n0_ n1_ n2_ n3_ n4_ n5_ n6_ n7_ n8_ n9_ n10_ n11_ n12_ n13_ n14_; (try clear hb); (try clear hb2); (try clear hk); (try clear hi); (try clear ho0); obtain ⟨Ao138, co138, eo138⟩ := Kd.R_slice HO400.out; subst eo138) | ((with_reducible refine gate_callee (f := 17) rfl ?_); refine goesL_ (some 68) rfl rfl Tryz.func17 (by kernel_rfl) rfl #[.slice Ao127 t383.length co127, .slice Ao138 t398.length co138] rfl MPz ?_; (with_reducible refine (laws_eqStringS.calls k _ _ t383 _ _ t398 false _ ?side1 ?side2 ?side3 ?side4 A65.out).mono ?_); (case side1 => repeat (first | exact (Kd.R_reads' HO385.out).2.2 | (with_reducible refine Kd.C_alloc ?_ _) | (with_reducible refine Kd.C_drewN ?_ _) | (with_reducible refine Kd.C_drew ?_))); (case side2 => exact (Kd.R_reads' HO385.out).2.1); (case side3 => repeat (first | exact (Kd.R_reads' HO400.out).2.2 | (with_reducible refine Kd.C_alloc ?_ _) | (with_reducible refine Kd.C_drewN ?_ _) | (with_reducible refine Kd.C_drew ?_))); (case side4 => exact (Kd.R_reads' HO400.out).2.1); rintro e w' ⟨rfl, ⟨nd, rfl⟩⟩; refine ⟨_, rfl, ?_⟩))
 go_ret
 exact ⟨EZa, HBc GE356 GE382⟩
def ok120 (x : S120) : Prop := x.f0.size ≤ 140737488351232 ∧ x.f1.size ≤ 140737488351232
def ok73 (x : S73) : Prop := x.f0.size ≤ 140737488351232 ∧ (x.f1.length * 32 ≤ 140737488351232 ∧ ∀ y_ ∈ x.f1, ok120 y_) ∧ (x.f2.length * 16 ≤ 140737488351232 ∧ ∀ y_ ∈ x.f2, y_.size ≤ 140737488351232) ∧ (Lit.int .i64 x.f3).wf = true ∧ True
def ok123 (x : S123) : Prop := x.f0.size ≤ 140737488351232 ∧ (x.f1.length * 16 ≤ 140737488351232 ∧ ∀ y_ ∈ x.f1, y_.size ≤ 140737488351232)
def ok26 (x : S26) : Prop := (x.f0.length * 32 ≤ 140737488351232 ∧ ∀ y_ ∈ x.f0, ok120 y_) ∧ (x.f1.length * 40 ≤ 140737488351232 ∧ ∀ y_ ∈ x.f1, ok123 y_)
def laws_FnExactMayChange.Pure : Prop := ∀ (l0 : List (S73)) (a1 : ByteArray) (l2_0 : List (S120)) (l2_1 : List (S123)) (l3 : List ByteArray), (l0.length * 80 ≤ 140737488351232 ∧ ∀ y_ ∈ l0, ok73 y_) → a1.size ≤ 140737488351232 → (l2_0.length * 32 ≤ 140737488351232 ∧ ∀ y_ ∈ l2_0, ok120 y_) → (l2_1.length * 40 ≤ 140737488351232 ∧ ∀ y_ ∈ l2_1, ok123 y_) → (l3.length * 16 ≤ 140737488351232 ∧ ∀ y_ ∈ l3, y_.size ≤ 140737488351232) → ∃ k, laws_FnExactMayChange.f k l0 a1 l2_0 l2_1 l3 = some true
end Go.Proofs.YtgkjlfimjnhbbaaGreatDoor.PFnExactMayChange
