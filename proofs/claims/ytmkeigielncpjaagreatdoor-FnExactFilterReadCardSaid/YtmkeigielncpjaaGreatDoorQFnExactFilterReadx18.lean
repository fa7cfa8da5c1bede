-- Laid by this session's own program out of the translation; Lean checks it.
import Derived.Test.YtmkeigielncpjaaGreatDoorQFnExactFilterReadx0
import Derived.Test.YtmkeigielncpjaaGreatDoorQFnExactFilterReadx8
import Derived.Test.YtmkeigielncpjaaGreatDoorQFnExactFilterReadx15
import Derived.Test.YtmkeigielncpjaaGreatDoorQFnExactFilterReadx16
import Derived.Test.YtmkeigielncpjaaGreatDoorQFnExactFilterReadx17
namespace Go.Proofs.YtmkeigielncpjaaGreatDoor.PFnExactFilterRead
open Go.RowKit Go.Proofs.YtmkeigielncpjaaGreatDoorW.PrintWords Go.Proofs.YtmkeigielncpjaaGreatDoorW.PrintLast Go.Proofs.YtmkeigielncpjaaGreatDoorW.PrintMore
attribute [local go_sem] max2_int min2_int max_two min_two max_three min_three max_four min_four   -- for this text's walks alone
set_option linter.unusedVariables false
set_option linter.unusedSimpArgs false
def Gu.f (k : Nat) (l0_0 : List (S64)) (a0_1 : Int) (a1 : Int) : Option (Int) := (Gv.f k l0_0 a1).bind fun t304 => (if t304 < 0 then (some (-1)) else (some t304))
theorem Gu.mono : ∀ a0 a1 a2 k, LeO (Gu.f k a0 a1 a2) (Gu.f (k + 1) a0 a1 a2) := by
 intro a0 a1 a2 k
 unfold Gu.f
 repeat' first
   | (with_reducible exact Gv.mono _ _ _)
   | (with_reducible exact LeO.refl _)
   | (with_reducible exact LeO.none _)
   | (with_reducible refine LeO.ite ?_ ?_)
   | (with_reducible refine LeO.bind ?_ (fun _ => ?_))
   | exact Gv.mono _ _ _
   | exact LeO.none _
   | refine LeO.ite ?_ ?_
   | refine LeO.bind ?_ (fun _ => ?_)
set_option maxHeartbeats 8000000 in
set_option maxRecDepth 100000 in
theorem Gu.calls (k : Nat) (A0_0 : Option Addr) (c0_0 : Nat) (l0_0 : List (S64)) (a0_1 : Int) (a1 : Int) (r : Int) (w : World) (hr0_0 : Kd.C k64 w A0_0 l0_0.length l0_0) (hc0_0 : l0_0.length ≤ c0_0) (h : Gu.f k l0_0 a0_1 a1 = some r) :
  Calls Tryz.prog 16 #[.agg #[.slice A0_0 l0_0.length c0_0, .int .i64 a0_1], .int .i64 a1] w fun e w' => e = .returned (.int .i64 r) ∧ Below w.heap.size w w' := by
 have hu30 := Tryz.underlying30
 have HR0_0 := Aside0.mk hr0_0
 have HC0_0 := Aside0.mk hc0_0
 clear hr0_0 hc0_0
 have HB := Aside0.mk (Below.refl w.heap.size w)
 have H : ((Gv.f k l0_0 a1).bind fun t304 => (if t304 < 0 then (some (-1)) else (some t304))) = some r := h
 clear h
 replace H := Option.bind_eq_some_iff.mp H
 obtain ⟨t304, A30, H⟩ := H
 replace H : (if t304 < 0 then (some (-1)) else (some t304)) = some r := H
 have A3 := Aside0.mk A30
 clear A30
 by_cases c4 : t304 < 0
 ·rw [if_pos c4] at H
  have c4b0 : decide (t304 < 0) = true := decide_eq_true c4
  clear c4
  obtain rfl := Option.some.inj H
  simp only [Option.some.injEq, Prod.mk.injEq] at H
  obtain ⟨rfl⟩ := H
  go_enter Tryz.func16, Tryz.ntmps16
  go_wp2_with (first | ((with_reducible refine gate_dst (N := 2) rfl ?_); refine box_event ?hg (N := 2) ?hd (cs := #[.slice A0_0 l0_0.length c0_0, .int .i64 a0_1]) (t := 30) ?hr ?_; (case hd => rfl); (case hg => rfl); (case hr => first | (go_simp; done) | (go_simp; rfl)); intro gb303 hg w5 hbox hb; have n0_ := Aside0.mk (below_step HBa hb); have n1_ := Aside0.mk (hbox); have n2_ := BSz w hg HBa; have n3_ := BSz w hg HBa; clear HB; have HB := n0_; have BK303 := n1_; have GW303 := n2_; have GE303 := n3_; clear n0_ n1_ n2_ n3_; clear hb hbox hg; have hcz6_0 := C1z BK303; have hcz6_1 := C2z BK303; have hfz6_0 := blk_frozen BK303.out 0; have hfz6_1 := blk_frozen BK303.out 1) | ((with_reducible refine gate_callee (f := 46) rfl ?_); refine goesL_ (some 8) rfl rfl Tryz.func46 (by kernel_rfl) rfl #[.slice A0_0 l0_0.length c0_0, .int .i64 a1] rfl MPz ?_; (with_reducible refine (Gv.calls k _ _ l0_0 a1 t304 _ ?side1 ?side2 A3.out).mono ?_); (case side1 => exact KCz (Kd.C_below HR0_0.out HB.out)); (case side2 => exact HC0_0.out); rintro e w7 ⟨rfl, hb⟩; refine ⟨_, rfl, ?_⟩; have n0_ := BBz BK303 hb; have n1_ := Aside0.mk (below_step (HBb GE303) hb); clear BK303; clear HB; have BK303 := n0_; have HB := n1_; clear n0_ n1_; (try clear hb); (try clear hb2); (try clear hk); (try clear hi)))
  go_ret
  exact ⟨EZa, HBb GE303⟩
 rw [if_neg c4] at H
 have c4b0 : decide (t304 < 0) = false := decide_eq_false c4
 clear c4
 obtain rfl := Option.some.inj H
 simp only [Option.some.injEq, Prod.mk.injEq] at H
 obtain ⟨rfl⟩ := H
 go_enter Tryz.func16, Tryz.ntmps16
 go_wp2_with (first | ((with_reducible refine gate_dst (N := 2) rfl ?_); refine box_event ?hg (N := 2) ?hd (cs := #[.slice A0_0 l0_0.length c0_0, .int .i64 a0_1]) (t := 30) ?hr ?_; (case hd => rfl); (case hg => rfl); (case hr => first | (go_simp; done) | (go_simp; rfl)); intro gb303 hg w8 hbox hb; have n0_ := Aside0.mk (below_step HBa hb); have n1_ := Aside0.mk (hbox); have n2_ := BSz w hg HBa; have n3_ := BSz w hg HBa; clear HB; have HB := n0_; have BK303 := n1_; have GW303 := n2_; have GE303 := n3_; clear n0_ n1_ n2_ n3_; clear hb hbox hg; have hcz9_0 := C1z BK303; have hcz9_1 := C2z BK303; have hfz9_0 := blk_frozen BK303.out 0; have hfz9_1 := blk_frozen BK303.out 1) | ((with_reducible refine gate_callee (f := 46) rfl ?_); refine goesL_ (some 8) rfl rfl Tryz.func46 (by kernel_rfl) rfl #[.slice A0_0 l0_0.length c0_0, .int .i64 a1] rfl MPz ?_; (with_reducible refine (Gv.calls k _ _ l0_0 a1 t304 _ ?side1 ?side2 A3.out).mono ?_); (case side1 => exact KCz (Kd.C_below HR0_0.out HB.out)); (case side2 => exact HC0_0.out); rintro e w10 ⟨rfl, hb⟩; refine ⟨_, rfl, ?_⟩; have n0_ := BBz BK303 hb; have n1_ := Aside0.mk (below_step (HBb GE303) hb); clear BK303; clear HB; have BK303 := n0_; have HB := n1_; clear n0_ n1_; (try clear hb); (try clear hb2); (try clear hk); (try clear hi)))
 go_ret
 exact ⟨EZa, HBb GE303⟩
def Gp.f (k : Nat) (a0 : ByteArray) : Option (Bool) := if (a0.size : Int) > 1048576 then (some true) else ((Gz.f k a0).bind fun bt305 => ((Ga.f k a0).bind fun bt310 => ((Gr.f k bt310.1 bt310.2 bt305.1 bt305.2).bind fun t315 => (if t315 = true then ((Gw.f k bt310.1 bt310.2 1).bind fun bt316 => ((Gu.f k bt316.2 bt310.2 1).bind fun t318 => (if t318 < 0 then (some false) else (if t318 = bt316.1 then ((Ga.f k a0).bind fun bt319 => ((Gr.f k bt319.1 bt319.2 bt305.1 bt305.2).bind fun t324 => (if t324 = true then ((Gu.f k bt316.2 bt310.2 1).bind fun t325 => (if t325 < 0 then (some false) else (if t325 = bt316.1 then (some true) else (some false)))) else (some false)))) else (some false))))) else (some false)))))
theorem Gp.mono : ∀ a0 k, LeO (Gp.f k a0) (Gp.f (k + 1) a0) := by
 intro a0 k
 unfold Gp.f
 repeat' first
   | (with_reducible exact Ga.mono _ _)
   | (with_reducible exact Gr.mono _ _ _ _ _)
   | (with_reducible exact Gu.mono _ _ _ _)
   | (with_reducible exact Gw.mono _ _ _ _)
   | (with_reducible exact Gz.mono _ _)
   | (with_reducible exact LeO.refl _)
   | (with_reducible exact LeO.none _)
   | (with_reducible refine LeO.ite ?_ ?_)
   | (with_reducible refine LeO.bind ?_ (fun _ => ?_))
   | exact Ga.mono _ _
   | exact Gr.mono _ _ _ _ _
   | exact Gu.mono _ _ _ _
   | exact Gw.mono _ _ _ _
   | exact Gz.mono _ _
   | exact LeO.none _
   | refine LeO.ite ?_ ?_
   | refine LeO.bind ?_ (fun _ => ?_)
set_option maxHeartbeats 8000000 in
set_option maxRecDepth 100000 in
theorem Gp.calls (k : Nat) (a0 : ByteArray) (r : Bool) (w : World) (h : Gp.f k a0 = some r) (hr_ : r = true := by rfl) :
  Calls Tryz.prog 4 #[.string a0] w fun e w' => e = .returned (.bool r) ∧ Below w.heap.size w w' := by
 have hu30 := Tryz.underlying30
 have HR_ := Aside0.mk hr_
 clear hr_
 have HB := Aside0.mk (Below.refl w.heap.size w)
 have H : (if (a0.size : Int) > 1048576 then (some true) else ((Gz.f k a0).bind fun bt305 => ((Ga.f k a0).bind fun bt310 => ((Gr.f k bt310.1 bt310.2 bt305.1 bt305.2).bind fun t315 => (if t315 = true then ((Gw.f k bt310.1 bt310.2 1).bind fun bt316 => ((Gu.f k bt316.2 bt310.2 1).bind fun t318 => (if t318 < 0 then (some false) else (if t318 = bt316.1 then ((Ga.f k a0).bind fun bt319 => ((Gr.f k bt319.1 bt319.2 bt305.1 bt305.2).bind fun t324 => (if t324 = true then ((Gu.f k bt316.2 bt310.2 1).bind fun t325 => (if t325 < 0 then (some false) else (if t325 = bt316.1 then (some true) else (some false)))) else (some false)))) else (some false))))) else (some false)))))) = some r := h
 clear h
 by_cases c2 : (a0.size : Int) > 1048576
 ·rw [if_pos c2] at H
  have c2b0 : decide (1048576 < (a0.size : Int)) = true := decide_eq_true c2
  have c2b1 : decide (1048576 < a0.size) = true := decide_eq_true (by omega)
  clear c2
  obtain rfl := Option.some.inj H
  simp only [Option.some.injEq, Prod.mk.injEq] at H
  obtain ⟨rfl⟩ := H
  go_enter Tryz.func4, Tryz.ntmps4
  go_wp2
  go_ret
  exact ⟨EZa, HBa⟩
 rw [if_neg c2] at H
 have c2b0 : decide (1048576 < (a0.size : Int)) = false := decide_eq_false c2
 have c2b1 : decide (1048576 < a0.size) = false := decide_eq_false (by omega)
 clear c2
 replace H := Option.bind_eq_some_iff.mp H
 obtain ⟨⟨t305, t308⟩, A30, H⟩ := H
 replace H : ((Ga.f k a0).bind fun bt310 => ((Gr.f k bt310.1 bt310.2 t305 t308).bind fun t315 => (if t315 = true then ((Gw.f k bt310.1 bt310.2 1).bind fun bt316 => ((Gu.f k bt316.2 bt310.2 1).bind fun t318 => (if t318 < 0 then (some false) else (if t318 = bt316.1 then ((Ga.f k a0).bind fun bt319 => ((Gr.f k bt319.1 bt319.2 t305 t308).bind fun t324 => (if t324 = true then ((Gu.f k bt316.2 bt310.2 1).bind fun t325 => (if t325 < 0 then (some false) else (if t325 = bt316.1 then (some true) else (some false)))) else (some false)))) else (some false))))) else (some false)))) = some r := H
 have A3 := Aside0.mk A30
 clear A30
 replace H := Option.bind_eq_some_iff.mp H
 obtain ⟨⟨t310, t313⟩, A40, H⟩ := H
 replace H : ((Gr.f k t310 t313 t305 t308).bind fun t315 => (if t315 = true then ((Gw.f k t310 t313 1).bind fun bt316 => ((Gu.f k bt316.2 t313 1).bind fun t318 => (if t318 < 0 then (some false) else (if t318 = bt316.1 then ((Ga.f k a0).bind fun bt319 => ((Gr.f k bt319.1 bt319.2 t305 t308).bind fun t324 => (if t324 = true then ((Gu.f k bt316.2 t313 1).bind fun t325 => (if t325 < 0 then (some false) else (if t325 = bt316.1 then (some true) else (some false)))) else (some false)))) else (some false))))) else (some false))) = some r := H
 have A4 := Aside0.mk A40
 clear A40
 replace H := Option.bind_eq_some_iff.mp H
 obtain ⟨t315, A50, H⟩ := H
 replace H : (if t315 = true then ((Gw.f k t310 t313 1).bind fun bt316 => ((Gu.f k bt316.2 t313 1).bind fun t318 => (if t318 < 0 then (some false) else (if t318 = bt316.1 then ((Ga.f k a0).bind fun bt319 => ((Gr.f k bt319.1 bt319.2 t305 t308).bind fun t324 => (if t324 = true then ((Gu.f k bt316.2 t313 1).bind fun t325 => (if t325 < 0 then (some false) else (if t325 = bt316.1 then (some true) else (some false)))) else (some false)))) else (some false))))) else (some false)) = some r := H
 have A5 := Aside0.mk A50
 clear A50
 by_cases c6 : t315 = true
 rotate_left
 ·replace c6 := Bool.eq_false_iff.mpr c6
  subst c6
  have H1 : (some false) = some r := by rw [if_neg (show ¬ (false = true) by decide)] at H; exact H
  clear H
  have H := H1
  clear H1
  obtain rfl := Option.some.inj H
  exact absurd HR_.out (by decide)
 subst c6
 have H1 : ((Gw.f k t310 t313 1).bind fun bt316 => ((Gu.f k bt316.2 t313 1).bind fun t318 => (if t318 < 0 then (some false) else (if t318 = bt316.1 then ((Ga.f k a0).bind fun bt319 => ((Gr.f k bt319.1 bt319.2 t305 t308).bind fun t324 => (if t324 = true then ((Gu.f k bt316.2 t313 1).bind fun t325 => (if t325 < 0 then (some false) else (if t325 = bt316.1 then (some true) else (some false)))) else (some false)))) else (some false))))) = some r := by rw [if_pos rfl] at H; exact H
 clear H
 have H := H1
 clear H1
 replace H := Option.bind_eq_some_iff.mp H
 obtain ⟨⟨t316, t317⟩, A70, H⟩ := H
 replace H : ((Gu.f k t317 t313 1).bind fun t318 => (if t318 < 0 then (some false) else (if t318 = t316 then ((Ga.f k a0).bind fun bt319 => ((Gr.f k bt319.1 bt319.2 t305 t308).bind fun t324 => (if t324 = true then ((Gu.f k t317 t313 1).bind fun t325 => (if t325 < 0 then (some false) else (if t325 = t316 then (some true) else (some false)))) else (some false)))) else (some false)))) = some r := H
 have A7 := Aside0.mk A70
 clear A70
 replace H := Option.bind_eq_some_iff.mp H
 obtain ⟨t318, A80, H⟩ := H
 replace H : (if t318 < 0 then (some false) else (if t318 = t316 then ((Ga.f k a0).bind fun bt319 => ((Gr.f k bt319.1 bt319.2 t305 t308).bind fun t324 => (if t324 = true then ((Gu.f k t317 t313 1).bind fun t325 => (if t325 < 0 then (some false) else (if t325 = t316 then (some true) else (some false)))) else (some false)))) else (some false))) = some r := H
 have A8 := Aside0.mk A80
 clear A80
 by_cases c9 : t318 < 0
 ·rw [if_pos c9] at H
  have c9b0 : decide (t318 < 0) = true := decide_eq_true c9
  clear c9
  obtain rfl := Option.some.inj H
  exact absurd HR_.out (by decide)
 rw [if_neg c9] at H
 have c9b0 : decide (t318 < 0) = false := decide_eq_false c9
 clear c9
 by_cases c10 : t318 = t316
 rotate_left
 ·rw [if_neg c10] at H
  have c10b0 : (t318 == t316) = false := beq_eq_false_iff_ne.mpr c10
  have c10b1 : (t318 != t316) = true := bne_iff_ne.mpr c10
  obtain rfl := Option.some.inj H
  exact absurd HR_.out (by decide)
 rw [if_pos c10] at H
 have c10b0 : (t318 == t316) = true := beq_iff_eq.mpr c10
 have c10b1 : (t318 != t316) = false := bne_eq_false_iff_eq.mpr c10
 clear c10
 replace H := Option.bind_eq_some_iff.mp H
 obtain ⟨⟨t319, t322⟩, A110, H⟩ := H
 replace H : ((Gr.f k t319 t322 t305 t308).bind fun t324 => (if t324 = true then ((Gu.f k t317 t313 1).bind fun t325 => (if t325 < 0 then (some false) else (if t325 = t316 then (some true) else (some false)))) else (some false))) = some r := H
 have A11 := Aside0.mk A110
 clear A110
 replace H := Option.bind_eq_some_iff.mp H
 obtain ⟨t324, A120, H⟩ := H
 replace H : (if t324 = true then ((Gu.f k t317 t313 1).bind fun t325 => (if t325 < 0 then (some false) else (if t325 = t316 then (some true) else (some false)))) else (some false)) = some r := H
 have A12 := Aside0.mk A120
 clear A120
 by_cases c13 : t324 = true
 rotate_left
 ·replace c13 := Bool.eq_false_iff.mpr c13
  subst c13
  have H1 : (some false) = some r := by rw [if_neg (show ¬ (false = true) by decide)] at H; exact H
  clear H
  have H := H1
  clear H1
  obtain rfl := Option.some.inj H
  exact absurd HR_.out (by decide)
 subst c13
 have H1 : ((Gu.f k t317 t313 1).bind fun t325 => (if t325 < 0 then (some false) else (if t325 = t316 then (some true) else (some false)))) = some r := by rw [if_pos rfl] at H; exact H
 clear H
 have H := H1
 clear H1
 replace H := Option.bind_eq_some_iff.mp H
 obtain ⟨t325, A140, H⟩ := H
 replace H : (if t325 < 0 then (some false) else (if t325 = t316 then (some true) else (some false))) = some r := H
 have A14 := Aside0.mk A140
 clear A140
 by_cases c15 : t325 < 0
 ·rw [if_pos c15] at H
  have c15b0 : decide (t325 < 0) = true := decide_eq_true c15
  clear c15
  obtain rfl := Option.some.inj H
  exact absurd HR_.out (by decide)
 rw [if_neg c15] at H
 have c15b0 : decide (t325 < 0) = false := decide_eq_false c15
 clear c15
 by_cases c16 : t325 = t316
 ·rw [if_pos c16] at H
  have c16b0 : (t325 == t316) = true := beq_iff_eq.mpr c16
  have c16b1 : (t325 != t316) = false := bne_eq_false_iff_eq.mpr c16
  clear c16
  obtain rfl := Option.some.inj H
  simp only [Option.some.injEq, Prod.mk.injEq] at H
  obtain ⟨rfl⟩ := H
  go_enter Tryz.func4, Tryz.ntmps4
  go_wp2_with (first | ((with_reducible refine gate_callee (f := 12) rfl ?_); refine goesL_ (some 12) rfl rfl Tryz.func12 (by kernel_rfl) rfl #[.string a0] rfl MPz ?_; (with_reducible refine (Gz.calls k a0 t305 t308 _ A3.out).mono ?_); rintro e w17 ⟨v306, rfl, ho0, hb⟩; refine ⟨_, rfl, ?_⟩; have n0_ := Aside0.mk (Kd.R_lower ho0 (below_size HBa)); have n1_ := Aside0.mk (below_step HBa hb); clear HB; have HO307 := n0_; have HB := n1_; clear n0_ n1_; (try clear hb); (try clear hb2); (try clear hk); (try clear hi); (try clear ho0)) | ((with_reducible refine gate_dst (N := 3) rfl ?_); refine box_event ?hg (N := 3) ?hd (cs := #[.slice none 0 0, .int .i64 0]) (t := 30) ?hr ?_; (case hd => rfl); (case hg => rfl); (case hr => first | (go_simp; done) | (go_simp; rfl)); intro gb309 hg w18 hbox hb; have n0_ := Aside0.mk (Kd.R_below (KRz HO307) hb); have n1_ := Aside0.mk (below_step HBa hb); have n2_ := Aside0.mk (hbox); have n3_ := BSz w hg HBa; have n4_ := BSz w hg HBa; clear HO307; clear HB; have HO307 := n0_; have HB := n1_; have BK309 := n2_; have GW309 := n3_; have GE309 := n4_; clear n0_ n1_ n2_ n3_ n4_; clear hb hbox hg; obtain ⟨Ao19, co19, eo19⟩ := Kd.R_slice HO307.out; subst eo19; have hcz20_0 := C1z BK309; have hcz20_1 := C2z BK309; have hfz20_0 := blk_frozen BK309.out 0; have hfz20_1 := blk_frozen BK309.out 1) | ((with_reducible refine gate_callee (f := 13) rfl ?_); refine goesL_ (some 14) rfl rfl Tryz.func13 (by kernel_rfl) rfl #[.string a0] rfl MPz ?_; (with_reducible refine (Ga.calls k a0 t310 t313 _ A4.out).mono ?_); rintro e w21 ⟨v311, rfl, ho0, hb⟩; refine ⟨_, rfl, ?_⟩; have n0_ := Aside0.mk (Kd.R_elder' (by (with_reducible repeat (first | apply Kd.R_alloc | apply Kd.R_drewN | apply Kd.R_drew)); exact (Kd.R_mono (Kd.R_far (p := ⟨gb309, 1, none⟩) (Kd.R_far (p := ⟨gb309, 0, none⟩) (Kd.R_types HO307.out BK309.out (by decide)) (fun _ hk => hk.2) (.slice Ao19 t305.length co19)) (fun _ hk => hk.2) (.int .i64 t308)) (fun _ h_ => h_.1))) (Kd.R_base ho0) hb); have n1_ := Aside0.mk (Kd.R_lower (Kd.R_new' ho0 (Kd.R_lt (by (with_reducible repeat (first | apply Kd.R_alloc | apply Kd.R_drewN | apply Kd.R_drew)); exact (Kd.R_mono (Kd.R_far (p := ⟨gb309, 1, none⟩) (Kd.R_far (p := ⟨gb309, 0, none⟩) (Kd.R_types HO307.out BK309.out (by decide)) (fun _ hk => hk.2) (.slice Ao19 t305.length co19)) (fun _ hk => hk.2) (.int .i64 t308)) (fun _ h_ => h_.1))))) (below_size (HBb GE309))); have n2_ := Aside0.mk (blk_below (g := gb309) (o := .cells #[.slice Ao19 t305.length co19, .int .i64 t308] 30 (0, 0)) (by (with_reducible repeat (first | refine blk_drewN ?_ _ | refine blk_drew ?_ | refine blk_alloc ?_ _)); refine blk_put (cs := #[.slice Ao19 t305.length co19, .int .i64 0]) ?_ 1 _ rfl; (with_reducible repeat (first | refine blk_drewN ?_ _ | refine blk_drew ?_ | refine blk_alloc ?_ _)); refine blk_put (cs := #[.slice none 0 0, .int .i64 0]) ?_ 0 _ rfl; (with_reducible repeat (first | refine blk_drewN ?_ _ | refine blk_drew ?_ | refine blk_alloc ?_ _)); exact BK309.out) hb); have n3_ := Aside0.mk (below_step (HBb GE309) hb); clear HO307; clear BK309; clear HB; have HO307 := n0_; have HO312 := n1_; have BK309 := n2_; have HB := n3_; clear n0_ n1_ n2_ n3_; (try clear hb); (try clear hb2); (try clear hk); (try clear hi); (try clear ho0)) | ((with_reducible refine gate_dst (N := 4) rfl ?_); refine box_event ?hg (N := 4) ?hd (cs := #[.slice none 0 0, .int .i64 0]) (t := 30) ?hr ?_; (case hd => rfl); (case hg => rfl); (case hr => first | (go_simp; done) | (go_simp; rfl)); intro gb314 hg w22 hbox hb; have n0_ := Aside0.mk (Kd.R_below (KRz HO307) hb); have n1_ := Aside0.mk (Kd.R_below (KRz HO312) hb); have n2_ := BBz BK309 hb; have n3_ := Aside0.mk (below_step (HBb GE309) hb); have n4_ := Aside0.mk (hbox); have n5_ := BSz w hg (HBb GE309); have n6_ := BSz w hg (HBb GE309); have n7_ := BNz BK309 hg; have n8_ := BMz BK309 hg; clear HO307; clear HO312; clear BK309; clear HB; have HO307 := n0_; have HO312 := n1_; have BK309 := n2_; have HB := n3_; have BK314 := n4_; have GW314 := n5_; have GE314 := n6_; have NB309_314 := n7_; have NB314_309 := n8_; clear n0_ n1_ n2_ n3_ n4_ n5_ n6_ n7_ n8_; clear hb hbox hg; obtain ⟨Ao23, co23, eo23⟩ := Kd.R_slice HO312.out; subst eo23; have hnb24 := NB314_309.out; have hnc24 := NB309_314.out; have hcz25_0 := C1z BK314; have hcz25_1 := C2z BK314; have hfz25_0 := blk_frozen BK314.out 0; have hfz25_1 := blk_frozen BK314.out 1; have hcz26_0 := C1z BK309; have hcz26_1 := C2z BK309; have hfz26_0 := blk_frozen BK309.out 0; have hfz26_1 := blk_frozen BK309.out 1) | ((with_reducible refine gate_callee (f := 14) rfl ?_); refine goesL_ (some 17) rfl rfl Tryz.func14 (by kernel_rfl) rfl #[.agg #[.slice Ao23 t310.length co23, .int .i64 t313], .agg #[.slice Ao19 t305.length co19, .int .i64 t308]] rfl MPz ?_; (with_reducible refine (Gr.calls k _ _ t310 t313 _ _ t305 t308 true _ ?side1 ?side2 ?side3 ?side4 A5.out).mono ?_); (case side1 => refine (Kd.R_reads' (e := 64) (base := w.heap.size) (ok := fun k_ => (True ∧ some k_ ≠ (.slice Ao19 t305.length co19 : Value).ownBlock)) (n := t310.length) (c := co23) ?_).2.2; exact (by (with_reducible repeat (first | apply Kd.R_alloc | apply Kd.R_drewN | apply Kd.R_drew)); exact (Kd.R_mono (Kd.R_far (p := ⟨gb314, 1, none⟩) (Kd.R_far (p := ⟨gb314, 0, none⟩) (Kd.R_types HO312.out BK314.out (by decide)) (fun _ hk => hk.2) (.slice Ao23 t310.length co23)) (fun _ hk => hk.2) (.int .i64 t313)) (fun _ h_ => h_.1)))); (case side2 => exact (Kd.R_reads' HO312.out).2.1); (case side3 => refine (Kd.R_reads' (e := 64) (base := w.heap.size) (ok := fun k_ => (True ∧ some k_ ≠ (.slice Ao23 t310.length co23 : Value).ownBlock)) (n := t305.length) (c := co19) ?_).2.2; exact (by (with_reducible repeat (first | apply Kd.R_alloc | apply Kd.R_drewN | apply Kd.R_drew)); exact (Kd.R_mono (Kd.R_far (p := ⟨gb314, 1, none⟩) (Kd.R_far (p := ⟨gb314, 0, none⟩) (Kd.R_types HO307.out BK314.out (by decide)) (fun _ hk => hk.2) (.slice Ao23 t310.length co23)) (fun _ hk => hk.2) (.int .i64 t313)) (fun _ h_ => h_.1)))); (case side4 => exact (Kd.R_reads' HO307.out).2.1); rintro e w27 ⟨rfl, hb⟩; refine ⟨_, rfl, ?_⟩; have n0_ := Aside0.mk (Kd.R_below (by (with_reducible repeat (first | apply Kd.R_alloc | apply Kd.R_drewN | apply Kd.R_drew)); exact (Kd.R_mono (Kd.R_far (p := ⟨gb314, 1, none⟩) (Kd.R_far (p := ⟨gb314, 0, none⟩) (Kd.R_types HO307.out BK314.out (by decide)) (fun _ hk => hk.2) (.slice Ao23 t310.length co23)) (fun _ hk => hk.2) (.int .i64 t313)) (fun _ h_ => h_.1))) hb); have n1_ := Aside0.mk (Kd.R_below (by (with_reducible repeat (first | apply Kd.R_alloc | apply Kd.R_drewN | apply Kd.R_drew)); exact (Kd.R_mono (Kd.R_far (p := ⟨gb314, 1, none⟩) (Kd.R_far (p := ⟨gb314, 0, none⟩) (Kd.R_types HO312.out BK314.out (by decide)) (fun _ hk => hk.2) (.slice Ao23 t310.length co23)) (fun _ hk => hk.2) (.int .i64 t313)) (fun _ h_ => h_.1))) hb); have n2_ := Aside0.mk (blk_below (g := gb309) (o := .cells #[.slice Ao19 t305.length co19, .int .i64 t308] 30 (0, 0)) (by (with_reducible repeat (first | refine blk_drewN ?_ _ | refine blk_drew ?_ | refine blk_alloc ?_ _)); refine blk_far ?_ NB309_314.out _; (with_reducible repeat (first | refine blk_drewN ?_ _ | refine blk_drew ?_ | refine blk_alloc ?_ _)); refine blk_far ?_ NB309_314.out _; (with_reducible repeat (first | refine blk_drewN ?_ _ | refine blk_drew ?_ | refine blk_alloc ?_ _)); exact BK309.out) hb); have n3_ := Aside0.mk (blk_below (g := gb314) (o := .cells #[.slice Ao23 t310.length co23, .int .i64 t313] 30 (0, 0)) (by (with_reducible repeat (first | refine blk_drewN ?_ _ | refine blk_drew ?_ | refine blk_alloc ?_ _)); refine blk_put (cs := #[.slice Ao23 t310.length co23, .int .i64 0]) ?_ 1 _ rfl; (with_reducible repeat (first | refine blk_drewN ?_ _ | refine blk_drew ?_ | refine blk_alloc ?_ _)); refine blk_put (cs := #[.slice none 0 0, .int .i64 0]) ?_ 0 _ rfl; (with_reducible repeat (first | refine blk_drewN ?_ _ | refine blk_drew ?_ | refine blk_alloc ?_ _)); exact BK314.out) hb); have n4_ := Aside0.mk (below_step (HBc GE309 GE314) hb); clear HO307; clear HO312; clear BK309; clear BK314; clear HB; have HO307 := n0_; have HO312 := n1_; have BK309 := n2_; have BK314 := n3_; have HB := n4_; clear n0_ n1_ n2_ n3_ n4_; (try clear hb); (try clear hb2); (try clear hk); (try clear hi); have hcz28_0 := C1z BK314; have hcz28_1 := C2z BK314; have hfz28_0 := blk_frozen BK314.out 0; have hfz28_1 := blk_frozen BK314.out 1) | ((with_reducible refine gate_callee (f := 15) rfl ?_); refine goesL_ (some 21) rfl rfl Tryz.func15 (by kernel_rfl) rfl #[.agg #[.slice Ao23 t310.length co23, .int .i64 t313], .int .i64 1] rfl MPz ?_; (with_reducible refine (Gw.calls k (fun k_ => some k_ = (.slice Ao23 t310.length co23 : Value).ownBlock) (.slice Ao23 t310.length co23) t310 t313 1 t316 t317 w _ ?side1 ?side2 A7.out).mono ?_); (case side1 => repeat (first | (with_reducible first | exact HB.out | apply below_alloc | apply pw_below_drewN | apply below_drew1 | refine below_set ?_ GE309.out | refine below_set ?_ GE314.out) | exact HB.out)); (case side2 => exact Kd.R_tight rfl HO312.out); rintro e w29 ⟨rfl, hy0, hb, hkp⟩; refine ⟨_, rfl, ?_⟩; have n0_ := Aside0.mk (Kd.R_mono (ok' := fun k_ => some k_ ≠ (.slice Ao23 t310.length co23 : Value).ownBlock) (Kd.R_keptB (HO307.out) hkp (fun k_ hk_ hs_ => (hk_.2) hs_)) (fun k_ hk_ => hk_.1.2)); have n1_ := Aside0.mk (blk_kept (BKz BK309) hkp (fun hs_ => (fun e_ => (Kd.R_ne HO312.out BK309.out (by decide)) e_) hs_)); have n2_ := Aside0.mk (Kd.R_reok rfl hy0 (fun k_ e_ => HO312.out.1 k_ e_)); have n3_ := Aside0.mk (blk_kept (BKz BK314) hkp (fun hs_ => (fun e_ => (Kd.R_ne HO312.out BK314.out (by decide)) e_) hs_)); have n4_ := Aside0.mk (hb); clear HO307; clear BK309; clear HO312; clear BK314; clear HB; have HO307 := n0_; have BK309 := n1_; have HO312 := n2_; have BK314 := n3_; have HB := n4_; clear n0_ n1_ n2_ n3_ n4_; (try clear hb); (try clear hkp); (try clear hy0); have hcz30_0 := C1z BK314; have hcz30_1 := C2z BK314; have hfz30_0 := blk_frozen BK314.out 0; have hfz30_1 := blk_frozen BK314.out 1) | ((with_reducible refine gate_callee (f := 16) rfl ?_); refine goesL_ (some 24) rfl rfl Tryz.func16 (by kernel_rfl) rfl #[.agg #[.slice Ao23 t317.length co23, .int .i64 t313], .int .i64 1] rfl (by (try simp only [List.map_toArray, List.map_cons, List.map_nil]); first | done | (rw [show t317.length = t310.length from (Kd.R_reads' HO312.out).1.symm] <;> rfl) | rfl | (simp only [List.length_drop, List.length_take]; rfl)) ?_; (with_reducible refine (Gu.calls k _ _ t317 t313 1 t318 _ ?side1 ?side2 A8.out).mono ?_); (case side1 => repeat (first | exact (Kd.R_reads' HO312.out).2.2 | (with_reducible refine Kd.C_alloc ?_ _) | (with_reducible refine Kd.C_drewN ?_ _) | (with_reducible refine Kd.C_drew ?_))); (case side2 => rw [show t317.length = t310.length from (Kd.R_reads' HO312.out).1.symm]; exact (Kd.R_reads' HO312.out).2.1); rintro e w31 ⟨rfl, hb⟩; refine ⟨_, rfl, ?_⟩; have n0_ := Aside0.mk (Kd.R_below (KRz HO307) hb); have n1_ := Aside0.mk (Kd.R_below (KRz HO312) hb); have n2_ := BBz BK309 hb; have n3_ := BBz BK314 hb; have n4_ := Aside0.mk (below_step (HBc GE309 GE314) hb); clear HO307; clear HO312; clear BK309; clear BK314; clear HB; have HO307 := n0_; have HO312 := n1_; have BK309 := n2_; have BK314 := n3_; have HB := n4_; clear n0_ n1_ n2_ n3_ n4_; (try clear hb); (try clear hb2); (try clear hk); (try clear hi)) | ((with_reducible refine gate_callee (f := 13) rfl ?_); refine goesL_ (some 31) rfl rfl Tryz.func13 (by kernel_rfl) rfl #[.string a0] rfl MPz ?_; (with_reducible refine (Ga.calls k a0 t319 t322 _ A11.out).mono ?_); rintro e w32 ⟨v320, rfl, ho0, hb⟩; refine ⟨_, rfl, ?_⟩; have n0_ := Aside0.mk (Kd.R_elder' (KRz HO307) (Kd.R_base ho0) hb); have n1_ := Aside0.mk (Kd.R_elder' (KRz HO312) (Kd.R_base ho0) hb); have n2_ := Aside0.mk (Kd.R_lower (Kd.R_new' (Kd.R_new' ho0 (Kd.R_lt (KRz HO307))) (Kd.R_lt (KRz HO312))) (below_size (HBc GE309 GE314))); have n3_ := BBz BK309 hb; have n4_ := BBz BK314 hb; have n5_ := Aside0.mk (below_step (HBc GE309 GE314) hb); clear HO307; clear HO312; clear BK309; clear BK314; clear HB; have HO307 := n0_; have HO312 := n1_; have HO321 := n2_; have BK309 := n3_; have BK314 := n4_; have HB := n5_; clear n0_ n1_ n2_ n3_ n4_ n5_; (try clear hb); (try clear hb2); (try clear hk); (try clear hi); (try clear ho0)) | ((with_reducible refine gate_dst (N := 7) rfl ?_); refine box_event ?hg (N := 7) ?hd (cs := #[.slice none 0 0, .int .i64 0]) (t := 30) ?hr ?_; (case hd => rfl); (case hg => rfl); (case hr => first | (go_simp; done) | (go_simp; rfl)); intro gb323 hg w33 hbox hb; have n0_ := Aside0.mk (Kd.R_below (KRz HO307) hb); have n1_ := Aside0.mk (Kd.R_below (KRz HO312) hb); have n2_ := Aside0.mk (Kd.R_below (KRz HO321) hb); have n3_ := BBz BK309 hb; have n4_ := BBz BK314 hb; have n5_ := Aside0.mk (below_step (HBc GE309 GE314) hb); have n6_ := Aside0.mk (hbox); have n7_ := BSz w hg (HBc GE309 GE314); have n8_ := BSz w hg (HBc GE309 GE314); have n9_ := BNz BK309 hg; have n10_ := BMz BK309 hg; have n11_ := BNz BK314 hg; have n12_ := BMz BK314 hg; clear HO307; clear HO312; clear HO321; clear BK309; clear BK314; clear HB; have HO307 := n0_; have HO312 := n1_; have HO321 := n2_; have BK309 := n3_; have BK314 := n4_; have HB := n5_; have BK323 := n6_; have GW323 := n7_; have GE323 := n8_; have NB309_323 := n9_; have NB323_309 := n10_; have NB314_323 := n11_; have NB323_314 := n12_; clear n0_ n1_ n2_ n3_ n4_ n5_ n6_ n7_ n8_ n9_ n10_ n11_ n12_; clear hb hbox hg; obtain ⟨Ao34, co34, eo34⟩ := Kd.R_slice HO321.out; subst eo34; have hnb35 := NB323_309.out; have hnc35 := NB309_323.out; have hnb36 := NB323_314.out; have hnc36 := NB314_323.out; have hcz37_0 := C1z BK323; have hcz37_1 := C2z BK323; have hfz37_0 := blk_frozen BK323.out 0; have hfz37_1 := blk_frozen BK323.out 1; have hcz38_0 := C1z BK309; have hcz38_1 := C2z BK309; have hfz38_0 := blk_frozen BK309.out 0; have hfz38_1 := blk_frozen BK309.out 1) | ((with_reducible refine gate_callee (f := 14) rfl ?_); refine goesL_ (some 34) rfl rfl Tryz.func14 (by kernel_rfl) rfl #[.agg #[.slice Ao34 t319.length co34, .int .i64 t322], .agg #[.slice Ao19 t305.length co19, .int .i64 t308]] rfl MPz ?_; (with_reducible refine (Gr.calls k _ _ t319 t322 _ _ t305 t308 true _ ?side1 ?side2 ?side3 ?side4 A12.out).mono ?_); (case side1 => refine (Kd.R_reads' (e := 64) (base := w.heap.size) (ok := fun k_ => ((True ∧ some k_ ≠ (.slice Ao19 t305.length co19 : Value).ownBlock) ∧ some k_ ≠ (.slice Ao23 t310.length co23 : Value).ownBlock)) (n := t319.length) (c := co34) ?_).2.2; exact (by (with_reducible repeat (first | apply Kd.R_alloc | apply Kd.R_drewN | apply Kd.R_drew)); exact (Kd.R_mono (Kd.R_far (p := ⟨gb323, 1, none⟩) (Kd.R_far (p := ⟨gb323, 0, none⟩) (Kd.R_types HO321.out BK323.out (by decide)) (fun _ hk => hk.2) (.slice Ao34 t319.length co34)) (fun _ hk => hk.2) (.int .i64 t322)) (fun _ h_ => h_.1)))); (case side2 => exact (Kd.R_reads' HO321.out).2.1); (case side3 => refine (Kd.R_reads' (e := 64) (base := w.heap.size) (ok := fun k_ => (some k_ ≠ (.slice Ao23 t310.length co23 : Value).ownBlock ∧ some k_ ≠ (.slice Ao34 t319.length co34 : Value).ownBlock)) (n := t305.length) (c := co19) ?_).2.2; exact (by (with_reducible repeat (first | apply Kd.R_alloc | apply Kd.R_drewN | apply Kd.R_drew)); exact (Kd.R_mono (Kd.R_far (p := ⟨gb323, 1, none⟩) (Kd.R_far (p := ⟨gb323, 0, none⟩) (Kd.R_types HO307.out BK323.out (by decide)) (fun _ hk => hk.2) (.slice Ao34 t319.length co34)) (fun _ hk => hk.2) (.int .i64 t322)) (fun _ h_ => h_.1)))); (case side4 => exact (Kd.R_reads' HO307.out).2.1); rintro e w39 ⟨rfl, hb⟩; refine ⟨_, rfl, ?_⟩; have n0_ := Aside0.mk (Kd.R_below (by (with_reducible repeat (first | apply Kd.R_alloc | apply Kd.R_drewN | apply Kd.R_drew)); exact (Kd.R_mono (Kd.R_far (p := ⟨gb323, 1, none⟩) (Kd.R_far (p := ⟨gb323, 0, none⟩) (Kd.R_types HO307.out BK323.out (by decide)) (fun _ hk => hk.2) (.slice Ao34 t319.length co34)) (fun _ hk => hk.2) (.int .i64 t322)) (fun _ h_ => h_.1))) hb); have n1_ := Aside0.mk (Kd.R_below (by (with_reducible repeat (first | apply Kd.R_alloc | apply Kd.R_drewN | apply Kd.R_drew)); exact (Kd.R_mono (Kd.R_far (p := ⟨gb323, 1, none⟩) (Kd.R_far (p := ⟨gb323, 0, none⟩) (Kd.R_types HO312.out BK323.out (by decide)) (fun _ hk => hk.2) (.slice Ao34 t319.length co34)) (fun _ hk => hk.2) (.int .i64 t322)) (fun _ h_ => h_.1))) hb); have n2_ := Aside0.mk (Kd.R_below (by (with_reducible repeat (first | apply Kd.R_alloc | apply Kd.R_drewN | apply Kd.R_drew)); exact (Kd.R_mono (Kd.R_far (p := ⟨gb323, 1, none⟩) (Kd.R_far (p := ⟨gb323, 0, none⟩) (Kd.R_types HO321.out BK323.out (by decide)) (fun _ hk => hk.2) (.slice Ao34 t319.length co34)) (fun _ hk => hk.2) (.int .i64 t322)) (fun _ h_ => h_.1))) hb); have n3_ := Aside0.mk (blk_below (g := gb309) (o := .cells #[.slice Ao19 t305.length co19, .int .i64 t308] 30 (0, 0)) (by (with_reducible repeat (first | refine blk_drewN ?_ _ | refine blk_drew ?_ | refine blk_alloc ?_ _)); refine blk_far ?_ NB309_323.out _; (with_reducible repeat (first | refine blk_drewN ?_ _ | refine blk_drew ?_ | refine blk_alloc ?_ _)); refine blk_far ?_ NB309_323.out _; (with_reducible repeat (first | refine blk_drewN ?_ _ | refine blk_drew ?_ | refine blk_alloc ?_ _)); exact BK309.out) hb); have n4_ := Aside0.mk (blk_below (g := gb314) (o := .cells #[.slice Ao23 t310.length co23, .int .i64 t313] 30 (0, 0)) (by (with_reducible repeat (first | refine blk_drewN ?_ _ | refine blk_drew ?_ | refine blk_alloc ?_ _)); refine blk_far ?_ NB314_323.out _; (with_reducible repeat (first | refine blk_drewN ?_ _ | refine blk_drew ?_ | refine blk_alloc ?_ _)); refine blk_far ?_ NB314_323.out _; (with_reducible repeat (first | refine blk_drewN ?_ _ | refine blk_drew ?_ | refine blk_alloc ?_ _)); exact BK314.out) hb); have n5_ := Aside0.mk (blk_below (g := gb323) (o := .cells #[.slice Ao34 t319.length co34, .int .i64 t322] 30 (0, 0)) (by (with_reducible repeat (first | refine blk_drewN ?_ _ | refine blk_drew ?_ | refine blk_alloc ?_ _)); refine blk_put (cs := #[.slice Ao34 t319.length co34, .int .i64 0]) ?_ 1 _ rfl; (with_reducible repeat (first | refine blk_drewN ?_ _ | refine blk_drew ?_ | refine blk_alloc ?_ _)); refine blk_put (cs := #[.slice none 0 0, .int .i64 0]) ?_ 0 _ rfl; (with_reducible repeat (first | refine blk_drewN ?_ _ | refine blk_drew ?_ | refine blk_alloc ?_ _)); exact BK323.out) hb); have n6_ := Aside0.mk (below_step (HBd GE309 GE314 GE323) hb); clear HO307; clear HO312; clear HO321; clear BK309; clear BK314; clear BK323; clear HB; have HO307 := n0_; have HO312 := n1_; have HO321 := n2_; have BK309 := n3_; have BK314 := n4_; have BK323 := n5_; have HB := n6_; clear n0_ n1_ n2_ n3_ n4_ n5_ n6_; (try clear hb); (try clear hb2); (try clear hk); (try clear hi); have hcz40_0 := C1z BK314; have hcz40_1 := C2z BK314; have hfz40_0 := blk_frozen BK314.out 0; have hfz40_1 := blk_frozen BK314.out 1) | ((with_reducible refine gate_callee (f := 16) rfl ?_); refine goesL_ (some 38) rfl rfl Tryz.func16 (by kernel_rfl) rfl #[.agg #[.slice Ao23 t317.length co23, .int .i64 t313], .int .i64 1] rfl (by (try simp only [List.map_toArray, List.map_cons, List.map_nil]); first | done | (rw [show t317.length = t310.length from (Kd.R_reads' HO312.out).1.symm] <;> rfl) | rfl | (simp only [List.length_drop, List.length_take]; rfl)) ?_; (with_reducible refine (Gu.calls k _ _ t317 t313 1 t325 _ ?side1 ?side2 A14.out).mono ?_); (case side1 => repeat (first | exact (Kd.R_reads' HO312.out).2.2 | (with_reducible refine Kd.C_alloc ?_ _) | (with_reducible refine Kd.C_drewN ?_ _) | (with_reducible refine Kd.C_drew ?_))); (case side2 => rw [show t317.length = t310.length from (Kd.R_reads' HO312.out).1.symm]; exact (Kd.R_reads' HO312.out).2.1); rintro e w41 ⟨rfl, hb⟩; refine ⟨_, rfl, ?_⟩; have n0_ := Aside0.mk (Kd.R_below (KRz HO307) hb); have n1_ := Aside0.mk (Kd.R_below (KRz HO312) hb); have n2_ := Aside0.mk (Kd.R_below (KRz HO321) hb); have n3_ := BBz BK309 hb; have n4_ := BBz BK314 hb; have n5_ := BBz BK323 hb; have n6_ := Aside0.mk (below_step (HBd GE309 GE314 GE323) hb); clear HO307; clear HO312; clear HO321; clear BK309; clear BK314; clear BK323; clear HB; have HO307 := n0_; have HO312 := n1_; have HO321 := n2_; have BK309 := n3_; have BK314 := n4_; have BK323 := n5_; have HB := n6_; clear n0_ n1_ n2_ n3_ n4_ n5_ n6_; (try clear hb); (try clear hb2); (try clear hk); (try clear hi)))
  go_ret
  exact ⟨EZa, HBd GE309 GE314 GE323⟩
 rw [if_neg c16] at H
 have c16b0 : (t325 == t316) = false := beq_eq_false_iff_ne.mpr c16
 have c16b1 : (t325 != t316) = true := bne_iff_ne.mpr c16
 obtain rfl := Option.some.inj H
 exact absurd HR_.out (by decide)
def Gp.Pure : Prop := ∀ (a0 : ByteArray), a0.size ≤ 140737488351232 → ∃ k, Gp.f k a0 = some true
end Go.Proofs.YtmkeigielncpjaaGreatDoor.PFnExactFilterRead
