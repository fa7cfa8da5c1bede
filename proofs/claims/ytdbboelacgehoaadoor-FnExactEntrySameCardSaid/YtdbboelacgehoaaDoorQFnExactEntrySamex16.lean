-- Laid by this session's own program out of the translation; Lean checks it.
import Derived.Test.YtdbboelacgehoaaDoorQFnExactEntrySamex0
import Derived.Test.YtdbboelacgehoaaDoorQFnExactEntrySamex1
import Derived.Test.YtdbboelacgehoaaDoorQFnExactEntrySamex2
import Derived.Test.YtdbboelacgehoaaDoorQFnExactEntrySamex3
import Derived.Test.YtdbboelacgehoaaDoorQFnExactEntrySamex10
import Derived.Test.YtdbboelacgehoaaDoorQFnExactEntrySamex15
namespace Go.Proofs.YtdbboelacgehoaaDoor.PFnExactEntrySame
open Go.RowKit Go.Proofs.YtdbboelacgehoaaDoorW.PrintWords Go.Proofs.YtdbboelacgehoaaDoorW.PrintLast Go.Proofs.YtdbboelacgehoaaDoorW.PrintMore
attribute [local go_sem] max2_int min2_int max_two min_two max_three min_three max_four min_four   -- for this text's walks alone
set_option linter.unusedVariables false
set_option linter.unusedSimpArgs false
def laws_FnExactEntrySame.f (k : Nat) (l0_0 : List (S50)) (l0_1 : List (S140)) (l1_0 : List (S50)) (l1_1 : List (S140)) : Option (Bool) := (laws_szEntry.f k l0_0 l0_1 1048576).bind fun t286 => (if t286 < 0 then (some true) else ((laws_szEntry.f k l1_0 l1_1 t286).bind fun t287 => (if t287 < 0 then (some true) else ((laws_toEntry.f k l0_0 l0_1).bind fun bt288 => ((laws_toEntry.f k l1_0 l1_1).bind fun bt294 => ((spec_EntrySame.f k bt288.1 bt288.2 bt294.1 bt294.2).bind fun t300 => ((laws_toEntry.f k l0_0 l0_1).bind fun bt301 => ((laws_toEntry.f k l1_0 l1_1).bind fun bt308 => ((impl_EntrySame.f k bt301.1 bt301.2 bt308.1 bt308.2).bind fun t315 => (if (t315 != t300) = true then (some false) else ((laws_toEntry.f k l0_0 l0_1).bind fun bt316 => ((laws_eqEntry.f k bt301.1 bt301.2 bt316.1 bt316.2).bind fun t322 => (if t322 = true then ((laws_toEntry.f k l1_0 l1_1).bind fun bt323 => ((laws_eqEntry.f k bt308.1 bt308.2 bt323.1 bt323.2).bind fun t329 => (if t329 = true then (some true) else (some false)))) else (some false))))))))))))))
theorem laws_FnExactEntrySame.mono : ∀ a0 a1 a2 a3 k, LeO (laws_FnExactEntrySame.f k a0 a1 a2 a3) (laws_FnExactEntrySame.f (k + 1) a0 a1 a2 a3) := by
 intro a0 a1 a2 a3 k
 unfold laws_FnExactEntrySame.f
 repeat' first
   | (with_reducible exact impl_EntrySame.mono _ _ _ _ _)
   | (with_reducible exact laws_eqEntry.mono _ _ _ _ _)
   | (with_reducible exact laws_szEntry.mono _ _ _ _)
   | (with_reducible exact laws_toEntry.mono _ _ _)
   | (with_reducible exact spec_EntrySame.mono _ _ _ _ _)
   | (with_reducible exact LeO.refl _)
   | (with_reducible exact LeO.none _)
   | (with_reducible refine LeO.ite ?_ ?_)
   | (with_reducible refine LeO.bind ?_ (fun _ => ?_))
   | exact impl_EntrySame.mono _ _ _ _ _
   | exact laws_eqEntry.mono _ _ _ _ _
   | exact laws_szEntry.mono _ _ _ _
   | exact laws_toEntry.mono _ _ _
   | exact spec_EntrySame.mono _ _ _ _ _
   | exact LeO.none _
   | refine LeO.ite ?_ ?_
   | refine LeO.bind ?_ (fun _ => ?_)
set_option maxHeartbeats 8000000 in
set_option maxRecDepth 100000 in
theorem laws_FnExactEntrySame.calls (k : Nat) (A0_0 : Option Addr) (c0_0 : Nat) (l0_0 : List (S50)) (A0_1 : Option Addr) (c0_1 : Nat) (l0_1 : List (S140)) (A1_0 : Option Addr) (c1_0 : Nat) (l1_0 : List (S50)) (A1_1 : Option Addr) (c1_1 : Nat) (l1_1 : List (S140)) (r : Bool) (w : World) (hr0_0 : Kd.C k50 w A0_0 l0_0.length l0_0) (hc0_0 : l0_0.length ≤ c0_0) (hr0_1 : Kd.C k140 w A0_1 l0_1.length l0_1) (hc0_1 : l0_1.length ≤ c0_1) (hr1_0 : Kd.C k50 w A1_0 l1_0.length l1_0) (hc1_0 : l1_0.length ≤ c1_0) (hr1_1 : Kd.C k140 w A1_1 l1_1.length l1_1) (hc1_1 : l1_1.length ≤ c1_1) (h : laws_FnExactEntrySame.f k l0_0 l0_1 l1_0 l1_1 = some r) :
  Calls Tryd.prog 12 #[.agg #[.slice A0_0 l0_0.length c0_0, .slice A0_1 l0_1.length c0_1], .agg #[.slice A1_0 l1_0.length c1_0, .slice A1_1 l1_1.length c1_1]] w fun e w' => e = .returned (.bool r) ∧ Below w.heap.size w w' := by
 have hu66 := Tryd.underlying66
 have hu71 := Tryd.underlying71
 have HR0_0 := Aside0.mk hr0_0
 have HC0_0 := Aside0.mk hc0_0
 clear hr0_0 hc0_0
 have HR0_1 := Aside0.mk hr0_1
 have HC0_1 := Aside0.mk hc0_1
 clear hr0_1 hc0_1
 have HR1_0 := Aside0.mk hr1_0
 have HC1_0 := Aside0.mk hc1_0
 clear hr1_0 hc1_0
 have HR1_1 := Aside0.mk hr1_1
 have HC1_1 := Aside0.mk hc1_1
 clear hr1_1 hc1_1
 have HB := Aside0.mk (Below.refl w.heap.size w)
 have H : ((laws_szEntry.f k l0_0 l0_1 1048576).bind fun t286 => (if t286 < 0 then (some true) else ((laws_szEntry.f k l1_0 l1_1 t286).bind fun t287 => (if t287 < 0 then (some true) else ((laws_toEntry.f k l0_0 l0_1).bind fun bt288 => ((laws_toEntry.f k l1_0 l1_1).bind fun bt294 => ((spec_EntrySame.f k bt288.1 bt288.2 bt294.1 bt294.2).bind fun t300 => ((laws_toEntry.f k l0_0 l0_1).bind fun bt301 => ((laws_toEntry.f k l1_0 l1_1).bind fun bt308 => ((impl_EntrySame.f k bt301.1 bt301.2 bt308.1 bt308.2).bind fun t315 => (if (t315 != t300) = true then (some false) else ((laws_toEntry.f k l0_0 l0_1).bind fun bt316 => ((laws_eqEntry.f k bt301.1 bt301.2 bt316.1 bt316.2).bind fun t322 => (if t322 = true then ((laws_toEntry.f k l1_0 l1_1).bind fun bt323 => ((laws_eqEntry.f k bt308.1 bt308.2 bt323.1 bt323.2).bind fun t329 => (if t329 = true then (some true) else (some false)))) else (some false))))))))))))))) = some r := h
 clear h
 replace H := Option.bind_eq_some_iff.mp H
 obtain ⟨t286, A30, H⟩ := H
 replace H : (if t286 < 0 then (some true) else ((laws_szEntry.f k l1_0 l1_1 t286).bind fun t287 => (if t287 < 0 then (some true) else ((laws_toEntry.f k l0_0 l0_1).bind fun bt288 => ((laws_toEntry.f k l1_0 l1_1).bind fun bt294 => ((spec_EntrySame.f k bt288.1 bt288.2 bt294.1 bt294.2).bind fun t300 => ((laws_toEntry.f k l0_0 l0_1).bind fun bt301 => ((laws_toEntry.f k l1_0 l1_1).bind fun bt308 => ((impl_EntrySame.f k bt301.1 bt301.2 bt308.1 bt308.2).bind fun t315 => (if (t315 != t300) = true then (some false) else ((laws_toEntry.f k l0_0 l0_1).bind fun bt316 => ((laws_eqEntry.f k bt301.1 bt301.2 bt316.1 bt316.2).bind fun t322 => (if t322 = true then ((laws_toEntry.f k l1_0 l1_1).bind fun bt323 => ((laws_eqEntry.f k bt308.1 bt308.2 bt323.1 bt323.2).bind fun t329 => (if t329 = true then (some true) else (some false)))) else (some false)))))))))))))) = some r := H
 have A3 := Aside0.mk A30
 clear A30
 by_cases c4 : t286 < 0
 ·rw [if_pos c4] at H
  have c4b0 : decide (t286 < 0) = true := decide_eq_true c4
  clear c4
  obtain rfl := Option.some.inj H
  go_enter Tryd.func12, Tryd.ntmps12
  go_wp2_with (first | ((with_reducible refine gate_dst (N := 2) rfl ?_); refine box_event ?hg (N := 2) ?hd (cs := #[.slice A0_0 l0_0.length c0_0, .slice A0_1 l0_1.length c0_1]) (t := 66) ?hr ?_; (case hd => rfl); (case hg => rfl); (case hr => first | (go_simp; done) | (go_simp; rfl)); intro gb284 hg w5 hbox hb; have n0_ := Aside0.mk (below_step HBa hb); have n1_ := Aside0.mk (hbox); have n2_ := BSz w hg HBa; have n3_ := BSz w hg HBa; clear HB; have HB := n0_; have BK284 := n1_; have GW284 := n2_; have GE284 := n3_; clear n0_ n1_ n2_ n3_; clear hb hbox hg) | ((with_reducible refine gate_dst (N := 3) rfl ?_); refine box_event ?hg (N := 3) ?hd (cs := #[.slice A1_0 l1_0.length c1_0, .slice A1_1 l1_1.length c1_1]) (t := 66) ?hr ?_; (case hd => rfl); (case hg => rfl); (case hr => first | (go_simp; done) | (go_simp; rfl)); intro gb285 hg w6 hbox hb; have n0_ := BBz BK284 hb; have n1_ := Aside0.mk (below_step (HBb GE284) hb); have n2_ := Aside0.mk (hbox); have n3_ := BSz w hg (HBb GE284); have n4_ := BSz w hg (HBb GE284); have n5_ := BNz BK284 hg; have n6_ := BMz BK284 hg; clear BK284; clear HB; have BK284 := n0_; have HB := n1_; have BK285 := n2_; have GW285 := n3_; have GE285 := n4_; have NB284_285 := n5_; have NB285_284 := n6_; clear n0_ n1_ n2_ n3_ n4_ n5_ n6_; clear hb hbox hg; have hnb7 := NB284_285.out; have hnc7 := NB285_284.out; have hcz8_0 : w6.cell? ⟨gb284, 0, none⟩ = some (.slice A0_0 l0_0.length c0_0) := (blk_cell BK284.out 0).trans rfl; have hcz8_1 : w6.cell? ⟨gb284, 1, none⟩ = some (.slice A0_1 l0_1.length c0_1) := (blk_cell BK284.out 1).trans rfl; have hfz8_0 := blk_frozen BK284.out 0; have hfz8_1 := blk_frozen BK284.out 1) | ((with_reducible refine gate_callee (f := 52) rfl ?_); refine goesL_ (some 12) rfl rfl Tryd.func52 (by kernel_rfl) rfl #[.agg #[.slice A0_0 l0_0.length c0_0, .slice A0_1 l0_1.length c0_1], .int .i64 1048576] rfl MPz ?_; (with_reducible refine (laws_szEntry.calls k _ _ l0_0 _ _ l0_1 1048576 t286 _ ?side1 ?side2 ?side3 ?side4 A3.out).mono ?_); (case side1 => exact KCz (Kd.C_below HR0_0.out HB.out)); (case side2 => exact HC0_0.out); (case side3 => exact KCz (Kd.C_below HR0_1.out HB.out)); (case side4 => exact HC0_1.out); rintro e w9 ⟨rfl, hb⟩; refine ⟨_, rfl, ?_⟩; have n0_ := BBz BK284 hb; have n1_ := BBz BK285 hb; have n2_ := Aside0.mk (below_step (HBc GE284 GE285) hb); clear BK284; clear BK285; clear HB; have BK284 := n0_; have BK285 := n1_; have HB := n2_; clear n0_ n1_ n2_; (try clear hb); (try clear hb2); (try clear hk); (try clear hi)))
  go_ret
  exact ⟨EZa, HBc GE284 GE285⟩
 ·rw [if_neg c4] at H
  have c4b0 : decide (t286 < 0) = false := decide_eq_false c4
  clear c4
  replace H := Option.bind_eq_some_iff.mp H
  obtain ⟨t287, A100, H⟩ := H
  replace H : (if t287 < 0 then (some true) else ((laws_toEntry.f k l0_0 l0_1).bind fun bt288 => ((laws_toEntry.f k l1_0 l1_1).bind fun bt294 => ((spec_EntrySame.f k bt288.1 bt288.2 bt294.1 bt294.2).bind fun t300 => ((laws_toEntry.f k l0_0 l0_1).bind fun bt301 => ((laws_toEntry.f k l1_0 l1_1).bind fun bt308 => ((impl_EntrySame.f k bt301.1 bt301.2 bt308.1 bt308.2).bind fun t315 => (if (t315 != t300) = true then (some false) else ((laws_toEntry.f k l0_0 l0_1).bind fun bt316 => ((laws_eqEntry.f k bt301.1 bt301.2 bt316.1 bt316.2).bind fun t322 => (if t322 = true then ((laws_toEntry.f k l1_0 l1_1).bind fun bt323 => ((laws_eqEntry.f k bt308.1 bt308.2 bt323.1 bt323.2).bind fun t329 => (if t329 = true then (some true) else (some false)))) else (some false)))))))))))) = some r := H
  have A10 := Aside0.mk A100
  clear A100
  by_cases c11 : t287 < 0
  ·rw [if_pos c11] at H
   have c11b0 : decide (t287 < 0) = true := decide_eq_true c11
   clear c11
   obtain rfl := Option.some.inj H
   go_enter Tryd.func12, Tryd.ntmps12
   go_wp2_with (first | ((with_reducible refine gate_dst (N := 2) rfl ?_); refine box_event ?hg (N := 2) ?hd (cs := #[.slice A0_0 l0_0.length c0_0, .slice A0_1 l0_1.length c0_1]) (t := 66) ?hr ?_; (case hd => rfl); (case hg => rfl); (case hr => first | (go_simp; done) | (go_simp; rfl)); intro gb284 hg w12 hbox hb; have n0_ := Aside0.mk (below_step HBa hb); have n1_ := Aside0.mk (hbox); have n2_ := BSz w hg HBa; have n3_ := BSz w hg HBa; clear HB; have HB := n0_; have BK284 := n1_; have GW284 := n2_; have GE284 := n3_; clear n0_ n1_ n2_ n3_; clear hb hbox hg) | ((with_reducible refine gate_dst (N := 3) rfl ?_); refine box_event ?hg (N := 3) ?hd (cs := #[.slice A1_0 l1_0.length c1_0, .slice A1_1 l1_1.length c1_1]) (t := 66) ?hr ?_; (case hd => rfl); (case hg => rfl); (case hr => first | (go_simp; done) | (go_simp; rfl)); intro gb285 hg w13 hbox hb; have n0_ := BBz BK284 hb; have n1_ := Aside0.mk (below_step (HBb GE284) hb); have n2_ := Aside0.mk (hbox); have n3_ := BSz w hg (HBb GE284); have n4_ := BSz w hg (HBb GE284); have n5_ := BNz BK284 hg; have n6_ := BMz BK284 hg; clear BK284; clear HB; have BK284 := n0_; have HB := n1_; have BK285 := n2_; have GW285 := n3_; have GE285 := n4_; have NB284_285 := n5_; have NB285_284 := n6_; clear n0_ n1_ n2_ n3_ n4_ n5_ n6_; clear hb hbox hg; have hnb14 := NB284_285.out; have hnc14 := NB285_284.out; have hcz15_0 : w13.cell? ⟨gb284, 0, none⟩ = some (.slice A0_0 l0_0.length c0_0) := (blk_cell BK284.out 0).trans rfl; have hcz15_1 : w13.cell? ⟨gb284, 1, none⟩ = some (.slice A0_1 l0_1.length c0_1) := (blk_cell BK284.out 1).trans rfl; have hfz15_0 := blk_frozen BK284.out 0; have hfz15_1 := blk_frozen BK284.out 1) | ((with_reducible refine gate_callee (f := 52) rfl ?_); refine goesL_ (some 12) rfl rfl Tryd.func52 (by kernel_rfl) rfl #[.agg #[.slice A0_0 l0_0.length c0_0, .slice A0_1 l0_1.length c0_1], .int .i64 1048576] rfl MPz ?_; (with_reducible refine (laws_szEntry.calls k _ _ l0_0 _ _ l0_1 1048576 t286 _ ?side1 ?side2 ?side3 ?side4 A3.out).mono ?_); (case side1 => exact KCz (Kd.C_below HR0_0.out HB.out)); (case side2 => exact HC0_0.out); (case side3 => exact KCz (Kd.C_below HR0_1.out HB.out)); (case side4 => exact HC0_1.out); rintro e w16 ⟨rfl, hb⟩; refine ⟨_, rfl, ?_⟩; have n0_ := BBz BK284 hb; have n1_ := BBz BK285 hb; have n2_ := Aside0.mk (below_step (HBc GE284 GE285) hb); clear BK284; clear BK285; clear HB; have BK284 := n0_; have BK285 := n1_; have HB := n2_; clear n0_ n1_ n2_; (try clear hb); (try clear hb2); (try clear hk); (try clear hi); have hcz17_0 : w16.cell? ⟨gb285, 0, none⟩ = some (.slice A1_0 l1_0.length c1_0) := (blk_cell BK285.out 0).trans rfl; have hcz17_1 : w16.cell? ⟨gb285, 1, none⟩ = some (.slice A1_1 l1_1.length c1_1) := (blk_cell BK285.out 1).trans rfl; have hfz17_0 := blk_frozen BK285.out 0; have hfz17_1 := blk_frozen BK285.out 1) | ((with_reducible refine gate_callee (f := 52) rfl ?_); refine goesL_ (some 17) rfl rfl Tryd.func52 (by kernel_rfl) rfl #[.agg #[.slice A1_0 l1_0.length c1_0, .slice A1_1 l1_1.length c1_1], .int .i64 t286] rfl MPz ?_; (with_reducible refine (laws_szEntry.calls k _ _ l1_0 _ _ l1_1 t286 t287 _ ?side1 ?side2 ?side3 ?side4 A10.out).mono ?_); (case side1 => exact KCz (Kd.C_below HR1_0.out HB.out)); (case side2 => exact HC1_0.out); (case side3 => exact KCz (Kd.C_below HR1_1.out HB.out)); (case side4 => exact HC1_1.out); rintro e w18 ⟨rfl, hb⟩; refine ⟨_, rfl, ?_⟩; have n0_ := BBz BK284 hb; have n1_ := BBz BK285 hb; have n2_ := Aside0.mk (below_step (HBc GE284 GE285) hb); clear BK284; clear BK285; clear HB; have BK284 := n0_; have BK285 := n1_; have HB := n2_; clear n0_ n1_ n2_; (try clear hb); (try clear hb2); (try clear hk); (try clear hi)))
   go_ret
   exact ⟨EZa, HBc GE284 GE285⟩
  ·rw [if_neg c11] at H
   have c11b0 : decide (t287 < 0) = false := decide_eq_false c11
   clear c11
   replace H := Option.bind_eq_some_iff.mp H
   obtain ⟨⟨t288, t291⟩, A190, H⟩ := H
   replace H : ((laws_toEntry.f k l1_0 l1_1).bind fun bt294 => ((spec_EntrySame.f k t288 t291 bt294.1 bt294.2).bind fun t300 => ((laws_toEntry.f k l0_0 l0_1).bind fun bt301 => ((laws_toEntry.f k l1_0 l1_1).bind fun bt308 => ((impl_EntrySame.f k bt301.1 bt301.2 bt308.1 bt308.2).bind fun t315 => (if (t315 != t300) = true then (some false) else ((laws_toEntry.f k l0_0 l0_1).bind fun bt316 => ((laws_eqEntry.f k bt301.1 bt301.2 bt316.1 bt316.2).bind fun t322 => (if t322 = true then ((laws_toEntry.f k l1_0 l1_1).bind fun bt323 => ((laws_eqEntry.f k bt308.1 bt308.2 bt323.1 bt323.2).bind fun t329 => (if t329 = true then (some true) else (some false)))) else (some false)))))))))) = some r := H
   have A19 := Aside0.mk A190
   clear A190
   replace H := Option.bind_eq_some_iff.mp H
   obtain ⟨⟨t294, t297⟩, A200, H⟩ := H
   replace H : ((spec_EntrySame.f k t288 t291 t294 t297).bind fun t300 => ((laws_toEntry.f k l0_0 l0_1).bind fun bt301 => ((laws_toEntry.f k l1_0 l1_1).bind fun bt308 => ((impl_EntrySame.f k bt301.1 bt301.2 bt308.1 bt308.2).bind fun t315 => (if (t315 != t300) = true then (some false) else ((laws_toEntry.f k l0_0 l0_1).bind fun bt316 => ((laws_eqEntry.f k bt301.1 bt301.2 bt316.1 bt316.2).bind fun t322 => (if t322 = true then ((laws_toEntry.f k l1_0 l1_1).bind fun bt323 => ((laws_eqEntry.f k bt308.1 bt308.2 bt323.1 bt323.2).bind fun t329 => (if t329 = true then (some true) else (some false)))) else (some false))))))))) = some r := H
   have A20 := Aside0.mk A200
   clear A200
   replace H := Option.bind_eq_some_iff.mp H
   obtain ⟨t300, A210, H⟩ := H
   replace H : ((laws_toEntry.f k l0_0 l0_1).bind fun bt301 => ((laws_toEntry.f k l1_0 l1_1).bind fun bt308 => ((impl_EntrySame.f k bt301.1 bt301.2 bt308.1 bt308.2).bind fun t315 => (if (t315 != t300) = true then (some false) else ((laws_toEntry.f k l0_0 l0_1).bind fun bt316 => ((laws_eqEntry.f k bt301.1 bt301.2 bt316.1 bt316.2).bind fun t322 => (if t322 = true then ((laws_toEntry.f k l1_0 l1_1).bind fun bt323 => ((laws_eqEntry.f k bt308.1 bt308.2 bt323.1 bt323.2).bind fun t329 => (if t329 = true then (some true) else (some false)))) else (some false)))))))) = some r := H
   have A21 := Aside0.mk A210
   clear A210
   replace H := Option.bind_eq_some_iff.mp H
   obtain ⟨⟨t301, t304⟩, A220, H⟩ := H
   replace H : ((laws_toEntry.f k l1_0 l1_1).bind fun bt308 => ((impl_EntrySame.f k t301 t304 bt308.1 bt308.2).bind fun t315 => (if (t315 != t300) = true then (some false) else ((laws_toEntry.f k l0_0 l0_1).bind fun bt316 => ((laws_eqEntry.f k t301 t304 bt316.1 bt316.2).bind fun t322 => (if t322 = true then ((laws_toEntry.f k l1_0 l1_1).bind fun bt323 => ((laws_eqEntry.f k bt308.1 bt308.2 bt323.1 bt323.2).bind fun t329 => (if t329 = true then (some true) else (some false)))) else (some false))))))) = some r := H
   have A22 := Aside0.mk A220
   clear A220
   replace H := Option.bind_eq_some_iff.mp H
   obtain ⟨⟨t308, t311⟩, A230, H⟩ := H
   replace H : ((impl_EntrySame.f k t301 t304 t308 t311).bind fun t315 => (if (t315 != t300) = true then (some false) else ((laws_toEntry.f k l0_0 l0_1).bind fun bt316 => ((laws_eqEntry.f k t301 t304 bt316.1 bt316.2).bind fun t322 => (if t322 = true then ((laws_toEntry.f k l1_0 l1_1).bind fun bt323 => ((laws_eqEntry.f k t308 t311 bt323.1 bt323.2).bind fun t329 => (if t329 = true then (some true) else (some false)))) else (some false)))))) = some r := H
   have A23 := Aside0.mk A230
   clear A230
   replace H := Option.bind_eq_some_iff.mp H
   obtain ⟨t315, A240, H⟩ := H
   replace H : (if (t315 != t300) = true then (some false) else ((laws_toEntry.f k l0_0 l0_1).bind fun bt316 => ((laws_eqEntry.f k t301 t304 bt316.1 bt316.2).bind fun t322 => (if t322 = true then ((laws_toEntry.f k l1_0 l1_1).bind fun bt323 => ((laws_eqEntry.f k t308 t311 bt323.1 bt323.2).bind fun t329 => (if t329 = true then (some true) else (some false)))) else (some false))))) = some r := H
   have A24 := Aside0.mk A240
   clear A240
   by_cases c25 : (t315 != t300) = true
   ·rw [if_pos c25] at H
    have c25b0 : (t315 != t300) = true := c25
    (try (have c25b1 : decide (t315 = t300) = false := by simpa using c25))
    (try (have c25b2 : (t315 == t300) = false := by simpa using c25))
    (try (have c25b3 : ¬ (t315 = t300) := by simpa using c25))
    clear c25
    obtain rfl := Option.some.inj H
    go_enter Tryd.func12, Tryd.ntmps12
    try go_wp2_with (first | ((with_reducible refine gate_dst (N := 2) rfl ?_); refine box_event ?hg (N := 2) ?hd (cs := #[.slice A0_0 l0_0.length c0_0, .slice A0_1 l0_1.length c0_1]) (t := 66) ?hr ?_; (case hd => rfl); (case hg => rfl); (case hr => first | (go_simp; done) | (go_simp; rfl)); intro gb284 hg w26 hbox hb; have n0_ := Aside0.mk (below_step HBa hb); have n1_ := Aside0.mk (hbox); have n2_ := BSz w hg HBa; have n3_ := BSz w hg HBa; clear HB; have HB := n0_; have BK284 := n1_; have GW284 := n2_; have GE284 := n3_; clear n0_ n1_ n2_ n3_; clear hb hbox hg) | ((with_reducible refine gate_dst (N := 3) rfl ?_); refine box_event ?hg (N := 3) ?hd (cs := #[.slice A1_0 l1_0.length c1_0, .slice A1_1 l1_1.length c1_1]) (t := 66) ?hr ?_; (case hd => rfl); (case hg => rfl); (case hr => first | (go_simp; done) | (go_simp; rfl)); intro gb285 hg w27 hbox hb; have n0_ := BBz BK284 hb; have n1_ := Aside0.mk (below_step (HBb GE284) hb); have n2_ := Aside0.mk (hbox); have n3_ := BSz w hg (HBb GE284); have n4_ := BSz w hg (HBb GE284); have n5_ := BNz BK284 hg; have n6_ := BMz BK284 hg; clear BK284; clear HB; have BK284 := n0_; have HB := n1_; have BK285 := n2_; have GW285 := n3_; have GE285 := n4_; have NB284_285 := n5_; have NB285_284 := n6_; clear n0_ n1_ n2_ n3_ n4_ n5_ n6_; clear hb hbox hg; have hnb28 := NB284_285.out; have hnc28 := NB285_284.out; have hcz29_0 : w27.cell? ⟨gb284, 0, none⟩ = some (.slice A0_0 l0_0.length c0_0) := (blk_cell BK284.out 0).trans rfl; have hcz29_1 : w27.cell? ⟨gb284, 1, none⟩ = some (.slice A0_1 l0_1.length c0_1) := (blk_cell BK284.out 1).trans rfl; have hfz29_0 := blk_frozen BK284.out 0; have hfz29_1 := blk_frozen BK284.out 1) | ((with_reducible refine gate_callee (f := 52) rfl ?_); refine goesL_ (some 12) rfl rfl Tryd.func52 (by kernel_rfl) rfl #[.agg #[.slice A0_0 l0_0.length c0_0, .slice A0_1 l0_1.length c0_1], .int .i64 1048576] rfl MPz ?_; (with_reducible refine (laws_szEntry.calls k _ _ l0_0 _ _ l0_1 1048576 t286 _ ?side1 ?side2 ?side3 ?side4 A3.out).mono ?_); (case side1 => exact KCz (Kd.C_below HR0_0.out HB.out)); (case side2 => exact HC0_0.out); (case side3 => exact KCz (Kd.C_below HR0_1.out HB.out)); (case side4 => exact HC0_1.out); rintro e w30 ⟨rfl, hb⟩; refine ⟨_, rfl, ?_⟩; have n0_ := BBz BK284 hb; have n1_ := BBz BK285 hb; have n2_ := Aside0.mk (below_step (HBc GE284 GE285) hb); clear BK284; clear BK285; clear HB; have BK284 := n0_; have BK285 := n1_; have HB := n2_; clear n0_ n1_ n2_; (try clear hb); (try clear hb2); (try clear hk); (try clear hi); have hcz31_0 : w30.cell? ⟨gb285, 0, none⟩ = some (.slice A1_0 l1_0.length c1_0) := (blk_cell BK285.out 0).trans rfl; have hcz31_1 : w30.cell? ⟨gb285, 1, none⟩ = some (.slice A1_1 l1_1.length c1_1) := (blk_cell BK285.out 1).trans rfl; have hfz31_0 := blk_frozen BK285.out 0; have hfz31_1 := blk_frozen BK285.out 1) | ((with_reducible refine gate_callee (f := 52) rfl ?_); refine goesL_ (some 17) rfl rfl Tryd.func52 (by kernel_rfl) rfl #[.agg #[.slice A1_0 l1_0.length c1_0, .slice A1_1 l1_1.length c1_1], .int .i64 t286] rfl MPz ?_; (with_reducible refine (laws_szEntry.calls k _ _ l1_0 _ _ l1_1 t286 t287 _ ?side1 ?side2 ?side3 ?side4 A10.out).mono ?_); (case side1 => exact KCz (Kd.C_below HR1_0.out HB.out)); (case side2 => exact HC1_0.out); (case side3 => exact KCz (Kd.C_below HR1_1.out HB.out)); (case side4 => exact HC1_1.out); rintro e w32 ⟨rfl, hb⟩; refine ⟨_, rfl, ?_⟩; have n0_ := BBz BK284 hb; have n1_ := BBz BK285 hb; have n2_ := Aside0.mk (below_step (HBc GE284 GE285) hb); clear BK284; clear BK285; clear HB; have BK284 := n0_; have BK285 := n1_; have HB := n2_; clear n0_ n1_ n2_; (try clear hb); (try clear hb2); (try clear hk); (try clear hi)))
    have n0_ := Aside0.mk (blk_drew BK284.out)
    have n1_ := Aside0.mk (blk_drew BK285.out)
    have n2_ := Aside0.mk (below_drew1 HB.out)
    clear BK284
    clear BK285
    clear HB
    have BK284 := n0_
    have BK285 := n1_
    have HB := n2_
    clear n0_ n1_ n2_
    refine start_ (n := 6) (S := fun w' => w'.cell? ⟨gb284, 0, none⟩ = some (.slice A0_0 l0_0.length c0_0) ∧ w'.cell? ⟨gb284, 1, none⟩ = some (.slice A0_1 l0_1.length c0_1) ∧ w'.cell? ⟨gb285, 0, none⟩ = some (.slice A1_0 l1_0.length c1_0) ∧ w'.cell? ⟨gb285, 1, none⟩ = some (.slice A1_1 l1_1.length c1_1)) (ds := []) #[false, false, false, false, false, false] (by kernel_rfl) rfl rfl ⟨(blk_cell BK284.out 0).trans rfl, (blk_cell BK284.out 1).trans rfl, (blk_cell BK285.out 0).trans rfl, (blk_cell BK285.out 1).trans rfl⟩ (fun hHeld => ?_)
    generalize w32.drew = w33 at BK284 BK285 HB hHeld ⊢
    refine take_ (i := 0) (N := some 20) (v := ?_) (a' := ?_) #[true, false, false, false, false, false] rfl rfl (by kernel_rfl) (fun _ _ _ h => h) (Or.inl ⟨by rfl, ?_⟩) hHeld ?_ ?_
    rotate_left
    ·rintro w' ⟨s0, s1, s2, s3⟩
     go_simp
     with_reducible rfl
    rotate_left
    ·simp only [PUz]
     rfl
    refine take_ (i := 2) (N := some 22) (v := ?_) (a' := ?_) #[true, false, true, false, false, false] rfl rfl (by kernel_rfl) (fun _ _ _ h => h) (Or.inl ⟨by rfl, ?_⟩) hHeld ?_ ?_
    rotate_left
    ·rintro w' ⟨s0, s1, s2, s3⟩
     go_simp
     with_reducible rfl
    rotate_left
    ·simp only [PUz]
     rfl
    refine one_ (i := 1) (N := some 21) #[true, true, true, false, false, false] rfl rfl (by kernel_rfl) (by decide) (fun K hK => ?_)
    refine goes_ Tryd.func54 (by kernel_rfl) rfl #[.agg #[.slice A0_0 l0_0.length c0_0, .slice A0_1 l0_1.length c0_1]] (by rfl) rfl rfl MPz ?_
    with_reducible refine (laws_toEntry.calls k _ _ l0_0 _ _ l0_1 t288 t291 _ ?side1 ?side2 ?side3 ?side4 A19.out).mono ?_
    (case side1 => exact KCz (Kd.C_below HR0_0.out HB.out))
    (case side2 => exact HC0_0.out)
    (case side3 => exact KCz (Kd.C_below HR0_1.out HB.out))
    (case side4 => exact HC0_1.out)
    rintro e w34 ⟨v289, v292, rfl, ho0, ho1, hb⟩
    refine ⟨_, rfl, ?_⟩
    have n0_ := Aside0.mk (Kd.R_lower ho0 (below_size (HBc GE284 GE285)))
    have n1_ := Aside0.mk (Kd.S_lower ho1 (below_size (HBc GE284 GE285)))
    have n2_ := BBz BK284 hb
    have n3_ := BBz BK285 hb
    have n4_ := Aside0.mk (below_step (HBc GE284 GE285) hb)
    clear BK284
    clear BK285
    clear HB
    have HO290 := n0_
    have HO293 := n1_
    have BK284 := n2_
    have BK285 := n3_
    have HB := n4_
    clear n0_ n1_ n2_ n3_ n4_
    (try clear hb)
    (try clear hb2)
    (try clear hk)
    (try clear hi)
    (try clear ho0)
    (try clear ho1)
    refine hK.out _ _ ⟨(blk_cell BK284.out 0).trans rfl, (blk_cell BK284.out 1).trans rfl, (blk_cell BK285.out 0).trans rfl, (blk_cell BK285.out 1).trans rfl⟩ (fun hHeld => ?_)
    clear hK K
    refine norm_ (a' := ?_) ?_ ?_
    rotate_left
    ·show Act.put _ (some 21) _ = _
     simp only [PUz]
     rfl
    refine one_ (i := 3) (N := some 23) #[true, true, true, true, false, false] rfl rfl (by kernel_rfl) (by decide) (fun K hK => ?_)
    refine goes_ Tryd.func54 (by kernel_rfl) rfl #[.agg #[.slice A1_0 l1_0.length c1_0, .slice A1_1 l1_1.length c1_1]] (by rfl) rfl rfl MPz ?_
    with_reducible refine (laws_toEntry.calls k _ _ l1_0 _ _ l1_1 t294 t297 _ ?side1 ?side2 ?side3 ?side4 A20.out).mono ?_
    (case side1 => exact KCz (Kd.C_below HR1_0.out HB.out))
    (case side2 => exact HC1_0.out)
    (case side3 => exact KCz (Kd.C_below HR1_1.out HB.out))
    (case side4 => exact HC1_1.out)
    rintro e w35 ⟨v295, v298, rfl, ho0, ho1, hb⟩
    refine ⟨_, rfl, ?_⟩
    have n0_ := Aside0.mk (Kd.R_elder' (KRz HO290) (Kd.R_base ho0) hb)
    have n1_ := Aside0.mk (Kd.S_elder' (KSz HO293) (Kd.S_base ho1) hb)
    have n2_ := Aside0.mk (Kd.R_lower (Kd.R_new' ho0 (Kd.R_lt (KRz HO290))) (below_size (HBc GE284 GE285)))
    have n3_ := Aside0.mk (Kd.S_lower (Kd.S_new' ho1 (Kd.S_lt (KSz HO293))) (below_size (HBc GE284 GE285)))
    have n4_ := BBz BK284 hb
    have n5_ := BBz BK285 hb
    have n6_ := Aside0.mk (below_step (HBc GE284 GE285) hb)
    clear HO290
    clear HO293
    clear BK284
    clear BK285
    clear HB
    have HO290 := n0_
    have HO293 := n1_
    have HO296 := n2_
    have HO299 := n3_
    have BK284 := n4_
    have BK285 := n5_
    have HB := n6_
    clear n0_ n1_ n2_ n3_ n4_ n5_ n6_
    (try clear hb)
    (try clear hb2)
    (try clear hk)
    (try clear hi)
    (try clear ho0)
    (try clear ho1)
    obtain ⟨Ao36, co36, eo36⟩ := Kd.R_slice HO290.out
    (first | subst eo36 | (injection eo36 with f1_ f2_ f3_; have f4_ := f1_.symm; have f5_ := f3_.symm; clear f1_ f2_ f3_; subst f4_; subst f5_))
    obtain ⟨Ao37, co37, eo37⟩ := Kd.S_slice HO293.out
    (first | subst eo37 | (injection eo37 with f1_ f2_ f3_; have f4_ := f1_.symm; have f5_ := f3_.symm; clear f1_ f2_ f3_; subst f4_; subst f5_))
    obtain ⟨Ao38, co38, eo38⟩ := Kd.R_slice HO296.out
    (first | subst eo38 | (injection eo38 with f1_ f2_ f3_; have f4_ := f1_.symm; have f5_ := f3_.symm; clear f1_ f2_ f3_; subst f4_; subst f5_))
    obtain ⟨Ao39, co39, eo39⟩ := Kd.S_slice HO299.out
    (first | subst eo39 | (injection eo39 with f1_ f2_ f3_; have f4_ := f1_.symm; have f5_ := f3_.symm; clear f1_ f2_ f3_; subst f4_; subst f5_))
    refine hK.out _ _ ⟨(blk_cell BK284.out 0).trans rfl, (blk_cell BK284.out 1).trans rfl, (blk_cell BK285.out 0).trans rfl, (blk_cell BK285.out 1).trans rfl⟩ (fun hHeld => ?_)
    clear hK K
    refine norm_ (a' := ?_) ?_ ?_
    rotate_left
    ·show Act.put _ (some 23) _ = _
     simp only [PUz]
     rfl
    refine one_ (i := 4) (N := some 24) #[true, true, true, true, true, false] rfl rfl (by kernel_rfl) (by decide) (fun K hK => ?_)
    refine goes_ Tryd.func62 (by kernel_rfl) rfl #[.agg #[.slice Ao36 t288.length co36, .slice Ao37 t291.length co37], .agg #[.slice Ao38 t294.length co38, .slice Ao39 t297.length co39]] (by rfl) rfl rfl MPz ?_
    with_reducible refine (spec_EntrySame.calls k _ _ t288 _ _ t291 _ _ t294 _ _ t297 t300 _ ?side1 ?side2 ?side3 ?side4 ?side5 ?side6 ?side7 ?side8 A21.out).mono ?_
    (case side1 => repeat (first | exact (Kd.R_reads' HO290.out).2.2 | (with_reducible refine Kd.C_alloc ?_ _) | (with_reducible refine Kd.C_drewN ?_ _) | (with_reducible refine Kd.C_drew ?_)))
    (case side2 => exact (Kd.R_reads' HO290.out).2.1)
    (case side3 => repeat (first | exact (Kd.S_reads' HO293.out).2.2 | (with_reducible refine Kd.C_alloc ?_ _) | (with_reducible refine Kd.C_drewN ?_ _) | (with_reducible refine Kd.C_drew ?_)))
    (case side4 => exact (Kd.S_reads' HO293.out).2.1)
    (case side5 => repeat (first | exact (Kd.R_reads' HO296.out).2.2 | (with_reducible refine Kd.C_alloc ?_ _) | (with_reducible refine Kd.C_drewN ?_ _) | (with_reducible refine Kd.C_drew ?_)))
    (case side6 => exact (Kd.R_reads' HO296.out).2.1)
    (case side7 => repeat (first | exact (Kd.S_reads' HO299.out).2.2 | (with_reducible refine Kd.C_alloc ?_ _) | (with_reducible refine Kd.C_drewN ?_ _) | (with_reducible refine Kd.C_drew ?_)))
    (case side8 => exact (Kd.S_reads' HO299.out).2.1)
    rintro e w40 ⟨rfl, hb⟩
    refine ⟨_, rfl, ?_⟩
    have n0_ := Aside0.mk (Kd.R_below (KRz HO290) hb)
    have n1_ := Aside0.mk (Kd.S_below (KSz HO293) hb)
    have n2_ := Aside0.mk (Kd.R_below (KRz HO296) hb)
    have n3_ := Aside0.mk (Kd.S_below (KSz HO299) hb)
    have n4_ := BBz BK284 hb
    have n5_ := BBz BK285 hb
    have n6_ := Aside0.mk (below_step (HBc GE284 GE285) hb)
    clear HO290
    clear HO293
    clear HO296
    clear HO299
    clear BK284
    clear BK285
    clear HB
    have HO290 := n0_
    have HO293 := n1_
    have HO296 := n2_
    have HO299 := n3_
    have BK284 := n4_
    have BK285 := n5_
    have HB := n6_
    clear n0_ n1_ n2_ n3_ n4_ n5_ n6_
    (try clear hb)
    (try clear hb2)
    (try clear hk)
    (try clear hi)
    refine hK.out _ _ ⟨(blk_cell BK284.out 0).trans rfl, (blk_cell BK284.out 1).trans rfl, (blk_cell BK285.out 0).trans rfl, (blk_cell BK285.out 1).trans rfl⟩ (fun hHeld => ?_)
    clear hK K
    refine norm_ (a' := ?_) ?_ ?_
    rotate_left
    ·show Act.put _ (some 24) _ = _
     simp only [PUz]
     rfl
    refine pure_ (i := 5) (N := some 6) (v := ?_) (a' := ?_) #[true, true, true, true, true, true] rfl rfl (by kernel_rfl) (fun _ _ _ h => h) (Or.inl ⟨by rfl, ?_⟩) ?_ ?_
    rotate_left
    ·intro w'
     go_simp
     with_reducible rfl
    rotate_left
    ·simp only [PUz]
     rfl
    refine done_ (by kernel_rfl) ?_
    have hcz41_0 : w40.cell? ⟨gb284, 0, none⟩ = some (.slice A0_0 l0_0.length c0_0) := (blk_cell BK284.out 0).trans rfl
    have hcz41_1 : w40.cell? ⟨gb284, 1, none⟩ = some (.slice A0_1 l0_1.length c0_1) := (blk_cell BK284.out 1).trans rfl
    have hfz41_0 := blk_frozen BK284.out 0
    have hfz41_1 := blk_frozen BK284.out 1
    try go_wp2_with (first | ((with_reducible refine gate_callee (f := 54) rfl ?_); refine goesL_ (some 26) rfl rfl Tryd.func54 (by kernel_rfl) rfl #[.agg #[.slice A0_0 l0_0.length c0_0, .slice A0_1 l0_1.length c0_1]] rfl MPz ?_; (with_reducible refine (laws_toEntry.calls k _ _ l0_0 _ _ l0_1 t301 t304 _ ?side1 ?side2 ?side3 ?side4 A22.out).mono ?_); (case side1 => exact KCz (Kd.C_below HR0_0.out HB.out)); (case side2 => exact HC0_0.out); (case side3 => exact KCz (Kd.C_below HR0_1.out HB.out)); (case side4 => exact HC0_1.out); rintro e w42 ⟨v302, v305, rfl, ho0, ho1, hb⟩; refine ⟨_, rfl, ?_⟩; have n0_ := Aside0.mk (Kd.R_elder' (KRz HO290) (Kd.R_base ho0) hb); have n1_ := Aside0.mk (Kd.S_elder' (KSz HO293) (Kd.S_base ho1) hb); have n2_ := Aside0.mk (Kd.R_elder' (KRz HO296) (Kd.R_base ho0) hb); have n3_ := Aside0.mk (Kd.S_elder' (KSz HO299) (Kd.S_base ho1) hb); have n4_ := Aside0.mk (Kd.R_lower (Kd.R_new' (Kd.R_new' ho0 (Kd.R_lt (KRz HO290))) (Kd.R_lt (KRz HO296))) (below_size (HBc GE284 GE285))); have n5_ := Aside0.mk (Kd.S_lower (Kd.S_new' (Kd.S_new' ho1 (Kd.S_lt (KSz HO293))) (Kd.S_lt (KSz HO299))) (below_size (HBc GE284 GE285))); have n6_ := BBz BK284 hb; have n7_ := BBz BK285 hb; have n8_ := Aside0.mk (below_step (HBc GE284 GE285) hb); clear HO290; clear HO293; clear HO296; clear HO299; clear BK284; clear BK285; clear HB; have HO290 := n0_; have HO293 := n1_; have HO296 := n2_; have HO299 := n3_; have HO303 := n4_; have HO306 := n5_; have BK284 := n6_; have BK285 := n7_; have HB := n8_; clear n0_ n1_ n2_ n3_ n4_ n5_ n6_ n7_ n8_; (try clear hb); (try clear hb2); (try clear hk); (try clear hi); (try clear ho0); (try clear ho1)) | ((with_reducible refine gate_dst (N := 7) rfl ?_); refine box_event ?hg (N := 7) ?hd (cs := #[.slice none 0 0, .slice none 0 0]) (t := 71) ?hr ?_; (case hd => rfl); (case hg => rfl); (case hr => first | (go_simp; done) | (go_simp; rfl)); intro gb307 hg w43 hbox hb; have n0_ := Aside0.mk (Kd.R_below (KRz HO290) hb); have n1_ := Aside0.mk (Kd.S_below (KSz HO293) hb); have n2_ := Aside0.mk (Kd.R_below (KRz HO296) hb); have n3_ := Aside0.mk (Kd.S_below (KSz HO299) hb); have n4_ := Aside0.mk (Kd.R_below (KRz HO303) hb); have n5_ := Aside0.mk (Kd.S_below (KSz HO306) hb); have n6_ := BBz BK284 hb; have n7_ := BBz BK285 hb; have n8_ := Aside0.mk (below_step (HBc GE284 GE285) hb); have n9_ := Aside0.mk (hbox); have n10_ := BSz w hg (HBc GE284 GE285); have n11_ := BSz w hg (HBc GE284 GE285); have n12_ := BNz BK284 hg; have n13_ := BMz BK284 hg; have n14_ := BNz BK285 hg; have n15_ := BMz BK285 hg; clear HO290; clear HO293; clear HO296; clear HO299; clear HO303; clear HO306; clear BK284; clear BK285; clear HB; have HO290 := n0_; have HO293 := n1_; have HO296 := n2_; have HO299 := n3_; have HO303 := n4_; have HO306 := n5_; have BK284 := n6_; have BK285 := n7_; have HB := n8_; have BK307 := n9_; have GW307 := n10_; have GE307 := n11_; have NB284_307 := n12_; have NB307_284 := n13_; have NB285_307 := n14_; have NB307_285 := n15_; clear n0_ n1_ n2_ n3_ n4_ n5_ n6_ n7_ n8_ n9_ n10_ n11_ n12_ n13_ n14_ n15_; clear hb hbox hg; obtain ⟨Ao44, co44, eo44⟩ := Kd.R_slice HO303.out; subst eo44; have hnb45 := NB307_284.out; have hnc45 := NB284_307.out; have hnb46 := NB307_285.out; have hnc46 := NB285_307.out; have hcz47_0 : w43.cell? ⟨gb307, 0, none⟩ = some (.slice none 0 0) := (blk_cell BK307.out 0).trans rfl; have hcz47_1 : w43.cell? ⟨gb307, 1, none⟩ = some (.slice none 0 0) := (blk_cell BK307.out 1).trans rfl; have hfz47_0 := blk_frozen BK307.out 0; have hfz47_1 := blk_frozen BK307.out 1; obtain ⟨Ao48, co48, eo48⟩ := Kd.S_slice HO306.out; subst eo48; have hcz49_0 : w43.cell? ⟨gb285, 0, none⟩ = some (.slice A1_0 l1_0.length c1_0) := (blk_cell BK285.out 0).trans rfl; have hcz49_1 : w43.cell? ⟨gb285, 1, none⟩ = some (.slice A1_1 l1_1.length c1_1) := (blk_cell BK285.out 1).trans rfl; have hfz49_0 := blk_frozen BK285.out 0; have hfz49_1 := blk_frozen BK285.out 1) | ((with_reducible refine gate_callee (f := 54) rfl ?_); refine goesL_ (some 28) rfl rfl Tryd.func54 (by kernel_rfl) rfl #[.agg #[.slice A1_0 l1_0.length c1_0, .slice A1_1 l1_1.length c1_1]] rfl MPz ?_; (with_reducible refine (laws_toEntry.calls k _ _ l1_0 _ _ l1_1 t308 t311 _ ?side1 ?side2 ?side3 ?side4 A23.out).mono ?_); (case side1 => exact Kd.C_below HR1_0.out (HBd GE284 GE285 GE307)); (case side2 => exact HC1_0.out); (case side3 => exact Kd.C_below HR1_1.out (HBd GE284 GE285 GE307)); (case side4 => exact HC1_1.out); rintro e w50 ⟨v309, v312, rfl, ho0, ho1, hb⟩; refine ⟨_, rfl, ?_⟩; have n0_ := Aside0.mk (Kd.R_elder' (by (with_reducible repeat (first | apply Kd.R_alloc | apply Kd.R_drewN | apply Kd.R_drew)); exact (Kd.R_mono (Kd.R_far (p := ⟨gb307, 1, none⟩) (Kd.R_far (p := ⟨gb307, 0, none⟩) (Kd.R_types HO290.out BK307.out (by decide)) (fun _ hk => hk.2) (.slice Ao44 t301.length co44)) (fun _ hk => hk.2) (.slice Ao48 t304.length co48)) (fun _ h_ => h_.1))) (Kd.R_base ho0) hb); have n1_ := Aside0.mk (Kd.S_elder' (by (with_reducible repeat (first | apply Kd.S_alloc | apply Kd.S_drewN | apply Kd.S_drew)); exact (Kd.S_mono (Kd.S_far (p := ⟨gb307, 1, none⟩) (Kd.S_far (p := ⟨gb307, 0, none⟩) (Kd.S_types HO293.out BK307.out (by decide)) (fun _ hk => hk.2) (.slice Ao44 t301.length co44)) (fun _ hk => hk.2) (.slice Ao48 t304.length co48)) (fun _ h_ => h_.1))) (Kd.S_base ho1) hb); have n2_ := Aside0.mk (Kd.R_elder' (by (with_reducible repeat (first | apply Kd.R_alloc | apply Kd.R_drewN | apply Kd.R_drew)); exact (Kd.R_mono (Kd.R_far (p := ⟨gb307, 1, none⟩) (Kd.R_far (p := ⟨gb307, 0, none⟩) (Kd.R_types HO296.out BK307.out (by decide)) (fun _ hk => hk.2) (.slice Ao44 t301.length co44)) (fun _ hk => hk.2) (.slice Ao48 t304.length co48)) (fun _ h_ => h_.1))) (Kd.R_base ho0) hb); have n3_ := Aside0.mk (Kd.S_elder' (by (with_reducible repeat (first | apply Kd.S_alloc | apply Kd.S_drewN | apply Kd.S_drew)); exact (Kd.S_mono (Kd.S_far (p := ⟨gb307, 1, none⟩) (Kd.S_far (p := ⟨gb307, 0, none⟩) (Kd.S_types HO299.out BK307.out (by decide)) (fun _ hk => hk.2) (.slice Ao44 t301.length co44)) (fun _ hk => hk.2) (.slice Ao48 t304.length co48)) (fun _ h_ => h_.1))) (Kd.S_base ho1) hb); have n4_ := Aside0.mk (Kd.R_elder' (by (with_reducible repeat (first | apply Kd.R_alloc | apply Kd.R_drewN | apply Kd.R_drew)); exact (Kd.R_mono (Kd.R_far (p := ⟨gb307, 1, none⟩) (Kd.R_far (p := ⟨gb307, 0, none⟩) (Kd.R_types HO303.out BK307.out (by decide)) (fun _ hk => hk.2) (.slice Ao44 t301.length co44)) (fun _ hk => hk.2) (.slice Ao48 t304.length co48)) (fun _ h_ => h_.1))) (Kd.R_base ho0) hb); have n5_ := Aside0.mk (Kd.S_elder' (by (with_reducible repeat (first | apply Kd.S_alloc | apply Kd.S_drewN | apply Kd.S_drew)); exact (Kd.S_mono (Kd.S_far (p := ⟨gb307, 1, none⟩) (Kd.S_far (p := ⟨gb307, 0, none⟩) (Kd.S_types HO306.out BK307.out (by decide)) (fun _ hk => hk.2) (.slice Ao44 t301.length co44)) (fun _ hk => hk.2) (.slice Ao48 t304.length co48)) (fun _ h_ => h_.1))) (Kd.S_base ho1) hb); have n6_ := Aside0.mk (Kd.R_lower (Kd.R_new' (Kd.R_new' (Kd.R_new' ho0 (Kd.R_lt (by (with_reducible repeat (first | apply Kd.R_alloc | apply Kd.R_drewN | apply Kd.R_drew)); exact (Kd.R_mono (Kd.R_far (p := ⟨gb307, 1, none⟩) (Kd.R_far (p := ⟨gb307, 0, none⟩) (Kd.R_types HO290.out BK307.out (by decide)) (fun _ hk => hk.2) (.slice Ao44 t301.length co44)) (fun _ hk => hk.2) (.slice Ao48 t304.length co48)) (fun _ h_ => h_.1))))) (Kd.R_lt (by (with_reducible repeat (first | apply Kd.R_alloc | apply Kd.R_drewN | apply Kd.R_drew)); exact (Kd.R_mono (Kd.R_far (p := ⟨gb307, 1, none⟩) (Kd.R_far (p := ⟨gb307, 0, none⟩) (Kd.R_types HO296.out BK307.out (by decide)) (fun _ hk => hk.2) (.slice Ao44 t301.length co44)) (fun _ hk => hk.2) (.slice Ao48 t304.length co48)) (fun _ h_ => h_.1))))) (Kd.R_lt (by (with_reducible repeat (first | apply Kd.R_alloc | apply Kd.R_drewN | apply Kd.R_drew)); exact (Kd.R_mono (Kd.R_far (p := ⟨gb307, 1, none⟩) (Kd.R_far (p := ⟨gb307, 0, none⟩) (Kd.R_types HO303.out BK307.out (by decide)) (fun _ hk => hk.2) (.slice Ao44 t301.length co44)) (fun _ hk => hk.2) (.slice Ao48 t304.length co48)) (fun _ h_ => h_.1))))) (below_size (HBd GE284 GE285 GE307))); have n7_ := Aside0.mk (Kd.S_lower (Kd.S_new' (Kd.S_new' (Kd.S_new' ho1 (Kd.S_lt (by (with_reducible repeat (first | apply Kd.S_alloc | apply Kd.S_drewN | apply Kd.S_drew)); exact (Kd.S_mono (Kd.S_far (p := ⟨gb307, 1, none⟩) (Kd.S_far (p := ⟨gb307, 0, none⟩) (Kd.S_types HO293.out BK307.out (by decide)) (fun _ hk => hk.2) (.slice Ao44 t301.length co44)) (fun _ hk => hk.2) (.slice Ao48 t304.length co48)) (fun _ h_ => h_.1))))) (Kd.S_lt (by (with_reducible repeat (first | apply Kd.S_alloc | apply Kd.S_drewN | apply Kd.S_drew)); exact (Kd.S_mono (Kd.S_far (p := ⟨gb307, 1, none⟩) (Kd.S_far (p := ⟨gb307, 0, none⟩) (Kd.S_types HO299.out BK307.out (by decide)) (fun _ hk => hk.2) (.slice Ao44 t301.length co44)) (fun _ hk => hk.2) (.slice Ao48 t304.length co48)) (fun _ h_ => h_.1))))) (Kd.S_lt (by (with_reducible repeat (first | apply Kd.S_alloc | apply Kd.S_drewN | apply Kd.S_drew)); exact (Kd.S_mono (Kd.S_far (p := ⟨gb307, 1, none⟩) (Kd.S_far (p := ⟨gb307, 0, none⟩) (Kd.S_types HO306.out BK307.out (by decide)) (fun _ hk => hk.2) (.slice Ao44 t301.length co44)) (fun _ hk => hk.2) (.slice Ao48 t304.length co48)) (fun _ h_ => h_.1))))) (below_size (HBd GE284 GE285 GE307))); have n8_ := Aside0.mk (blk_below (g := gb284) (o := .cells #[.slice A0_0 l0_0.length c0_0, .slice A0_1 l0_1.length c0_1] 66 (0, 0)) (by (with_reducible repeat (first | refine blk_drewN ?_ _ | refine blk_drew ?_ | refine blk_alloc ?_ _)); refine blk_far ?_ NB284_307.out _; (with_reducible repeat (first | refine blk_drewN ?_ _ | refine blk_drew ?_ | refine blk_alloc ?_ _)); refine blk_far ?_ NB284_307.out _; (with_reducible repeat (first | refine blk_drewN ?_ _ | refine blk_drew ?_ | refine blk_alloc ?_ _)); exact BK284.out) hb); have n9_ := Aside0.mk (blk_below (g := gb285) (o := .cells #[.slice A1_0 l1_0.length c1_0, .slice A1_1 l1_1.length c1_1] 66 (0, 0)) (by (with_reducible repeat (first | refine blk_drewN ?_ _ | refine blk_drew ?_ | refine blk_alloc ?_ _)); refine blk_far ?_ NB285_307.out _; (with_reducible repeat (first | refine blk_drewN ?_ _ | refine blk_drew ?_ | refine blk_alloc ?_ _)); refine blk_far ?_ NB285_307.out _; (with_reducible repeat (first | refine blk_drewN ?_ _ | refine blk_drew ?_ | refine blk_alloc ?_ _)); exact BK285.out) hb); have n10_ := Aside0.mk (blk_below (g := gb307) (o := .cells #[.slice Ao44 t301.length co44, .slice Ao48 t304.length co48] 71 (0, 0)) (by (with_reducible repeat (first | refine blk_drewN ?_ _ | refine blk_drew ?_ | refine blk_alloc ?_ _)); refine blk_put (cs := #[.slice Ao44 t301.length co44, .slice none 0 0]) ?_ 1 _ rfl; (with_reducible repeat (first | refine blk_drewN ?_ _ | refine blk_drew ?_ | refine blk_alloc ?_ _)); refine blk_put (cs := #[.slice none 0 0, .slice none 0 0]) ?_ 0 _ rfl; (with_reducible repeat (first | refine blk_drewN ?_ _ | refine blk_drew ?_ | refine blk_alloc ?_ _)); exact BK307.out) hb); have n11_ := Aside0.mk (below_step (HBd GE284 GE285 GE307) hb); clear HO290; clear HO293; clear HO296; clear HO299; clear HO303; clear HO306; clear BK284; clear BK285; clear BK307; clear HB; have HO290 := n0_; have HO293 := n1_; have HO296 := n2_; have HO299 := n3_; have HO303 := n4_; have HO306 := n5_; have HO310 := n6_; have HO313 := n7_; have BK284 := n8_; have BK285 := n9_; have BK307 := n10_; have HB := n11_; clear n0_ n1_ n2_ n3_ n4_ n5_ n6_ n7_ n8_ n9_ n10_ n11_; (try clear hb); (try clear hb2); (try clear hk); (try clear hi); (try clear ho0); (try clear ho1)) | ((with_reducible refine gate_dst (N := 8) rfl ?_); refine box_event ?hg (N := 8) ?hd (cs := #[.slice none 0 0, .slice none 0 0]) (t := 71) ?hr ?_; (case hd => rfl); (case hg => rfl); (case hr => first | (go_simp; done) | (go_simp; rfl)); intro gb314 hg w51 hbox hb; have n0_ := Aside0.mk (Kd.R_below (KRz HO290) hb); have n1_ := Aside0.mk (Kd.S_below (KSz HO293) hb); have n2_ := Aside0.mk (Kd.R_below (KRz HO296) hb); have n3_ := Aside0.mk (Kd.S_below (KSz HO299) hb); have n4_ := Aside0.mk (Kd.R_below (KRz HO303) hb); have n5_ := Aside0.mk (Kd.S_below (KSz HO306) hb); have n6_ := Aside0.mk (Kd.R_below (KRz HO310) hb); have n7_ := Aside0.mk (Kd.S_below (KSz HO313) hb); have n8_ := BBz BK284 hb; have n9_ := BBz BK285 hb; have n10_ := BBz BK307 hb; have n11_ := Aside0.mk (below_step (HBd GE284 GE285 GE307) hb); have n12_ := Aside0.mk (hbox); have n13_ := BSz w hg (HBd GE284 GE285 GE307); have n14_ := BSz w hg (HBd GE284 GE285 GE307); have n15_ := BNz BK284 hg; have n16_ := BMz BK284 hg; have n17_ := BNz BK285 hg; have n18_ := BMz BK285 hg; have n19_ := BNz BK307 hg; have n20_ := BMz BK307 hg; clear HO290; clear HO293; clear HO296; clear HO299; clear HO303; clear HO306; clear HO310; clear HO313; clear BK284; clear BK285; clear BK307; clear HB; have HO290 := n0_; have HO293 := n1_; have HO296 := n2_; have HO299 := n3_; have HO303 := n4_; have HO306 := n5_; have HO310 := n6_; have HO313 := n7_; have BK284 := n8_; have BK285 := n9_; have BK307 := n10_; have HB := n11_; have BK314 := n12_; have GW314 := n13_; have GE314 := n14_; have NB284_314 := n15_; have NB314_284 := n16_; have NB285_314 := n17_; have NB314_285 := n18_; have NB307_314 := n19_; have NB314_307 := n20_; clear n0_ n1_ n2_ n3_ n4_ n5_ n6_ n7_ n8_ n9_ n10_ n11_ n12_ n13_ n14_ n15_ n16_ n17_ n18_ n19_ n20_; clear hb hbox hg; obtain ⟨Ao52, co52, eo52⟩ := Kd.R_slice HO310.out; subst eo52; have hnb53 := NB314_284.out; have hnc53 := NB284_314.out; have hnb54 := NB314_285.out; have hnc54 := NB285_314.out; have hnb55 := NB314_307.out; have hnc55 := NB307_314.out; have hcz56_0 : w51.cell? ⟨gb314, 0, none⟩ = some (.slice none 0 0) := (blk_cell BK314.out 0).trans rfl; have hcz56_1 : w51.cell? ⟨gb314, 1, none⟩ = some (.slice none 0 0) := (blk_cell BK314.out 1).trans rfl; have hfz56_0 := blk_frozen BK314.out 0; have hfz56_1 := blk_frozen BK314.out 1; obtain ⟨Ao57, co57, eo57⟩ := Kd.S_slice HO313.out; subst eo57; have hcz58_0 : w51.cell? ⟨gb307, 0, none⟩ = some (.slice Ao44 t301.length co44) := (blk_cell BK307.out 0).trans rfl; have hcz58_1 : w51.cell? ⟨gb307, 1, none⟩ = some (.slice Ao48 t304.length co48) := (blk_cell BK307.out 1).trans rfl; have hfz58_0 := blk_frozen BK307.out 0; have hfz58_1 := blk_frozen BK307.out 1) | ((with_reducible refine gate_callee (f := 63) rfl ?_); refine goesL_ (some 31) rfl rfl Tryd.func63 (by kernel_rfl) rfl #[.agg #[.slice Ao44 t301.length co44, .slice Ao48 t304.length co48], .agg #[.slice Ao52 t308.length co52, .slice Ao57 t311.length co57]] rfl MPz ?_; (with_reducible refine (impl_EntrySame.calls k _ _ t301 _ _ t304 _ _ t308 _ _ t311 t315 _ ?side1 ?side2 ?side3 ?side4 ?side5 ?side6 ?side7 ?side8 A24.out).mono ?_); (case side1 => refine (Kd.R_reads' (e := 42) (base := w.heap.size) (ok := fun k_ => (((True ∧ some k_ ≠ (.slice Ao36 t288.length co36 : Value).ownBlock) ∧ some k_ ≠ (.slice Ao38 t294.length co38 : Value).ownBlock) ∧ some k_ ≠ (.slice Ao52 t308.length co52 : Value).ownBlock)) (n := t301.length) (c := co44) ?_).2.2; exact (by (with_reducible repeat (first | apply Kd.R_alloc | apply Kd.R_drewN | apply Kd.R_drew)); exact (Kd.R_mono (Kd.R_far (p := ⟨gb314, 1, none⟩) (Kd.R_far (p := ⟨gb314, 0, none⟩) (Kd.R_types HO303.out BK314.out (by decide)) (fun _ hk => hk.2) (.slice Ao52 t308.length co52)) (fun _ hk => hk.2) (.slice Ao57 t311.length co57)) (fun _ h_ => h_.1)))); (case side2 => exact (Kd.R_reads' HO303.out).2.1); (case side3 => refine (Kd.S_reads' (e := 114) (base := w.heap.size) (ok := fun k_ => (((True ∧ some k_ ≠ (.slice Ao37 t291.length co37 : Value).ownBlock) ∧ some k_ ≠ (.slice Ao39 t297.length co39 : Value).ownBlock) ∧ some k_ ≠ (.slice Ao57 t311.length co57 : Value).ownBlock)) (n := t304.length) (c := co48) ?_).2.2; exact (by (with_reducible repeat (first | apply Kd.S_alloc | apply Kd.S_drewN | apply Kd.S_drew)); exact (Kd.S_mono (Kd.S_far (p := ⟨gb314, 1, none⟩) (Kd.S_far (p := ⟨gb314, 0, none⟩) (Kd.S_types HO306.out BK314.out (by decide)) (fun _ hk => hk.2) (.slice Ao52 t308.length co52)) (fun _ hk => hk.2) (.slice Ao57 t311.length co57)) (fun _ h_ => h_.1)))); (case side4 => exact (Kd.S_reads' HO306.out).2.1); (case side5 => refine (Kd.R_reads' (e := 42) (base := w.heap.size) (ok := fun k_ => (((True ∧ some k_ ≠ (.slice Ao36 t288.length co36 : Value).ownBlock) ∧ some k_ ≠ (.slice Ao38 t294.length co38 : Value).ownBlock) ∧ some k_ ≠ (.slice Ao44 t301.length co44 : Value).ownBlock)) (n := t308.length) (c := co52) ?_).2.2; exact (by (with_reducible repeat (first | apply Kd.R_alloc | apply Kd.R_drewN | apply Kd.R_drew)); exact (Kd.R_mono (Kd.R_far (p := ⟨gb314, 1, none⟩) (Kd.R_far (p := ⟨gb314, 0, none⟩) (Kd.R_types HO310.out BK314.out (by decide)) (fun _ hk => hk.2) (.slice Ao52 t308.length co52)) (fun _ hk => hk.2) (.slice Ao57 t311.length co57)) (fun _ h_ => h_.1)))); (case side6 => exact (Kd.R_reads' HO310.out).2.1); (case side7 => refine (Kd.S_reads' (e := 114) (base := w.heap.size) (ok := fun k_ => (((True ∧ some k_ ≠ (.slice Ao37 t291.length co37 : Value).ownBlock) ∧ some k_ ≠ (.slice Ao39 t297.length co39 : Value).ownBlock) ∧ some k_ ≠ (.slice Ao48 t304.length co48 : Value).ownBlock)) (n := t311.length) (c := co57) ?_).2.2; exact (by (with_reducible repeat (first | apply Kd.S_alloc | apply Kd.S_drewN | apply Kd.S_drew)); exact (Kd.S_mono (Kd.S_far (p := ⟨gb314, 1, none⟩) (Kd.S_far (p := ⟨gb314, 0, none⟩) (Kd.S_types HO313.out BK314.out (by decide)) (fun _ hk => hk.2) (.slice Ao52 t308.length co52)) (fun _ hk => hk.2) (.slice Ao57 t311.length co57)) (fun _ h_ => h_.1)))); (case side8 => exact (Kd.S_reads' HO313.out).2.1); rintro e w59 ⟨rfl, hb⟩; refine ⟨_, rfl, ?_⟩; have n0_ := Aside0.mk (Kd.R_below (by (with_reducible repeat (first | apply Kd.R_alloc | apply Kd.R_drewN | apply Kd.R_drew)); exact (Kd.R_mono (Kd.R_far (p := ⟨gb314, 1, none⟩) (Kd.R_far (p := ⟨gb314, 0, none⟩) (Kd.R_types HO290.out BK314.out (by decide)) (fun _ hk => hk.2) (.slice Ao52 t308.length co52)) (fun _ hk => hk.2) (.slice Ao57 t311.length co57)) (fun _ h_ => h_.1))) hb); have n1_ := Aside0.mk (Kd.S_below (by (with_reducible repeat (first | apply Kd.S_alloc | apply Kd.S_drewN | apply Kd.S_drew)); exact (Kd.S_mono (Kd.S_far (p := ⟨gb314, 1, none⟩) (Kd.S_far (p := ⟨gb314, 0, none⟩) (Kd.S_types HO293.out BK314.out (by decide)) (fun _ hk => hk.2) (.slice Ao52 t308.length co52)) (fun _ hk => hk.2) (.slice Ao57 t311.length co57)) (fun _ h_ => h_.1))) hb); have n2_ := Aside0.mk (Kd.R_below (by (with_reducible repeat (first | apply Kd.R_alloc | apply Kd.R_drewN | apply Kd.R_drew)); exact (Kd.R_mono (Kd.R_far (p := ⟨gb314, 1, none⟩) (Kd.R_far (p := ⟨gb314, 0, none⟩) (Kd.R_types HO296.out BK314.out (by decide)) (fun _ hk => hk.2) (.slice Ao52 t308.length co52)) (fun _ hk => hk.2) (.slice Ao57 t311.length co57)) (fun _ h_ => h_.1))) hb); have n3_ := Aside0.mk (Kd.S_below (by (with_reducible repeat (first | apply Kd.S_alloc | apply Kd.S_drewN | apply Kd.S_drew)); exact (Kd.S_mono (Kd.S_far (p := ⟨gb314, 1, none⟩) (Kd.S_far (p := ⟨gb314, 0, none⟩) (Kd.S_types HO299.out BK314.out (by decide)) (fun _ hk => hk.2) (.slice Ao52 t308.length co52)) (fun _ hk => hk.2) (.slice Ao57 t311.length co57)) (fun _ h_ => h_.1))) hb); have n4_ := Aside0.mk (Kd.R_below (by (with_reducible repeat (first | apply Kd.R_alloc | apply Kd.R_drewN | apply Kd.R_drew)); exact (Kd.R_mono (Kd.R_far (p := ⟨gb314, 1, none⟩) (Kd.R_far (p := ⟨gb314, 0, none⟩) (Kd.R_types HO303.out BK314.out (by decide)) (fun _ hk => hk.2) (.slice Ao52 t308.length co52)) (fun _ hk => hk.2) (.slice Ao57 t311.length co57)) (fun _ h_ => h_.1))) hb); have n5_ := Aside0.mk (Kd.S_below (by (with_reducible repeat (first | apply Kd.S_alloc | apply Kd.S_drewN | apply Kd.S_drew)); exact (Kd.S_mono (Kd.S_far (p := ⟨gb314, 1, none⟩) (Kd.S_far (p := ⟨gb314, 0, none⟩) (Kd.S_types HO306.out BK314.out (by decide)) (fun _ hk => hk.2) (.slice Ao52 t308.length co52)) (fun _ hk => hk.2) (.slice Ao57 t311.length co57)) (fun _ h_ => h_.1))) hb); have n6_ := Aside0.mk (Kd.R_below (by (with_reducible repeat (first | apply Kd.R_alloc | apply Kd.R_drewN | apply Kd.R_drew)); exact (Kd.R_mono (Kd.R_far (p := ⟨gb314, 1, none⟩) (Kd.R_far (p := ⟨gb314, 0, none⟩) (Kd.R_types HO310.out BK314.out (by decide)) (fun _ hk => hk.2) (.slice Ao52 t308.length co52)) (fun _ hk => hk.2) (.slice Ao57 t311.length co57)) (fun _ h_ => h_.1))) hb); have n7_ := Aside0.mk (Kd.S_below (by (with_reducible repeat (first | apply Kd.S_alloc | apply Kd.S_drewN | apply Kd.S_drew)); exact (Kd.S_mono (Kd.S_far (p := ⟨gb314, 1, none⟩) (Kd.S_far (p := ⟨gb314, 0, none⟩) (Kd.S_types HO313.out BK314.out (by decide)) (fun _ hk => hk.2) (.slice Ao52 t308.length co52)) (fun _ hk => hk.2) (.slice Ao57 t311.length co57)) (fun _ h_ => h_.1))) hb); have n8_ := Aside0.mk (blk_below (g := gb284) (o := .cells #[.slice A0_0 l0_0.length c0_0, .slice A0_1 l0_1.length c0_1] 66 (0, 0)) (by (with_reducible repeat (first | refine blk_drewN ?_ _ | refine blk_drew ?_ | refine blk_alloc ?_ _)); refine blk_far ?_ NB284_314.out _; (with_reducible repeat (first | refine blk_drewN ?_ _ | refine blk_drew ?_ | refine blk_alloc ?_ _)); refine blk_far ?_ NB284_314.out _; (with_reducible repeat (first | refine blk_drewN ?_ _ | refine blk_drew ?_ | refine blk_alloc ?_ _)); exact BK284.out) hb); have n9_ := Aside0.mk (blk_below (g := gb285) (o := .cells #[.slice A1_0 l1_0.length c1_0, .slice A1_1 l1_1.length c1_1] 66 (0, 0)) (by (with_reducible repeat (first | refine blk_drewN ?_ _ | refine blk_drew ?_ | refine blk_alloc ?_ _)); refine blk_far ?_ NB285_314.out _; (with_reducible repeat (first | refine blk_drewN ?_ _ | refine blk_drew ?_ | refine blk_alloc ?_ _)); refine blk_far ?_ NB285_314.out _; (with_reducible repeat (first | refine blk_drewN ?_ _ | refine blk_drew ?_ | refine blk_alloc ?_ _)); exact BK285.out) hb); have n10_ := Aside0.mk (blk_below (g := gb307) (o := .cells #[.slice Ao44 t301.length co44, .slice Ao48 t304.length co48] 71 (0, 0)) (by (with_reducible repeat (first | refine blk_drewN ?_ _ | refine blk_drew ?_ | refine blk_alloc ?_ _)); refine blk_far ?_ NB307_314.out _; (with_reducible repeat (first | refine blk_drewN ?_ _ | refine blk_drew ?_ | refine blk_alloc ?_ _)); refine blk_far ?_ NB307_314.out _; (with_reducible repeat (first | refine blk_drewN ?_ _ | refine blk_drew ?_ | refine blk_alloc ?_ _)); exact BK307.out) hb); have n11_ := Aside0.mk (blk_below (g := gb314) (o := .cells #[.slice Ao52 t308.length co52, .slice Ao57 t311.length co57] 71 (0, 0)) (by (with_reducible repeat (first | refine blk_drewN ?_ _ | refine blk_drew ?_ | refine blk_alloc ?_ _)); refine blk_put (cs := #[.slice Ao52 t308.length co52, .slice none 0 0]) ?_ 1 _ rfl; (with_reducible repeat (first | refine blk_drewN ?_ _ | refine blk_drew ?_ | refine blk_alloc ?_ _)); refine blk_put (cs := #[.slice none 0 0, .slice none 0 0]) ?_ 0 _ rfl; (with_reducible repeat (first | refine blk_drewN ?_ _ | refine blk_drew ?_ | refine blk_alloc ?_ _)); exact BK314.out) hb); have n12_ := Aside0.mk (below_step (HBe GE284 GE285 GE307 GE314) hb); clear HO290; clear HO293; clear HO296; clear HO299; clear HO303; clear HO306; clear HO310; clear HO313; clear BK284; clear BK285; clear BK307; clear BK314; clear HB; have HO290 := n0_; have HO293 := n1_; have HO296 := n2_; have HO299 := n3_; have HO303 := n4_; have HO306 := n5_; have HO310 := n6_; have HO313 := n7_; have BK284 := n8_; have BK285 := n9_; have BK307 := n10_; have BK314 := n11_; have HB := n12_; clear n0_ n1_ n2_ n3_ n4_ n5_ n6_ n7_ n8_ n9_ n10_ n11_ n12_; (try clear hb); (try clear hb2); (try clear hk); (try clear hi)))
    go_ret
    exact ⟨EZa, HBe GE284 GE285 GE307 GE314⟩
   ·rw [if_neg c25] at H
    have c25b0 : (t315 != t300) = false := by simpa using c25
    (try (have c25b1 : decide (t315 = t300) = true := by simpa using c25))
    (try (have c25b2 : (t315 == t300) = true := by simpa using c25))
    clear c25
    replace H := Option.bind_eq_some_iff.mp H
    obtain ⟨⟨t316, t319⟩, A600, H⟩ := H
    replace H : ((laws_eqEntry.f k t301 t304 t316 t319).bind fun t322 => (if t322 = true then ((laws_toEntry.f k l1_0 l1_1).bind fun bt323 => ((laws_eqEntry.f k t308 t311 bt323.1 bt323.2).bind fun t329 => (if t329 = true then (some true) else (some false)))) else (some false))) = some r := H
    have A60 := Aside0.mk A600
    clear A600
    replace H := Option.bind_eq_some_iff.mp H
    obtain ⟨t322, A610, H⟩ := H
    replace H : (if t322 = true then ((laws_toEntry.f k l1_0 l1_1).bind fun bt323 => ((laws_eqEntry.f k t308 t311 bt323.1 bt323.2).bind fun t329 => (if t329 = true then (some true) else (some false)))) else (some false)) = some r := H
    have A61 := Aside0.mk A610
    clear A610
    by_cases c62 : t322 = true
    ·subst c62
     have H1 : ((laws_toEntry.f k l1_0 l1_1).bind fun bt323 => ((laws_eqEntry.f k t308 t311 bt323.1 bt323.2).bind fun t329 => (if t329 = true then (some true) else (some false)))) = some r := by rw [if_pos rfl] at H; exact H
     clear H
     have H := H1
     clear H1
     replace H := Option.bind_eq_some_iff.mp H
     obtain ⟨⟨t323, t326⟩, A630, H⟩ := H
     replace H : ((laws_eqEntry.f k t308 t311 t323 t326).bind fun t329 => (if t329 = true then (some true) else (some false))) = some r := H
     have A63 := Aside0.mk A630
     clear A630
     replace H := Option.bind_eq_some_iff.mp H
     obtain ⟨t329, A640, H⟩ := H
     replace H : (if t329 = true then (some true) else (some false)) = some r := H
     have A64 := Aside0.mk A640
     clear A640
     by_cases c65 : t329 = true
     ·subst c65
      have H1 : (some true) = some r := by rw [if_pos rfl] at H; exact H
      clear H
      have H := H1
      clear H1
      obtain rfl := Option.some.inj H
      go_enter Tryd.func12, Tryd.ntmps12
      try go_wp2_with (first | ((with_reducible refine gate_dst (N := 2) rfl ?_); refine box_event ?hg (N := 2) ?hd (cs := #[.slice A0_0 l0_0.length c0_0, .slice A0_1 l0_1.length c0_1]) (t := 66) ?hr ?_; (case hd => rfl); (case hg => rfl); (case hr => first | (go_simp; done) | (go_simp; rfl)); intro gb284 hg w66 hbox hb; have n0_ := Aside0.mk (below_step HBa hb); have n1_ := Aside0.mk (hbox); have n2_ := BSz w hg HBa; have n3_ := BSz w hg HBa; clear HB; have HB := n0_; have BK284 := n1_; have GW284 := n2_; have GE284 := n3_; clear n0_ n1_ n2_ n3_; clear hb hbox hg) | ((with_reducible refine gate_dst (N := 3) rfl ?_); refine box_event ?hg (N := 3) ?hd (cs := #[.slice A1_0 l1_0.length c1_0, .slice A1_1 l1_1.length c1_1]) (t := 66) ?hr ?_; (case hd => rfl); (case hg => rfl); (case hr => first | (go_simp; done) | (go_simp; rfl)); intro gb285 hg w67 hbox hb; have n0_ := BBz BK284 hb; have n1_ := Aside0.mk (below_step (HBb GE284) hb); have n2_ := Aside0.mk (hbox); have n3_ := BSz w hg (HBb GE284); have n4_ := BSz w hg (HBb GE284); have n5_ := BNz BK284 hg; have n6_ := BMz BK284 hg; clear BK284; clear HB; have BK284 := n0_; have HB := n1_; have BK285 := n2_; have GW285 := n3_; have GE285 := n4_; have NB284_285 := n5_; have NB285_284 := n6_; clear n0_ n1_ n2_ n3_ n4_ n5_ n6_; clear hb hbox hg; have hnb68 := NB284_285.out; have hnc68 := NB285_284.out; have hcz69_0 : w67.cell? ⟨gb284, 0, none⟩ = some (.slice A0_0 l0_0.length c0_0) := (blk_cell BK284.out 0).trans rfl; have hcz69_1 : w67.cell? ⟨gb284, 1, none⟩ = some (.slice A0_1 l0_1.length c0_1) := (blk_cell BK284.out 1).trans rfl; have hfz69_0 := blk_frozen BK284.out 0; have hfz69_1 := blk_frozen BK284.out 1) | ((with_reducible refine gate_callee (f := 52) rfl ?_); refine goesL_ (some 12) rfl rfl Tryd.func52 (by kernel_rfl) rfl #[.agg #[.slice A0_0 l0_0.length c0_0, .slice A0_1 l0_1.length c0_1], .int .i64 1048576] rfl MPz ?_; (with_reducible refine (laws_szEntry.calls k _ _ l0_0 _ _ l0_1 1048576 t286 _ ?side1 ?side2 ?side3 ?side4 A3.out).mono ?_); (case side1 => exact KCz (Kd.C_below HR0_0.out HB.out)); (case side2 => exact HC0_0.out); (case side3 => exact KCz (Kd.C_below HR0_1.out HB.out)); (case side4 => exact HC0_1.out); rintro e w70 ⟨rfl, hb⟩; refine ⟨_, rfl, ?_⟩; have n0_ := BBz BK284 hb; have n1_ := BBz BK285 hb; have n2_ := Aside0.mk (below_step (HBc GE284 GE285) hb); clear BK284; clear BK285; clear HB; have BK284 := n0_; have BK285 := n1_; have HB := n2_; clear n0_ n1_ n2_; (try clear hb); (try clear hb2); (try clear hk); (try clear hi); have hcz71_0 : w70.cell? ⟨gb285, 0, none⟩ = some (.slice A1_0 l1_0.length c1_0) := (blk_cell BK285.out 0).trans rfl; have hcz71_1 : w70.cell? ⟨gb285, 1, none⟩ = some (.slice A1_1 l1_1.length c1_1) := (blk_cell BK285.out 1).trans rfl; have hfz71_0 := blk_frozen BK285.out 0; have hfz71_1 := blk_frozen BK285.out 1) | ((with_reducible refine gate_callee (f := 52) rfl ?_); refine goesL_ (some 17) rfl rfl Tryd.func52 (by kernel_rfl) rfl #[.agg #[.slice A1_0 l1_0.length c1_0, .slice A1_1 l1_1.length c1_1], .int .i64 t286] rfl MPz ?_; (with_reducible refine (laws_szEntry.calls k _ _ l1_0 _ _ l1_1 t286 t287 _ ?side1 ?side2 ?side3 ?side4 A10.out).mono ?_); (case side1 => exact KCz (Kd.C_below HR1_0.out HB.out)); (case side2 => exact HC1_0.out); (case side3 => exact KCz (Kd.C_below HR1_1.out HB.out)); (case side4 => exact HC1_1.out); rintro e w72 ⟨rfl, hb⟩; refine ⟨_, rfl, ?_⟩; have n0_ := BBz BK284 hb; have n1_ := BBz BK285 hb; have n2_ := Aside0.mk (below_step (HBc GE284 GE285) hb); clear BK284; clear BK285; clear HB; have BK284 := n0_; have BK285 := n1_; have HB := n2_; clear n0_ n1_ n2_; (try clear hb); (try clear hb2); (try clear hk); (try clear hi)))
      have n0_ := Aside0.mk (blk_drew BK284.out)
      have n1_ := Aside0.mk (blk_drew BK285.out)
      have n2_ := Aside0.mk (below_drew1 HB.out)
      clear BK284
      clear BK285
      clear HB
      have BK284 := n0_
      have BK285 := n1_
      have HB := n2_
      clear n0_ n1_ n2_
      refine start_ (n := 6) (S := fun w' => w'.cell? ⟨gb284, 0, none⟩ = some (.slice A0_0 l0_0.length c0_0) ∧ w'.cell? ⟨gb284, 1, none⟩ = some (.slice A0_1 l0_1.length c0_1) ∧ w'.cell? ⟨gb285, 0, none⟩ = some (.slice A1_0 l1_0.length c1_0) ∧ w'.cell? ⟨gb285, 1, none⟩ = some (.slice A1_1 l1_1.length c1_1)) (ds := []) #[false, false, false, false, false, false] (by kernel_rfl) rfl rfl ⟨(blk_cell BK284.out 0).trans rfl, (blk_cell BK284.out 1).trans rfl, (blk_cell BK285.out 0).trans rfl, (blk_cell BK285.out 1).trans rfl⟩ (fun hHeld => ?_)
      generalize w72.drew = w73 at BK284 BK285 HB hHeld ⊢
      refine take_ (i := 0) (N := some 20) (v := ?_) (a' := ?_) #[true, false, false, false, false, false] rfl rfl (by kernel_rfl) (fun _ _ _ h => h) (Or.inl ⟨by rfl, ?_⟩) hHeld ?_ ?_
      rotate_left
      ·rintro w' ⟨s0, s1, s2, s3⟩
       go_simp
       with_reducible rfl
      rotate_left
      ·simp only [PUz]
       rfl
      refine take_ (i := 2) (N := some 22) (v := ?_) (a' := ?_) #[true, false, true, false, false, false] rfl rfl (by kernel_rfl) (fun _ _ _ h => h) (Or.inl ⟨by rfl, ?_⟩) hHeld ?_ ?_
      rotate_left
      ·rintro w' ⟨s0, s1, s2, s3⟩
       go_simp
       with_reducible rfl
      rotate_left
      ·simp only [PUz]
       rfl
      refine one_ (i := 1) (N := some 21) #[true, true, true, false, false, false] rfl rfl (by kernel_rfl) (by decide) (fun K hK => ?_)
      refine goes_ Tryd.func54 (by kernel_rfl) rfl #[.agg #[.slice A0_0 l0_0.length c0_0, .slice A0_1 l0_1.length c0_1]] (by rfl) rfl rfl MPz ?_
      with_reducible refine (laws_toEntry.calls k _ _ l0_0 _ _ l0_1 t288 t291 _ ?side1 ?side2 ?side3 ?side4 A19.out).mono ?_
      (case side1 => exact KCz (Kd.C_below HR0_0.out HB.out))
      (case side2 => exact HC0_0.out)
      (case side3 => exact KCz (Kd.C_below HR0_1.out HB.out))
      (case side4 => exact HC0_1.out)
      rintro e w74 ⟨v289, v292, rfl, ho0, ho1, hb⟩
      refine ⟨_, rfl, ?_⟩
      have n0_ := Aside0.mk (Kd.R_lower ho0 (below_size (HBc GE284 GE285)))
      have n1_ := Aside0.mk (Kd.S_lower ho1 (below_size (HBc GE284 GE285)))
      have n2_ := BBz BK284 hb
      have n3_ := BBz BK285 hb
      have n4_ := Aside0.mk (below_step (HBc GE284 GE285) hb)
      clear BK284
      clear BK285
      clear HB
      have HO290 := n0_
      have HO293 := n1_
      have BK284 := n2_
      have BK285 := n3_
      have HB := n4_
      clear n0_ n1_ n2_ n3_ n4_
      (try clear hb)
      (try clear hb2)
      (try clear hk)
      (try clear hi)
      (try clear ho0)
      (try clear ho1)
      refine hK.out _ _ ⟨(blk_cell BK284.out 0).trans rfl, (blk_cell BK284.out 1).trans rfl, (blk_cell BK285.out 0).trans rfl, (blk_cell BK285.out 1).trans rfl⟩ (fun hHeld => ?_)
      clear hK K
      refine norm_ (a' := ?_) ?_ ?_
      rotate_left
      ·show Act.put _ (some 21) _ = _
       simp only [PUz]
       rfl
      refine one_ (i := 3) (N := some 23) #[true, true, true, true, false, false] rfl rfl (by kernel_rfl) (by decide) (fun K hK => ?_)
      refine goes_ Tryd.func54 (by kernel_rfl) rfl #[.agg #[.slice A1_0 l1_0.length c1_0, .slice A1_1 l1_1.length c1_1]] (by rfl) rfl rfl MPz ?_
      with_reducible refine (laws_toEntry.calls k _ _ l1_0 _ _ l1_1 t294 t297 _ ?side1 ?side2 ?side3 ?side4 A20.out).mono ?_
      (case side1 => exact KCz (Kd.C_below HR1_0.out HB.out))
      (case side2 => exact HC1_0.out)
      (case side3 => exact KCz (Kd.C_below HR1_1.out HB.out))
      (case side4 => exact HC1_1.out)
      rintro e w75 ⟨v295, v298, rfl, ho0, ho1, hb⟩
      refine ⟨_, rfl, ?_⟩
      have n0_ := Aside0.mk (Kd.R_elder' (KRz HO290) (Kd.R_base ho0) hb)
      have n1_ := Aside0.mk (Kd.S_elder' (KSz HO293) (Kd.S_base ho1) hb)
      have n2_ := Aside0.mk (Kd.R_lower (Kd.R_new' ho0 (Kd.R_lt (KRz HO290))) (below_size (HBc GE284 GE285)))
      have n3_ := Aside0.mk (Kd.S_lower (Kd.S_new' ho1 (Kd.S_lt (KSz HO293))) (below_size (HBc GE284 GE285)))
      have n4_ := BBz BK284 hb
      have n5_ := BBz BK285 hb
      have n6_ := Aside0.mk (below_step (HBc GE284 GE285) hb)
      clear HO290
      clear HO293
      clear BK284
      clear BK285
      clear HB
      have HO290 := n0_
      have HO293 := n1_
      have HO296 := n2_
      have HO299 := n3_
      have BK284 := n4_
      have BK285 := n5_
      have HB := n6_
      clear n0_ n1_ n2_ n3_ n4_ n5_ n6_
      (try clear hb)
      (try clear hb2)
      (try clear hk)
      (try clear hi)
      (try clear ho0)
      (try clear ho1)
      obtain ⟨Ao76, co76, eo76⟩ := Kd.R_slice HO290.out
      (first | subst eo76 | (injection eo76 with f1_ f2_ f3_; have f4_ := f1_.symm; have f5_ := f3_.symm; clear f1_ f2_ f3_; subst f4_; subst f5_))
      obtain ⟨Ao77, co77, eo77⟩ := Kd.S_slice HO293.out
      (first | subst eo77 | (injection eo77 with f1_ f2_ f3_; have f4_ := f1_.symm; have f5_ := f3_.symm; clear f1_ f2_ f3_; subst f4_; subst f5_))
      obtain ⟨Ao78, co78, eo78⟩ := Kd.R_slice HO296.out
      (first | subst eo78 | (injection eo78 with f1_ f2_ f3_; have f4_ := f1_.symm; have f5_ := f3_.symm; clear f1_ f2_ f3_; subst f4_; subst f5_))
      obtain ⟨Ao79, co79, eo79⟩ := Kd.S_slice HO299.out
      (first | subst eo79 | (injection eo79 with f1_ f2_ f3_; have f4_ := f1_.symm; have f5_ := f3_.symm; clear f1_ f2_ f3_; subst f4_; subst f5_))
      refine hK.out _ _ ⟨(blk_cell BK284.out 0).trans rfl, (blk_cell BK284.out 1).trans rfl, (blk_cell BK285.out 0).trans rfl, (blk_cell BK285.out 1).trans rfl⟩ (fun hHeld => ?_)
      clear hK K
      refine norm_ (a' := ?_) ?_ ?_
      rotate_left
      ·show Act.put _ (some 23) _ = _
       simp only [PUz]
       rfl
      refine one_ (i := 4) (N := some 24) #[true, true, true, true, true, false] rfl rfl (by kernel_rfl) (by decide) (fun K hK => ?_)
      refine goes_ Tryd.func62 (by kernel_rfl) rfl #[.agg #[.slice Ao76 t288.length co76, .slice Ao77 t291.length co77], .agg #[.slice Ao78 t294.length co78, .slice Ao79 t297.length co79]] (by rfl) rfl rfl MPz ?_
      with_reducible refine (spec_EntrySame.calls k _ _ t288 _ _ t291 _ _ t294 _ _ t297 t300 _ ?side1 ?side2 ?side3 ?side4 ?side5 ?side6 ?side7 ?side8 A21.out).mono ?_
      (case side1 => repeat (first | exact (Kd.R_reads' HO290.out).2.2 | (with_reducible refine Kd.C_alloc ?_ _) | (with_reducible refine Kd.C_drewN ?_ _) | (with_reducible refine Kd.C_drew ?_)))
      (case side2 => exact (Kd.R_reads' HO290.out).2.1)
      (case side3 => repeat (first | exact (Kd.S_reads' HO293.out).2.2 | (with_reducible refine Kd.C_alloc ?_ _) | (with_reducible refine Kd.C_drewN ?_ _) | (with_reducible refine Kd.C_drew ?_)))
      (case side4 => exact (Kd.S_reads' HO293.out).2.1)
      (case side5 => repeat (first | exact (Kd.R_reads' HO296.out).2.2 | (with_reducible refine Kd.C_alloc ?_ _) | (with_reducible refine Kd.C_drewN ?_ _) | (with_reducible refine Kd.C_drew ?_)))
      (case side6 => exact (Kd.R_reads' HO296.out).2.1)
      (case side7 => repeat (first | exact (Kd.S_reads' HO299.out).2.2 | (with_reducible refine Kd.C_alloc ?_ _) | (with_reducible refine Kd.C_drewN ?_ _) | (with_reducible refine Kd.C_drew ?_)))
      (case side8 => exact (Kd.S_reads' HO299.out).2.1)
      rintro e w80 ⟨rfl, hb⟩
      refine ⟨_, rfl, ?_⟩
      have n0_ := Aside0.mk (Kd.R_below (KRz HO290) hb)
      have n1_ := Aside0.mk (Kd.S_below (KSz HO293) hb)
      have n2_ := Aside0.mk (Kd.R_below (KRz HO296) hb)
      have n3_ := Aside0.mk (Kd.S_below (KSz HO299) hb)
      have n4_ := BBz BK284 hb
      have n5_ := BBz BK285 hb
      have n6_ := Aside0.mk (below_step (HBc GE284 GE285) hb)
      clear HO290
      clear HO293
      clear HO296
      clear HO299
      clear BK284
      clear BK285
      clear HB
      have HO290 := n0_
      have HO293 := n1_
      have HO296 := n2_
      have HO299 := n3_
      have BK284 := n4_
      have BK285 := n5_
      have HB := n6_
      clear n0_ n1_ n2_ n3_ n4_ n5_ n6_
      (try clear hb)
      (try clear hb2)
      (try clear hk)
      (try clear hi)
      refine hK.out _ _ ⟨(blk_cell BK284.out 0).trans rfl, (blk_cell BK284.out 1).trans rfl, (blk_cell BK285.out 0).trans rfl, (blk_cell BK285.out 1).trans rfl⟩ (fun hHeld => ?_)
      clear hK K
      refine norm_ (a' := ?_) ?_ ?_
      rotate_left
      ·show Act.put _ (some 24) _ = _
       simp only [PUz]
       rfl
      refine pure_ (i := 5) (N := some 6) (v := ?_) (a' := ?_) #[true, true, true, true, true, true] rfl rfl (by kernel_rfl) (fun _ _ _ h => h) (Or.inl ⟨by rfl, ?_⟩) ?_ ?_
      rotate_left
      ·intro w'
       go_simp
       with_reducible rfl
      rotate_left
      ·simp only [PUz]
       rfl
      refine done_ (by kernel_rfl) ?_
      have hcz81_0 : w80.cell? ⟨gb284, 0, none⟩ = some (.slice A0_0 l0_0.length c0_0) := (blk_cell BK284.out 0).trans rfl
      have hcz81_1 : w80.cell? ⟨gb284, 1, none⟩ = some (.slice A0_1 l0_1.length c0_1) := (blk_cell BK284.out 1).trans rfl
      have hfz81_0 := blk_frozen BK284.out 0
      have hfz81_1 := blk_frozen BK284.out 1
      try go_wp2_with (first | ((with_reducible refine gate_callee (f := 54) rfl ?_); refine goesL_ (some 26) rfl rfl Tryd.func54 (by kernel_rfl) rfl #[.agg #[.slice A0_0 l0_0.length c0_0, .slice A0_1 l0_1.length c0_1]] rfl MPz ?_; (with_reducible refine (laws_toEntry.calls k _ _ l0_0 _ _ l0_1 t301 t304 _ ?side1 ?side2 ?side3 ?side4 A22.out).mono ?_); (case side1 => exact KCz (Kd.C_below HR0_0.out HB.out)); (case side2 => exact HC0_0.out); (case side3 => exact KCz (Kd.C_below HR0_1.out HB.out)); (case side4 => exact HC0_1.out); rintro e w82 ⟨v302, v305, rfl, ho0, ho1, hb⟩; refine ⟨_, rfl, ?_⟩; have n0_ := Aside0.mk (Kd.R_elder' (KRz HO290) (Kd.R_base ho0) hb); have n1_ := Aside0.mk (Kd.S_elder' (KSz HO293) (Kd.S_base ho1) hb); have n2_ := Aside0.mk (Kd.R_elder' (KRz HO296) (Kd.R_base ho0) hb); have n3_ := Aside0.mk (Kd.S_elder' (KSz HO299) (Kd.S_base ho1) hb); have n4_ := Aside0.mk (Kd.R_lower (Kd.R_new' (Kd.R_new' ho0 (Kd.R_lt (KRz HO290))) (Kd.R_lt (KRz HO296))) (below_size (HBc GE284 GE285))); have n5_ := Aside0.mk (Kd.S_lower (Kd.S_new' (Kd.S_new' ho1 (Kd.S_lt (KSz HO293))) (Kd.S_lt (KSz HO299))) (below_size (HBc GE284 GE285))); have n6_ := BBz BK284 hb; have n7_ := BBz BK285 hb; have n8_ := Aside0.mk (below_step (HBc GE284 GE285) hb); clear HO290; clear HO293; clear HO296; clear HO299; clear BK284; clear BK285; clear HB; have HO290 := n0_; have HO293 := n1_; have HO296 := n2_; have HO299 := n3_; have HO303 := n4_; have HO306 := n5_; have BK284 := n6_; have BK285 := n7_; have HB := n8_; clear n0_ n1_ n2_ n3_ n4_ n5_ n6_ n7_ n8_; (try clear hb); (try clear hb2); (try clear hk); (try clear hi); (try clear ho0); (try clear ho1)) | ((with_reducible refine gate_dst (N := 7) rfl ?_); refine box_event ?hg (N := 7) ?hd (cs := #[.slice none 0 0, .slice none 0 0]) (t := 71) ?hr ?_; (case hd => rfl); (case hg => rfl); (case hr => first | (go_simp; done) | (go_simp; rfl)); intro gb307 hg w83 hbox hb; have n0_ := Aside0.mk (Kd.R_below (KRz HO290) hb); have n1_ := Aside0.mk (Kd.S_below (KSz HO293) hb); have n2_ := Aside0.mk (Kd.R_below (KRz HO296) hb); have n3_ := Aside0.mk (Kd.S_below (KSz HO299) hb); have n4_ := Aside0.mk (Kd.R_below (KRz HO303) hb); have n5_ := Aside0.mk (Kd.S_below (KSz HO306) hb); have n6_ := BBz BK284 hb; have n7_ := BBz BK285 hb; have n8_ := Aside0.mk (below_step (HBc GE284 GE285) hb); have n9_ := Aside0.mk (hbox); have n10_ := BSz w hg (HBc GE284 GE285); have n11_ := BSz w hg (HBc GE284 GE285); have n12_ := BNz BK284 hg; have n13_ := BMz BK284 hg; have n14_ := BNz BK285 hg; have n15_ := BMz BK285 hg; clear HO290; clear HO293; clear HO296; clear HO299; clear HO303; clear HO306; clear BK284; clear BK285; clear HB; have HO290 := n0_; have HO293 := n1_; have HO296 := n2_; have HO299 := n3_; have HO303 := n4_; have HO306 := n5_; have BK284 := n6_; have BK285 := n7_; have HB := n8_; have BK307 := n9_; have GW307 := n10_; have GE307 := n11_; have NB284_307 := n12_; have NB307_284 := n13_; have NB285_307 := n14_; have NB307_285 := n15_; clear n0_ n1_ n2_ n3_ n4_ n5_ n6_ n7_ n8_ n9_ n10_ n11_ n12_ n13_ n14_ n15_; clear hb hbox hg; obtain ⟨Ao84, co84, eo84⟩ := Kd.R_slice HO303.out; subst eo84; have hnb85 := NB307_284.out; have hnc85 := NB284_307.out; have hnb86 := NB307_285.out; have hnc86 := NB285_307.out; have hcz87_0 : w83.cell? ⟨gb307, 0, none⟩ = some (.slice none 0 0) := (blk_cell BK307.out 0).trans rfl; have hcz87_1 : w83.cell? ⟨gb307, 1, none⟩ = some (.slice none 0 0) := (blk_cell BK307.out 1).trans rfl; have hfz87_0 := blk_frozen BK307.out 0; have hfz87_1 := blk_frozen BK307.out 1; obtain ⟨Ao88, co88, eo88⟩ := Kd.S_slice HO306.out; subst eo88; have hcz89_0 : w83.cell? ⟨gb285, 0, none⟩ = some (.slice A1_0 l1_0.length c1_0) := (blk_cell BK285.out 0).trans rfl; have hcz89_1 : w83.cell? ⟨gb285, 1, none⟩ = some (.slice A1_1 l1_1.length c1_1) := (blk_cell BK285.out 1).trans rfl; have hfz89_0 := blk_frozen BK285.out 0; have hfz89_1 := blk_frozen BK285.out 1) | ((with_reducible refine gate_callee (f := 54) rfl ?_); refine goesL_ (some 28) rfl rfl Tryd.func54 (by kernel_rfl) rfl #[.agg #[.slice A1_0 l1_0.length c1_0, .slice A1_1 l1_1.length c1_1]] rfl MPz ?_; (with_reducible refine (laws_toEntry.calls k _ _ l1_0 _ _ l1_1 t308 t311 _ ?side1 ?side2 ?side3 ?side4 A23.out).mono ?_); (case side1 => exact Kd.C_below HR1_0.out (HBd GE284 GE285 GE307)); (case side2 => exact HC1_0.out); (case side3 => exact Kd.C_below HR1_1.out (HBd GE284 GE285 GE307)); (case side4 => exact HC1_1.out); rintro e w90 ⟨v309, v312, rfl, ho0, ho1, hb⟩; refine ⟨_, rfl, ?_⟩; have n0_ := Aside0.mk (Kd.R_elder' (by (with_reducible repeat (first | apply Kd.R_alloc | apply Kd.R_drewN | apply Kd.R_drew)); exact (Kd.R_mono (Kd.R_far (p := ⟨gb307, 1, none⟩) (Kd.R_far (p := ⟨gb307, 0, none⟩) (Kd.R_types HO290.out BK307.out (by decide)) (fun _ hk => hk.2) (.slice Ao84 t301.length co84)) (fun _ hk => hk.2) (.slice Ao88 t304.length co88)) (fun _ h_ => h_.1))) (Kd.R_base ho0) hb); have n1_ := Aside0.mk (Kd.S_elder' (by (with_reducible repeat (first | apply Kd.S_alloc | apply Kd.S_drewN | apply Kd.S_drew)); exact (Kd.S_mono (Kd.S_far (p := ⟨gb307, 1, none⟩) (Kd.S_far (p := ⟨gb307, 0, none⟩) (Kd.S_types HO293.out BK307.out (by decide)) (fun _ hk => hk.2) (.slice Ao84 t301.length co84)) (fun _ hk => hk.2) (.slice Ao88 t304.length co88)) (fun _ h_ => h_.1))) (Kd.S_base ho1) hb); have n2_ := Aside0.mk (Kd.R_elder' (by (with_reducible repeat (first | apply Kd.R_alloc | apply Kd.R_drewN | apply Kd.R_drew)); exact (Kd.R_mono (Kd.R_far (p := ⟨gb307, 1, none⟩) (Kd.R_far (p := ⟨gb307, 0, none⟩) (Kd.R_types HO296.out BK307.out (by decide)) (fun _ hk => hk.2) (.slice Ao84 t301.length co84)) (fun _ hk => hk.2) (.slice Ao88 t304.length co88)) (fun _ h_ => h_.1))) (Kd.R_base ho0) hb); have n3_ := Aside0.mk (Kd.S_elder' (by (with_reducible repeat (first | apply Kd.S_alloc | apply Kd.S_drewN | apply Kd.S_drew)); exact (Kd.S_mono (Kd.S_far (p := ⟨gb307, 1, none⟩) (Kd.S_far (p := ⟨gb307, 0, none⟩) (Kd.S_types HO299.out BK307.out (by decide)) (fun _ hk => hk.2) (.slice Ao84 t301.length co84)) (fun _ hk => hk.2) (.slice Ao88 t304.length co88)) (fun _ h_ => h_.1))) (Kd.S_base ho1) hb); have n4_ := Aside0.mk (Kd.R_elder' (by (with_reducible repeat (first | apply Kd.R_alloc | apply Kd.R_drewN | apply Kd.R_drew)); exact (Kd.R_mono (Kd.R_far (p := ⟨gb307, 1, none⟩) (Kd.R_far (p := ⟨gb307, 0, none⟩) (Kd.R_types HO303.out BK307.out (by decide)) (fun _ hk => hk.2) (.slice Ao84 t301.length co84)) (fun _ hk => hk.2) (.slice Ao88 t304.length co88)) (fun _ h_ => h_.1))) (Kd.R_base ho0) hb); have n5_ := Aside0.mk (Kd.S_elder' (by (with_reducible repeat (first | apply Kd.S_alloc | apply Kd.S_drewN | apply Kd.S_drew)); exact (Kd.S_mono (Kd.S_far (p := ⟨gb307, 1, none⟩) (Kd.S_far (p := ⟨gb307, 0, none⟩) (Kd.S_types HO306.out BK307.out (by decide)) (fun _ hk => hk.2) (.slice Ao84 t301.length co84)) (fun _ hk => hk.2) (.slice Ao88 t304.length co88)) (fun _ h_ => h_.1))) (Kd.S_base ho1) hb); have n6_ := Aside0.mk (Kd.R_lower (Kd.R_new' (Kd.R_new' (Kd.R_new' ho0 (Kd.R_lt (by (with_reducible repeat (first | apply Kd.R_alloc | apply Kd.R_drewN | apply Kd.R_drew)); exact (Kd.R_mono (Kd.R_far (p := ⟨gb307, 1, none⟩) (Kd.R_far (p := ⟨gb307, 0, none⟩) (Kd.R_types HO290.out BK307.out (by decide)) (fun _ hk => hk.2) (.slice Ao84 t301.length co84)) (fun _ hk => hk.2) (.slice Ao88 t304.length co88)) (fun _ h_ => h_.1))))) (Kd.R_lt (by (with_reducible repeat (first | apply Kd.R_alloc | apply Kd.R_drewN | apply Kd.R_drew)); exact (Kd.R_mono (Kd.R_far (p := ⟨gb307, 1, none⟩) (Kd.R_far (p := ⟨gb307, 0, none⟩) (Kd.R_types HO296.out BK307.out (by decide)) (fun _ hk => hk.2) (.slice Ao84 t301.length co84)) (fun _ hk => hk.2) (.slice Ao88 t304.length co88)) (fun _ h_ => h_.1))))) (Kd.R_lt (by (with_reducible repeat (first | apply Kd.R_alloc | apply Kd.R_drewN | apply Kd.R_drew)); exact (Kd.R_mono (Kd.R_far (p := ⟨gb307, 1, none⟩) (Kd.R_far (p := ⟨gb307, 0, none⟩) (Kd.R_types HO303.out BK307.out (by decide)) (fun _ hk => hk.2) (.slice Ao84 t301.length co84)) (fun _ hk => hk.2) (.slice Ao88 t304.length co88)) (fun _ h_ => h_.1))))) (below_size (HBd GE284 GE285 GE307))); have n7_ := Aside0.mk (Kd.S_lower (Kd.S_new' (Kd.S_new' (Kd.S_new' ho1 (Kd.S_lt (by (with_reducible repeat (first | apply Kd.S_alloc | apply Kd.S_drewN | apply Kd.S_drew)); exact (Kd.S_mono (Kd.S_far (p := ⟨gb307, 1, none⟩) (Kd.S_far (p := ⟨gb307, 0, none⟩) (Kd.S_types HO293.out BK307.out (by decide)) (fun _ hk => hk.2) (.slice Ao84 t301.length co84)) (fun _ hk => hk.2) (.slice Ao88 t304.length co88)) (fun _ h_ => h_.1))))) (Kd.S_lt (by (with_reducible repeat (first | apply Kd.S_alloc | apply Kd.S_drewN | apply Kd.S_drew)); exact (Kd.S_mono (Kd.S_far (p := ⟨gb307, 1, none⟩) (Kd.S_far (p := ⟨gb307, 0, none⟩) (Kd.S_types HO299.out BK307.out (by decide)) (fun _ hk => hk.2) (.slice Ao84 t301.length co84)) (fun _ hk => hk.2) (.slice Ao88 t304.length co88)) (fun _ h_ => h_.1))))) (Kd.S_lt (by (with_reducible repeat (first | apply Kd.S_alloc | apply Kd.S_drewN | apply Kd.S_drew)); exact (Kd.S_mono (Kd.S_far (p := ⟨gb307, 1, none⟩) (Kd.S_far (p := ⟨gb307, 0, none⟩) (Kd.S_types HO306.out BK307.out (by decide)) (fun _ hk => hk.2) (.slice Ao84 t301.length co84)) (fun _ hk => hk.2) (.slice Ao88 t304.length co88)) (fun _ h_ => h_.1))))) (below_size (HBd GE284 GE285 GE307))); have n8_ := Aside0.mk (blk_below (g := gb284) (o := .cells #[.slice A0_0 l0_0.length c0_0, .slice A0_1 l0_1.length c0_1] 66 (0, 0)) (by (with_reducible repeat (first | refine blk_drewN ?_ _ | refine blk_drew ?_ | refine blk_alloc ?_ _)); refine blk_far ?_ NB284_307.out _; (with_reducible repeat (first | refine blk_drewN ?_ _ | refine blk_drew ?_ | refine blk_alloc ?_ _)); refine blk_far ?_ NB284_307.out _; (with_reducible repeat (first | refine blk_drewN ?_ _ | refine blk_drew ?_ | refine blk_alloc ?_ _)); exact BK284.out) hb); have n9_ := Aside0.mk (blk_below (g := gb285) (o := .cells #[.slice A1_0 l1_0.length c1_0, .slice A1_1 l1_1.length c1_1] 66 (0, 0)) (by (with_reducible repeat (first | refine blk_drewN ?_ _ | refine blk_drew ?_ | refine blk_alloc ?_ _)); refine blk_far ?_ NB285_307.out _; (with_reducible repeat (first | refine blk_drewN ?_ _ | refine blk_drew ?_ | refine blk_alloc ?_ _)); refine blk_far ?_ NB285_307.out _; (with_reducible repeat (first | refine blk_drewN ?_ _ | refine blk_drew ?_ | refine blk_alloc ?_ _)); exact BK285.out) hb); have n10_ := Aside0.mk (blk_below (g := gb307) (o := .cells #[.slice Ao84 t301.length co84, .slice Ao88 t304.length co88] 71 (0, 0)) (by (with_reducible repeat (first | refine blk_drewN ?_ _ | refine blk_drew ?_ | refine blk_alloc ?_ _)); refine blk_put (cs := #[.slice Ao84 t301.length co84, .slice none 0 0]) ?_ 1 _ rfl; (with_reducible repeat (first | refine blk_drewN ?_ _ | refine blk_drew ?_ | refine blk_alloc ?_ _)); refine blk_put (cs := #[.slice none 0 0, .slice none 0 0]) ?_ 0 _ rfl; (with_reducible repeat (first | refine blk_drewN ?_ _ | refine blk_drew ?_ | refine blk_alloc ?_ _)); exact BK307.out) hb); have n11_ := Aside0.mk (below_step (HBd GE284 GE285 GE307) hb); clear HO290; clear HO293; clear HO296; clear HO299; clear HO303; clear HO306; clear BK284; clear BK285; clear BK307; clear HB; have HO290 := n0_; have HO293 := n1_; have HO296 := n2_; have HO299 := n3_; have HO303 := n4_; have HO306 := n5_; have HO310 := n6_; have HO313 := n7_; have BK284 := n8_; have BK285 := n9_; have BK307 := n10_; have HB := n11_; clear n0_ n1_ n2_ n3_ n4_ n5_ n6_ n7_ n8_ n9_ n10_ n11_; (try clear hb); (try clear hb2); (try clear hk); (try clear hi); (try clear ho0); (try clear ho1)) | ((with_reducible refine gate_dst (N := 8) rfl ?_); refine box_event ?hg (N := 8) ?hd (cs := #[.slice none 0 0, .slice none 0 0]) (t := 71) ?hr ?_; (case hd => rfl); (case hg => rfl); (case hr => first | (go_simp; done) | (go_simp; rfl)); intro gb314 hg w91 hbox hb; have n0_ := Aside0.mk (Kd.R_below (KRz HO290) hb); have n1_ := Aside0.mk (Kd.S_below (KSz HO293) hb); have n2_ := Aside0.mk (Kd.R_below (KRz HO296) hb); have n3_ := Aside0.mk (Kd.S_below (KSz HO299) hb); have n4_ := Aside0.mk (Kd.R_below (KRz HO303) hb); have n5_ := Aside0.mk (Kd.S_below (KSz HO306) hb); have n6_ := Aside0.mk (Kd.R_below (KRz HO310) hb); have n7_ := Aside0.mk (Kd.S_below (KSz HO313) hb); have n8_ := BBz BK284 hb; have n9_ := BBz BK285 hb; have n10_ := BBz BK307 hb; have n11_ := Aside0.mk (below_step (HBd GE284 GE285 GE307) hb); have n12_ := Aside0.mk (hbox); have n13_ := BSz w hg (HBd GE284 GE285 GE307); have n14_ := BSz w hg (HBd GE284 GE285 GE307); have n15_ := BNz BK284 hg; have n16_ := BMz BK284 hg; have n17_ := BNz BK285 hg; have n18_ := BMz BK285 hg; have n19_ := BNz BK307 hg; have n20_ := BMz BK307 hg; clear HO290; clear HO293; clear HO296; clear HO299; clear HO303; clear HO306; clear HO310; clear HO313; clear BK284; clear BK285; clear BK307; clear HB; have HO290 := n0_; have HO293 := n1_; have HO296 := n2_; have HO299 := n3_; have HO303 := n4_; have HO306 := n5_; have HO310 := n6_; have HO313 := n7_; have BK284 := n8_; have BK285 := n9_; have BK307 := n10_; have HB := n11_; have BK314 := n12_; have GW314 := n13_; have GE314 := n14_; have NB284_314 := n15_; have NB314_284 := n16_; have NB285_314 := n17_; have NB314_285 := n18_; have NB307_314 := n19_; have NB314_307 := n20_; clear n0_ n1_ n2_ n3_ n4_ n5_ n6_ n7_ n8_ n9_ n10_ n11_ n12_ n13_ n14_ n15_ n16_ n17_ n18_ n19_ n20_; clear hb hbox hg; obtain ⟨Ao92, co92, eo92⟩ := Kd.R_slice HO310.out; subst eo92; have hnb93 := NB314_284.out; have hnc93 := NB284_314.out; have hnb94 := NB314_285.out; have hnc94 := NB285_314.out; have hnb95 := NB314_307.out; have hnc95 := NB307_314.out; have hcz96_0 : w91.cell? ⟨gb314, 0, none⟩ = some (.slice none 0 0) := (blk_cell BK314.out 0).trans rfl; have hcz96_1 : w91.cell? ⟨gb314, 1, none⟩ = some (.slice none 0 0) := (blk_cell BK314.out 1).trans rfl; have hfz96_0 := blk_frozen BK314.out 0; have hfz96_1 := blk_frozen BK314.out 1; obtain ⟨Ao97, co97, eo97⟩ := Kd.S_slice HO313.out; subst eo97; have hcz98_0 : w91.cell? ⟨gb307, 0, none⟩ = some (.slice Ao84 t301.length co84) := (blk_cell BK307.out 0).trans rfl; have hcz98_1 : w91.cell? ⟨gb307, 1, none⟩ = some (.slice Ao88 t304.length co88) := (blk_cell BK307.out 1).trans rfl; have hfz98_0 := blk_frozen BK307.out 0; have hfz98_1 := blk_frozen BK307.out 1) | ((with_reducible refine gate_callee (f := 63) rfl ?_); refine goesL_ (some 31) rfl rfl Tryd.func63 (by kernel_rfl) rfl #[.agg #[.slice Ao84 t301.length co84, .slice Ao88 t304.length co88], .agg #[.slice Ao92 t308.length co92, .slice Ao97 t311.length co97]] rfl MPz ?_; (with_reducible refine (impl_EntrySame.calls k _ _ t301 _ _ t304 _ _ t308 _ _ t311 t315 _ ?side1 ?side2 ?side3 ?side4 ?side5 ?side6 ?side7 ?side8 A24.out).mono ?_); (case side1 => refine (Kd.R_reads' (e := 42) (base := w.heap.size) (ok := fun k_ => (((True ∧ some k_ ≠ (.slice Ao76 t288.length co76 : Value).ownBlock) ∧ some k_ ≠ (.slice Ao78 t294.length co78 : Value).ownBlock) ∧ some k_ ≠ (.slice Ao92 t308.length co92 : Value).ownBlock)) (n := t301.length) (c := co84) ?_).2.2; exact (by (with_reducible repeat (first | apply Kd.R_alloc | apply Kd.R_drewN | apply Kd.R_drew)); exact (Kd.R_mono (Kd.R_far (p := ⟨gb314, 1, none⟩) (Kd.R_far (p := ⟨gb314, 0, none⟩) (Kd.R_types HO303.out BK314.out (by decide)) (fun _ hk => hk.2) (.slice Ao92 t308.length co92)) (fun _ hk => hk.2) (.slice Ao97 t311.length co97)) (fun _ h_ => h_.1)))); (case side2 => exact (Kd.R_reads' HO303.out).2.1); (case side3 => refine (Kd.S_reads' (e := 114) (base := w.heap.size) (ok := fun k_ => (((True ∧ some k_ ≠ (.slice Ao77 t291.length co77 : Value).ownBlock) ∧ some k_ ≠ (.slice Ao79 t297.length co79 : Value).ownBlock) ∧ some k_ ≠ (.slice Ao97 t311.length co97 : Value).ownBlock)) (n := t304.length) (c := co88) ?_).2.2; exact (by (with_reducible repeat (first | apply Kd.S_alloc | apply Kd.S_drewN | apply Kd.S_drew)); exact (Kd.S_mono (Kd.S_far (p := ⟨gb314, 1, none⟩) (Kd.S_far (p := ⟨gb314, 0, none⟩) (Kd.S_types HO306.out BK314.out (by decide)) (fun _ hk => hk.2) (.slice Ao92 t308.length co92)) (fun _ hk => hk.2) (.slice Ao97 t311.length co97)) (fun _ h_ => h_.1)))); (case side4 => exact (Kd.S_reads' HO306.out).2.1); (case side5 => refine (Kd.R_reads' (e := 42) (base := w.heap.size) (ok := fun k_ => (((True ∧ some k_ ≠ (.slice Ao76 t288.length co76 : Value).ownBlock) ∧ some k_ ≠ (.slice Ao78 t294.length co78 : Value).ownBlock) ∧ some k_ ≠ (.slice Ao84 t301.length co84 : Value).ownBlock)) (n := t308.length) (c := co92) ?_).2.2; exact (by (with_reducible repeat (first | apply Kd.R_alloc | apply Kd.R_drewN | apply Kd.R_drew)); exact (Kd.R_mono (Kd.R_far (p := ⟨gb314, 1, none⟩) (Kd.R_far (p := ⟨gb314, 0, none⟩) (Kd.R_types HO310.out BK314.out (by decide)) (fun _ hk => hk.2) (.slice Ao92 t308.length co92)) (fun _ hk => hk.2) (.slice Ao97 t311.length co97)) (fun _ h_ => h_.1)))); (case side6 => exact (Kd.R_reads' HO310.out).2.1); (case side7 => refine (Kd.S_reads' (e := 114) (base := w.heap.size) (ok := fun k_ => (((True ∧ some k_ ≠ (.slice Ao77 t291.length co77 : Value).ownBlock) ∧ some k_ ≠ (.slice Ao79 t297.length co79 : Value).ownBlock) ∧ some k_ ≠ (.slice Ao88 t304.length co88 : Value).ownBlock)) (n := t311.length) (c := co97) ?_).2.2; exact (by (with_reducible repeat (first | apply Kd.S_alloc | apply Kd.S_drewN | apply Kd.S_drew)); exact (Kd.S_mono (Kd.S_far (p := ⟨gb314, 1, none⟩) (Kd.S_far (p := ⟨gb314, 0, none⟩) (Kd.S_types HO313.out BK314.out (by decide)) (fun _ hk => hk.2) (.slice Ao92 t308.length co92)) (fun _ hk => hk.2) (.slice Ao97 t311.length co97)) (fun _ h_ => h_.1)))); (case side8 => exact (Kd.S_reads' HO313.out).2.1); rintro e w99 ⟨rfl, hb⟩; refine ⟨_, rfl, ?_⟩; have n0_ := Aside0.mk (Kd.R_below (by (with_reducible repeat (first | apply Kd.R_alloc | apply Kd.R_drewN | apply Kd.R_drew)); exact (Kd.R_mono (Kd.R_far (p := ⟨gb314, 1, none⟩) (Kd.R_far (p := ⟨gb314, 0, none⟩) (Kd.R_types HO290.out BK314.out (by decide)) (fun _ hk => hk.2) (.slice Ao92 t308.length co92)) (fun _ hk => hk.2) (.slice Ao97 t311.length co97)) (fun _ h_ => h_.1))) hb); have n1_ := Aside0.mk (Kd.S_below (by (with_reducible repeat (first | apply Kd.S_alloc | apply Kd.S_drewN | apply Kd.S_drew)); exact (Kd.S_mono (Kd.S_far (p := ⟨gb314, 1, none⟩) (Kd.S_far (p := ⟨gb314, 0, none⟩) (Kd.S_types HO293.out BK314.out (by decide)) (fun _ hk => hk.2) (.slice Ao92 t308.length co92)) (fun _ hk => hk.2) (.slice Ao97 t311.length co97)) (fun _ h_ => h_.1))) hb); have n2_ := Aside0.mk (Kd.R_below (by (with_reducible repeat (first | apply Kd.R_alloc | apply Kd.R_drewN | apply Kd.R_drew)); exact (Kd.R_mono (Kd.R_far (p := ⟨gb314, 1, none⟩) (Kd.R_far (p := ⟨gb314, 0, none⟩) (Kd.R_types HO296.out BK314.out (by decide)) (fun _ hk => hk.2) (.slice Ao92 t308.length co92)) (fun _ hk => hk.2) (.slice Ao97 t311.length co97)) (fun _ h_ => h_.1))) hb); have n3_ := Aside0.mk (Kd.S_below (by (with_reducible repeat (first | apply Kd.S_alloc | apply Kd.S_drewN | apply Kd.S_drew)); exact (Kd.S_mono (Kd.S_far (p := ⟨gb314, 1, none⟩) (Kd.S_far (p := ⟨gb314, 0, none⟩) (Kd.S_types HO299.out BK314.out (by decide)) (fun _ hk => hk.2) (.slice Ao92 t308.length co92)) (fun _ hk => hk.2) (.slice Ao97 t311.length co97)) (fun _ h_ => h_.1))) hb); have n4_ := Aside0.mk (Kd.R_below (by (with_reducible repeat (first | apply Kd.R_alloc | apply Kd.R_drewN | apply Kd.R_drew)); exact (Kd.R_mono (Kd.R_far (p := ⟨gb314, 1, none⟩) (Kd.R_far (p := ⟨gb314, 0, none⟩) (Kd.R_types HO303.out BK314.out (by decide)) (fun _ hk => hk.2) (.slice Ao92 t308.length co92)) (fun _ hk => hk.2) (.slice Ao97 t311.length co97)) (fun _ h_ => h_.1))) hb); have n5_ := Aside0.mk (Kd.S_below (by (with_reducible repeat (first | apply Kd.S_alloc | apply Kd.S_drewN | apply Kd.S_drew)); exact (Kd.S_mono (Kd.S_far (p := ⟨gb314, 1, none⟩) (Kd.S_far (p := ⟨gb314, 0, none⟩) (Kd.S_types HO306.out BK314.out (by decide)) (fun _ hk => hk.2) (.slice Ao92 t308.length co92)) (fun _ hk => hk.2) (.slice Ao97 t311.length co97)) (fun _ h_ => h_.1))) hb); have n6_ := Aside0.mk (Kd.R_below (by (with_reducible repeat (first | apply Kd.R_alloc | apply Kd.R_drewN | apply Kd.R_drew)); exact (Kd.R_mono (Kd.R_far (p := ⟨gb314, 1, none⟩) (Kd.R_far (p := ⟨gb314, 0, none⟩) (Kd.R_types HO310.out BK314.out (by decide)) (fun _ hk => hk.2) (.slice Ao92 t308.length co92)) (fun _ hk => hk.2) (.slice Ao97 t311.length co97)) (fun _ h_ => h_.1))) hb); have n7_ := Aside0.mk (Kd.S_below (by (with_reducible repeat (first | apply Kd.S_alloc | apply Kd.S_drewN | apply Kd.S_drew)); exact (Kd.S_mono (Kd.S_far (p := ⟨gb314, 1, none⟩) (Kd.S_far (p := ⟨gb314, 0, none⟩) (Kd.S_types HO313.out BK314.out (by decide)) (fun _ hk => hk.2) (.slice Ao92 t308.length co92)) (fun _ hk => hk.2) (.slice Ao97 t311.length co97)) (fun _ h_ => h_.1))) hb); have n8_ := Aside0.mk (blk_below (g := gb284) (o := .cells #[.slice A0_0 l0_0.length c0_0, .slice A0_1 l0_1.length c0_1] 66 (0, 0)) (by (with_reducible repeat (first | refine blk_drewN ?_ _ | refine blk_drew ?_ | refine blk_alloc ?_ _)); refine blk_far ?_ NB284_314.out _; (with_reducible repeat (first | refine blk_drewN ?_ _ | refine blk_drew ?_ | refine blk_alloc ?_ _)); refine blk_far ?_ NB284_314.out _; (with_reducible repeat (first | refine blk_drewN ?_ _ | refine blk_drew ?_ | refine blk_alloc ?_ _)); exact BK284.out) hb); have n9_ := Aside0.mk (blk_below (g := gb285) (o := .cells #[.slice A1_0 l1_0.length c1_0, .slice A1_1 l1_1.length c1_1] 66 (0, 0)) (by (with_reducible repeat (first | refine blk_drewN ?_ _ | refine blk_drew ?_ | refine blk_alloc ?_ _)); refine blk_far ?_ NB285_314.out _; (with_reducible repeat (first | refine blk_drewN ?_ _ | refine blk_drew ?_ | refine blk_alloc ?_ _)); refine blk_far ?_ NB285_314.out _; (with_reducible repeat (first | refine blk_drewN ?_ _ | refine blk_drew ?_ | refine blk_alloc ?_ _)); exact BK285.out) hb); have n10_ := Aside0.mk (blk_below (g := gb307) (o := .cells #[.slice Ao84 t301.length co84, .slice Ao88 t304.length co88] 71 (0, 0)) (by (with_reducible repeat (first | refine blk_drewN ?_ _ | refine blk_drew ?_ | refine blk_alloc ?_ _)); refine blk_far ?_ NB307_314.out _; (with_reducible repeat (first | refine blk_drewN ?_ _ | refine blk_drew ?_ | refine blk_alloc ?_ _)); refine blk_far ?_ NB307_314.out _; (with_reducible repeat (first | refine blk_drewN ?_ _ | refine blk_drew ?_ | refine blk_alloc ?_ _)); exact BK307.out) hb); have n11_ := Aside0.mk (blk_below (g := gb314) (o := .cells #[.slice Ao92 t308.length co92, .slice Ao97 t311.length co97] 71 (0, 0)) (by (with_reducible repeat (first | refine blk_drewN ?_ _ | refine blk_drew ?_ | refine blk_alloc ?_ _)); refine blk_put (cs := #[.slice Ao92 t308.length co92, .slice none 0 0]) ?_ 1 _ rfl; (with_reducible repeat (first | refine blk_drewN ?_ _ | refine blk_drew ?_ | refine blk_alloc ?_ _)); refine blk_put (cs := #[.slice none 0 0, .slice none 0 0]) ?_ 0 _ rfl; (with_reducible repeat (first | refine blk_drewN ?_ _ | refine blk_drew ?_ | refine blk_alloc ?_ _)); exact BK314.out) hb); have n12_ := Aside0.mk (below_step (HBe GE284 GE285 GE307 GE314) hb); clear HO290; clear HO293; clear HO296; clear HO299; clear HO303; clear HO306; clear HO310; clear HO313; clear BK284; clear BK285; clear BK307; clear BK314; clear HB; have HO290 := n0_; have HO293 := n1_; have HO296 := n2_; have HO299 := n3_; have HO303 := n4_; have HO306 := n5_; have HO310 := n6_; have HO313 := n7_; have BK284 := n8_; have BK285 := n9_; have BK307 := n10_; have BK314 := n11_; have HB := n12_; clear n0_ n1_ n2_ n3_ n4_ n5_ n6_ n7_ n8_ n9_ n10_ n11_ n12_; (try clear hb); (try clear hb2); (try clear hk); (try clear hi)))
      have n0_ := Aside0.mk (Kd.R_drew HO290.out)
      have n1_ := Aside0.mk (Kd.S_drew HO293.out)
      have n2_ := Aside0.mk (Kd.R_drew HO296.out)
      have n3_ := Aside0.mk (Kd.S_drew HO299.out)
      have n4_ := Aside0.mk (Kd.R_drew HO303.out)
      have n5_ := Aside0.mk (Kd.S_drew HO306.out)
      have n6_ := Aside0.mk (Kd.R_drew HO310.out)
      have n7_ := Aside0.mk (Kd.S_drew HO313.out)
      have n8_ := Aside0.mk (blk_drew BK284.out)
      have n9_ := Aside0.mk (blk_drew BK285.out)
      have n10_ := Aside0.mk (blk_drew BK307.out)
      have n11_ := Aside0.mk (blk_drew BK314.out)
      have n12_ := Aside0.mk (below_drew1 HB.out)
      clear HO290
      clear HO293
      clear HO296
      clear HO299
      clear HO303
      clear HO306
      clear HO310
      clear HO313
      clear BK284
      clear BK285
      clear BK307
      clear BK314
      clear HB
      have HO290 := n0_
      have HO293 := n1_
      have HO296 := n2_
      have HO299 := n3_
      have HO303 := n4_
      have HO306 := n5_
      have HO310 := n6_
      have HO313 := n7_
      have BK284 := n8_
      have BK285 := n9_
      have BK307 := n10_
      have BK314 := n11_
      have HB := n12_
      clear n0_ n1_ n2_ n3_ n4_ n5_ n6_ n7_ n8_ n9_ n10_ n11_ n12_
      refine start_ (n := 5) (S := fun w' => w'.cell? ⟨gb307, 0, none⟩ = some (.slice Ao84 t301.length co84) ∧ w'.cell? ⟨gb307, 1, none⟩ = some (.slice Ao88 t304.length co88) ∧ w'.cell? ⟨gb284, 0, none⟩ = some (.slice A0_0 l0_0.length c0_0) ∧ w'.cell? ⟨gb284, 1, none⟩ = some (.slice A0_1 l0_1.length c0_1)) (ds := []) #[false, false, false, false, false] (by kernel_rfl) rfl rfl ⟨(blk_cell BK307.out 0).trans rfl, (blk_cell BK307.out 1).trans rfl, (blk_cell BK284.out 0).trans rfl, (blk_cell BK284.out 1).trans rfl⟩ (fun hHeld => ?_)
      generalize w99.drew = w100 at HO290 HO293 HO296 HO299 HO303 HO306 HO310 HO313 BK284 BK285 BK307 BK314 HB hHeld ⊢
      refine take_ (i := 0) (N := some 35) (v := ?_) (a' := ?_) #[true, false, false, false, false] rfl rfl (by kernel_rfl) (fun _ _ _ h => h) (Or.inl ⟨by rfl, ?_⟩) hHeld ?_ ?_
      rotate_left
      ·rintro w' ⟨s0, s1, s2, s3⟩
       go_simp
       with_reducible rfl
      rotate_left
      ·simp only [PUz]
       rfl
      refine take_ (i := 1) (N := some 36) (v := ?_) (a' := ?_) #[true, true, false, false, false] rfl rfl (by kernel_rfl) (fun _ _ _ h => h) (Or.inl ⟨by rfl, ?_⟩) hHeld ?_ ?_
      rotate_left
      ·rintro w' ⟨s0, s1, s2, s3⟩
       go_simp
       with_reducible rfl
      rotate_left
      ·simp only [PUz]
       rfl
      refine one_ (i := 2) (N := some 37) #[true, true, true, false, false] rfl rfl (by kernel_rfl) (by decide) (fun K hK => ?_)
      refine goes_ Tryd.func54 (by kernel_rfl) rfl #[.agg #[.slice A0_0 l0_0.length c0_0, .slice A0_1 l0_1.length c0_1]] (by rfl) rfl rfl MPz ?_
      with_reducible refine (laws_toEntry.calls k _ _ l0_0 _ _ l0_1 t316 t319 _ ?side1 ?side2 ?side3 ?side4 A60.out).mono ?_
      (case side1 => exact KCz (Kd.C_below HR0_0.out HB.out))
      (case side2 => exact HC0_0.out)
      (case side3 => exact KCz (Kd.C_below HR0_1.out HB.out))
      (case side4 => exact HC0_1.out)
      rintro e w101 ⟨v317, v320, rfl, ho0, ho1, hb⟩
      refine ⟨_, rfl, ?_⟩
      have n0_ := Aside0.mk (Kd.R_elder' (KRz HO290) (Kd.R_base ho0) hb)
      have n1_ := Aside0.mk (Kd.S_elder' (KSz HO293) (Kd.S_base ho1) hb)
      have n2_ := Aside0.mk (Kd.R_elder' (KRz HO296) (Kd.R_base ho0) hb)
      have n3_ := Aside0.mk (Kd.S_elder' (KSz HO299) (Kd.S_base ho1) hb)
      have n4_ := Aside0.mk (Kd.R_elder' (KRz HO303) (Kd.R_base ho0) hb)
      have n5_ := Aside0.mk (Kd.S_elder' (KSz HO306) (Kd.S_base ho1) hb)
      have n6_ := Aside0.mk (Kd.R_elder' (KRz HO310) (Kd.R_base ho0) hb)
      have n7_ := Aside0.mk (Kd.S_elder' (KSz HO313) (Kd.S_base ho1) hb)
      have n8_ := Aside0.mk (Kd.R_lower (Kd.R_new' (Kd.R_new' (Kd.R_new' (Kd.R_new' ho0 (Kd.R_lt (KRz HO290))) (Kd.R_lt (KRz HO296))) (Kd.R_lt (KRz HO303))) (Kd.R_lt (KRz HO310))) (below_size (HBe GE284 GE285 GE307 GE314)))
      have n9_ := Aside0.mk (Kd.S_lower (Kd.S_new' (Kd.S_new' (Kd.S_new' (Kd.S_new' ho1 (Kd.S_lt (KSz HO293))) (Kd.S_lt (KSz HO299))) (Kd.S_lt (KSz HO306))) (Kd.S_lt (KSz HO313))) (below_size (HBe GE284 GE285 GE307 GE314)))
      have n10_ := BBz BK284 hb
      have n11_ := BBz BK285 hb
      have n12_ := BBz BK307 hb
      have n13_ := BBz BK314 hb
      have n14_ := Aside0.mk (below_step (HBe GE284 GE285 GE307 GE314) hb)
      clear HO290
      clear HO293
      clear HO296
      clear HO299
      clear HO303
      clear HO306
      clear HO310
      clear HO313
      clear BK284
      clear BK285
      clear BK307
      clear BK314
      clear HB
      have HO290 := n0_
      have HO293 := n1_
      have HO296 := n2_
      have HO299 := n3_
      have HO303 := n4_
      have HO306 := n5_
      have HO310 := n6_
      have HO313 := n7_
      have HO318 := n8_
      have HO321 := n9_
      have BK284 := n10_
      have BK285 := n11_
      have BK307 := n12_
      have BK314 := n13_
      have HB := n14_
      clear n0_ n1_ n2_ n3_ n4_ n5_ n6_ n7_ n8_ n9_ n10_ n11_ n12_ n13_ n14_
      (try clear hb)
      (try clear hb2)
      (try clear hk)
      (try clear hi)
      (try clear ho0)
      (try clear ho1)
      obtain ⟨Ao102, co102, eo102⟩ := Kd.R_slice HO318.out
      (first | subst eo102 | (injection eo102 with f1_ f2_ f3_; have f4_ := f1_.symm; have f5_ := f3_.symm; clear f1_ f2_ f3_; subst f4_; subst f5_))
      obtain ⟨Ao103, co103, eo103⟩ := Kd.S_slice HO321.out
      (first | subst eo103 | (injection eo103 with f1_ f2_ f3_; have f4_ := f1_.symm; have f5_ := f3_.symm; clear f1_ f2_ f3_; subst f4_; subst f5_))
      refine hK.out _ _ ⟨(blk_cell BK307.out 0).trans rfl, (blk_cell BK307.out 1).trans rfl, (blk_cell BK284.out 0).trans rfl, (blk_cell BK284.out 1).trans rfl⟩ (fun hHeld => ?_)
      clear hK K
      refine norm_ (a' := ?_) ?_ ?_
      rotate_left
      ·show Act.put _ (some 37) _ = _
       simp only [PUz]
       rfl
      refine one_ (i := 3) (N := some 38) #[true, true, true, true, false] rfl rfl (by kernel_rfl) (by decide) (fun K hK => ?_)
      refine goes_ Tryd.func56 (by kernel_rfl) rfl #[.agg #[.slice Ao84 t301.length co84, .slice Ao88 t304.length co88], .agg #[.slice Ao102 t316.length co102, .slice Ao103 t319.length co103]] (by rfl) rfl rfl MPz ?_
      with_reducible refine (laws_eqEntry.calls k _ _ t301 _ _ t304 _ _ t316 _ _ t319 true _ ?side1 ?side2 ?side3 ?side4 ?side5 ?side6 ?side7 ?side8 A61.out).mono ?_
      (case side1 => repeat (first | exact (Kd.R_reads' HO303.out).2.2 | (with_reducible refine Kd.C_alloc ?_ _) | (with_reducible refine Kd.C_drewN ?_ _) | (with_reducible refine Kd.C_drew ?_)))
      (case side2 => exact (Kd.R_reads' HO303.out).2.1)
      (case side3 => repeat (first | exact (Kd.S_reads' HO306.out).2.2 | (with_reducible refine Kd.C_alloc ?_ _) | (with_reducible refine Kd.C_drewN ?_ _) | (with_reducible refine Kd.C_drew ?_)))
      (case side4 => exact (Kd.S_reads' HO306.out).2.1)
      (case side5 => repeat (first | exact (Kd.R_reads' HO318.out).2.2 | (with_reducible refine Kd.C_alloc ?_ _) | (with_reducible refine Kd.C_drewN ?_ _) | (with_reducible refine Kd.C_drew ?_)))
      (case side6 => exact (Kd.R_reads' HO318.out).2.1)
      (case side7 => repeat (first | exact (Kd.S_reads' HO321.out).2.2 | (with_reducible refine Kd.C_alloc ?_ _) | (with_reducible refine Kd.C_drewN ?_ _) | (with_reducible refine Kd.C_drew ?_)))
      (case side8 => exact (Kd.S_reads' HO321.out).2.1)
      rintro e w104 ⟨rfl, hb⟩
      refine ⟨_, rfl, ?_⟩
      have n0_ := Aside0.mk (Kd.R_below (KRz HO290) hb)
      have n1_ := Aside0.mk (Kd.S_below (KSz HO293) hb)
      have n2_ := Aside0.mk (Kd.R_below (KRz HO296) hb)
      have n3_ := Aside0.mk (Kd.S_below (KSz HO299) hb)
      have n4_ := Aside0.mk (Kd.R_below (KRz HO303) hb)
      have n5_ := Aside0.mk (Kd.S_below (KSz HO306) hb)
      have n6_ := Aside0.mk (Kd.R_below (KRz HO310) hb)
      have n7_ := Aside0.mk (Kd.S_below (KSz HO313) hb)
      have n8_ := Aside0.mk (Kd.R_below (KRz HO318) hb)
      have n9_ := Aside0.mk (Kd.S_below (KSz HO321) hb)
      have n10_ := BBz BK284 hb
      have n11_ := BBz BK285 hb
      have n12_ := BBz BK307 hb
      have n13_ := BBz BK314 hb
      have n14_ := Aside0.mk (below_step (HBe GE284 GE285 GE307 GE314) hb)
      clear HO290
      clear HO293
      clear HO296
      clear HO299
      clear HO303
      clear HO306
      clear HO310
      clear HO313
      clear HO318
      clear HO321
      clear BK284
      clear BK285
      clear BK307
      clear BK314
      clear HB
      have HO290 := n0_
      have HO293 := n1_
      have HO296 := n2_
      have HO299 := n3_
      have HO303 := n4_
      have HO306 := n5_
      have HO310 := n6_
      have HO313 := n7_
      have HO318 := n8_
      have HO321 := n9_
      have BK284 := n10_
      have BK285 := n11_
      have BK307 := n12_
      have BK314 := n13_
      have HB := n14_
      clear n0_ n1_ n2_ n3_ n4_ n5_ n6_ n7_ n8_ n9_ n10_ n11_ n12_ n13_ n14_
      (try clear hb)
      (try clear hb2)
      (try clear hk)
      (try clear hi)
      refine hK.out _ _ ⟨(blk_cell BK307.out 0).trans rfl, (blk_cell BK307.out 1).trans rfl, (blk_cell BK284.out 0).trans rfl, (blk_cell BK284.out 1).trans rfl⟩ (fun hHeld => ?_)
      clear hK K
      refine norm_ (a' := ?_) ?_ ?_
      rotate_left
      ·show Act.put _ (some 38) _ = _
       simp only [PUz]
       rfl
      refine pure_ (i := 4) (N := some 39) (v := ?_) (a' := ?_) #[true, true, true, true, true] rfl rfl (by kernel_rfl) (fun _ _ _ h => h) (Or.inl ⟨by rfl, ?_⟩) ?_ ?_
      rotate_left
      ·intro w'
       go_simp
       with_reducible rfl
      rotate_left
      ·simp only [PUz]
       rfl
      refine done_ (by kernel_rfl) ?_
      try go_wp2
      have n0_ := Aside0.mk (Kd.R_drew HO290.out)
      have n1_ := Aside0.mk (Kd.S_drew HO293.out)
      have n2_ := Aside0.mk (Kd.R_drew HO296.out)
      have n3_ := Aside0.mk (Kd.S_drew HO299.out)
      have n4_ := Aside0.mk (Kd.R_drew HO303.out)
      have n5_ := Aside0.mk (Kd.S_drew HO306.out)
      have n6_ := Aside0.mk (Kd.R_drew HO310.out)
      have n7_ := Aside0.mk (Kd.S_drew HO313.out)
      have n8_ := Aside0.mk (Kd.R_drew HO318.out)
      have n9_ := Aside0.mk (Kd.S_drew HO321.out)
      have n10_ := Aside0.mk (blk_drew BK284.out)
      have n11_ := Aside0.mk (blk_drew BK285.out)
      have n12_ := Aside0.mk (blk_drew BK307.out)
      have n13_ := Aside0.mk (blk_drew BK314.out)
      have n14_ := Aside0.mk (below_drew1 HB.out)
      clear HO290
      clear HO293
      clear HO296
      clear HO299
      clear HO303
      clear HO306
      clear HO310
      clear HO313
      clear HO318
      clear HO321
      clear BK284
      clear BK285
      clear BK307
      clear BK314
      clear HB
      have HO290 := n0_
      have HO293 := n1_
      have HO296 := n2_
      have HO299 := n3_
      have HO303 := n4_
      have HO306 := n5_
      have HO310 := n6_
      have HO313 := n7_
      have HO318 := n8_
      have HO321 := n9_
      have BK284 := n10_
      have BK285 := n11_
      have BK307 := n12_
      have BK314 := n13_
      have HB := n14_
      clear n0_ n1_ n2_ n3_ n4_ n5_ n6_ n7_ n8_ n9_ n10_ n11_ n12_ n13_ n14_
      refine start_ (n := 5) (S := fun w' => w'.cell? ⟨gb314, 0, none⟩ = some (.slice Ao92 t308.length co92) ∧ w'.cell? ⟨gb314, 1, none⟩ = some (.slice Ao97 t311.length co97) ∧ w'.cell? ⟨gb285, 0, none⟩ = some (.slice A1_0 l1_0.length c1_0) ∧ w'.cell? ⟨gb285, 1, none⟩ = some (.slice A1_1 l1_1.length c1_1)) (ds := []) #[false, false, false, false, false] (by kernel_rfl) rfl rfl ⟨(blk_cell BK314.out 0).trans rfl, (blk_cell BK314.out 1).trans rfl, (blk_cell BK285.out 0).trans rfl, (blk_cell BK285.out 1).trans rfl⟩ (fun hHeld => ?_)
      generalize w104.drew = w105 at HO290 HO293 HO296 HO299 HO303 HO306 HO310 HO313 HO318 HO321 BK284 BK285 BK307 BK314 HB hHeld ⊢
      refine take_ (i := 0) (N := some 40) (v := ?_) (a' := ?_) #[true, false, false, false, false] rfl rfl (by kernel_rfl) (fun _ _ _ h => h) (Or.inl ⟨by rfl, ?_⟩) hHeld ?_ ?_
      rotate_left
      ·rintro w' ⟨s0, s1, s2, s3⟩
       go_simp
       with_reducible rfl
      rotate_left
      ·simp only [PUz]
       rfl
      refine take_ (i := 1) (N := some 41) (v := ?_) (a' := ?_) #[true, true, false, false, false] rfl rfl (by kernel_rfl) (fun _ _ _ h => h) (Or.inl ⟨by rfl, ?_⟩) hHeld ?_ ?_
      rotate_left
      ·rintro w' ⟨s0, s1, s2, s3⟩
       go_simp
       with_reducible rfl
      rotate_left
      ·simp only [PUz]
       rfl
      refine one_ (i := 2) (N := some 42) #[true, true, true, false, false] rfl rfl (by kernel_rfl) (by decide) (fun K hK => ?_)
      refine goes_ Tryd.func54 (by kernel_rfl) rfl #[.agg #[.slice A1_0 l1_0.length c1_0, .slice A1_1 l1_1.length c1_1]] (by rfl) rfl rfl MPz ?_
      with_reducible refine (laws_toEntry.calls k _ _ l1_0 _ _ l1_1 t323 t326 _ ?side1 ?side2 ?side3 ?side4 A63.out).mono ?_
      (case side1 => exact KCz (Kd.C_below HR1_0.out HB.out))
      (case side2 => exact HC1_0.out)
      (case side3 => exact KCz (Kd.C_below HR1_1.out HB.out))
      (case side4 => exact HC1_1.out)
      rintro e w106 ⟨v324, v327, rfl, ho0, ho1, hb⟩
      refine ⟨_, rfl, ?_⟩
      have n0_ := Aside0.mk (Kd.R_elder' (KRz HO290) (Kd.R_base ho0) hb)
      have n1_ := Aside0.mk (Kd.S_elder' (KSz HO293) (Kd.S_base ho1) hb)
      have n2_ := Aside0.mk (Kd.R_elder' (KRz HO296) (Kd.R_base ho0) hb)
      have n3_ := Aside0.mk (Kd.S_elder' (KSz HO299) (Kd.S_base ho1) hb)
      have n4_ := Aside0.mk (Kd.R_elder' (KRz HO303) (Kd.R_base ho0) hb)
      have n5_ := Aside0.mk (Kd.S_elder' (KSz HO306) (Kd.S_base ho1) hb)
      have n6_ := Aside0.mk (Kd.R_elder' (KRz HO310) (Kd.R_base ho0) hb)
      have n7_ := Aside0.mk (Kd.S_elder' (KSz HO313) (Kd.S_base ho1) hb)
      have n8_ := Aside0.mk (Kd.R_elder' (KRz HO318) (Kd.R_base ho0) hb)
      have n9_ := Aside0.mk (Kd.S_elder' (KSz HO321) (Kd.S_base ho1) hb)
      have n10_ := Aside0.mk (Kd.R_lower (Kd.R_new' (Kd.R_new' (Kd.R_new' (Kd.R_new' (Kd.R_new' ho0 (Kd.R_lt (KRz HO290))) (Kd.R_lt (KRz HO296))) (Kd.R_lt (KRz HO303))) (Kd.R_lt (KRz HO310))) (Kd.R_lt (KRz HO318))) (below_size (HBe GE284 GE285 GE307 GE314)))
      have n11_ := Aside0.mk (Kd.S_lower (Kd.S_new' (Kd.S_new' (Kd.S_new' (Kd.S_new' (Kd.S_new' ho1 (Kd.S_lt (KSz HO293))) (Kd.S_lt (KSz HO299))) (Kd.S_lt (KSz HO306))) (Kd.S_lt (KSz HO313))) (Kd.S_lt (KSz HO321))) (below_size (HBe GE284 GE285 GE307 GE314)))
      have n12_ := BBz BK284 hb
      have n13_ := BBz BK285 hb
      have n14_ := BBz BK307 hb
      have n15_ := BBz BK314 hb
      have n16_ := Aside0.mk (below_step (HBe GE284 GE285 GE307 GE314) hb)
      clear HO290
      clear HO293
      clear HO296
      clear HO299
      clear HO303
      clear HO306
      clear HO310
      clear HO313
      clear HO318
      clear HO321
      clear BK284
      clear BK285
      clear BK307
      clear BK314
      clear HB
      have HO290 := n0_
      have HO293 := n1_
      have HO296 := n2_
      have HO299 := n3_
      have HO303 := n4_
      have HO306 := n5_
      have HO310 := n6_
      have HO313 := n7_
      have HO318 := n8_
      have HO321 := n9_
      have HO325 := n10_
      have HO328 := n11_
      have BK284 := n12_
      have BK285 := n13_
      have BK307 := n14_
      have BK314 := n15_
      have HB := n16_
      clear n0_ n1_ n2_ n3_ n4_ n5_ n6_ n7_ n8_ n9_ n10_ n11_ n12_ n13_ n14_ n15_ n16_
      (try clear hb)
      (try clear hb2)
      (try clear hk)
      (try clear hi)
      (try clear ho0)
      (try clear ho1)
      obtain ⟨Ao107, co107, eo107⟩ := Kd.R_slice HO325.out
      (first | subst eo107 | (injection eo107 with f1_ f2_ f3_; have f4_ := f1_.symm; have f5_ := f3_.symm; clear f1_ f2_ f3_; subst f4_; subst f5_))
      obtain ⟨Ao108, co108, eo108⟩ := Kd.S_slice HO328.out
      (first | subst eo108 | (injection eo108 with f1_ f2_ f3_; have f4_ := f1_.symm; have f5_ := f3_.symm; clear f1_ f2_ f3_; subst f4_; subst f5_))
      refine hK.out _ _ ⟨(blk_cell BK314.out 0).trans rfl, (blk_cell BK314.out 1).trans rfl, (blk_cell BK285.out 0).trans rfl, (blk_cell BK285.out 1).trans rfl⟩ (fun hHeld => ?_)
      clear hK K
      refine norm_ (a' := ?_) ?_ ?_
      rotate_left
      ·show Act.put _ (some 42) _ = _
       simp only [PUz]
       rfl
      refine one_ (i := 3) (N := some 43) #[true, true, true, true, false] rfl rfl (by kernel_rfl) (by decide) (fun K hK => ?_)
      refine goes_ Tryd.func56 (by kernel_rfl) rfl #[.agg #[.slice Ao92 t308.length co92, .slice Ao97 t311.length co97], .agg #[.slice Ao107 t323.length co107, .slice Ao108 t326.length co108]] (by rfl) rfl rfl MPz ?_
      with_reducible refine (laws_eqEntry.calls k _ _ t308 _ _ t311 _ _ t323 _ _ t326 true _ ?side1 ?side2 ?side3 ?side4 ?side5 ?side6 ?side7 ?side8 A64.out).mono ?_
      (case side1 => repeat (first | exact (Kd.R_reads' HO310.out).2.2 | (with_reducible refine Kd.C_alloc ?_ _) | (with_reducible refine Kd.C_drewN ?_ _) | (with_reducible refine Kd.C_drew ?_)))
      (case side2 => exact (Kd.R_reads' HO310.out).2.1)
      (case side3 => repeat (first | exact (Kd.S_reads' HO313.out).2.2 | (with_reducible refine Kd.C_alloc ?_ _) | (with_reducible refine Kd.C_drewN ?_ _) | (with_reducible refine Kd.C_drew ?_)))
      (case side4 => exact (Kd.S_reads' HO313.out).2.1)
      (case side5 => repeat (first | exact (Kd.R_reads' HO325.out).2.2 | (with_reducible refine Kd.C_alloc ?_ _) | (with_reducible refine Kd.C_drewN ?_ _) | (with_reducible refine Kd.C_drew ?_)))
      (case side6 => exact (Kd.R_reads' HO325.out).2.1)
      (case side7 => repeat (first | exact (Kd.S_reads' HO328.out).2.2 | (with_reducible refine Kd.C_alloc ?_ _) | (with_reducible refine Kd.C_drewN ?_ _) | (with_reducible refine Kd.C_drew ?_)))
      (case side8 => exact (Kd.S_reads' HO328.out).2.1)
      rintro e w109 ⟨rfl, hb⟩
      refine ⟨_, rfl, ?_⟩
      have n0_ := Aside0.mk (Kd.R_below (KRz HO290) hb)
      have n1_ := Aside0.mk (Kd.S_below (KSz HO293) hb)
      have n2_ := Aside0.mk (Kd.R_below (KRz HO296) hb)
      have n3_ := Aside0.mk (Kd.S_below (KSz HO299) hb)
      have n4_ := Aside0.mk (Kd.R_below (KRz HO303) hb)
      have n5_ := Aside0.mk (Kd.S_below (KSz HO306) hb)
      have n6_ := Aside0.mk (Kd.R_below (KRz HO310) hb)
      have n7_ := Aside0.mk (Kd.S_below (KSz HO313) hb)
      have n8_ := Aside0.mk (Kd.R_below (KRz HO318) hb)
      have n9_ := Aside0.mk (Kd.S_below (KSz HO321) hb)
      have n10_ := Aside0.mk (Kd.R_below (KRz HO325) hb)
      have n11_ := Aside0.mk (Kd.S_below (KSz HO328) hb)
      have n12_ := BBz BK284 hb
      have n13_ := BBz BK285 hb
      have n14_ := BBz BK307 hb
      have n15_ := BBz BK314 hb
      have n16_ := Aside0.mk (below_step (HBe GE284 GE285 GE307 GE314) hb)
      clear HO290
      clear HO293
      clear HO296
      clear HO299
      clear HO303
      clear HO306
      clear HO310
      clear HO313
      clear HO318
      clear HO321
      clear HO325
      clear HO328
      clear BK284
      clear BK285
      clear BK307
      clear BK314
      clear HB
      have HO290 := n0_
      have HO293 := n1_
      have HO296 := n2_
      have HO299 := n3_
      have HO303 := n4_
      have HO306 := n5_
      have HO310 := n6_
      have HO313 := n7_
      have HO318 := n8_
      have HO321 := n9_
      have HO325 := n10_
      have HO328 := n11_
      have BK284 := n12_
      have BK285 := n13_
      have BK307 := n14_
      have BK314 := n15_
      have HB := n16_
      clear n0_ n1_ n2_ n3_ n4_ n5_ n6_ n7_ n8_ n9_ n10_ n11_ n12_ n13_ n14_ n15_ n16_
      (try clear hb)
      (try clear hb2)
      (try clear hk)
      (try clear hi)
      refine hK.out _ _ ⟨(blk_cell BK314.out 0).trans rfl, (blk_cell BK314.out 1).trans rfl, (blk_cell BK285.out 0).trans rfl, (blk_cell BK285.out 1).trans rfl⟩ (fun hHeld => ?_)
      clear hK K
      refine norm_ (a' := ?_) ?_ ?_
      rotate_left
      ·show Act.put _ (some 43) _ = _
       simp only [PUz]
       rfl
      refine pure_ (i := 4) (N := some 44) (v := ?_) (a' := ?_) #[true, true, true, true, true] rfl rfl (by kernel_rfl) (fun _ _ _ h => h) (Or.inl ⟨by rfl, ?_⟩) ?_ ?_
      rotate_left
      ·intro w'
       go_simp
       with_reducible rfl
      rotate_left
      ·simp only [PUz]
       rfl
      refine done_ (by kernel_rfl) ?_
      try go_wp2
      go_ret
      exact ⟨EZa, HBe GE284 GE285 GE307 GE314⟩
     ·replace c65 := Bool.eq_false_iff.mpr c65
      subst c65
      have H1 : (some false) = some r := by rw [if_neg (show ¬ (false = true) by decide)] at H; exact H
      clear H
      have H := H1
      clear H1
      obtain rfl := Option.some.inj H
      go_enter Tryd.func12, Tryd.ntmps12
      try go_wp2_with (first | ((with_reducible refine gate_dst (N := 2) rfl ?_); refine box_event ?hg (N := 2) ?hd (cs := #[.slice A0_0 l0_0.length c0_0, .slice A0_1 l0_1.length c0_1]) (t := 66) ?hr ?_; (case hd => rfl); (case hg => rfl); (case hr => first | (go_simp; done) | (go_simp; rfl)); intro gb284 hg w110 hbox hb; have n0_ := Aside0.mk (below_step HBa hb); have n1_ := Aside0.mk (hbox); have n2_ := BSz w hg HBa; have n3_ := BSz w hg HBa; clear HB; have HB := n0_; have BK284 := n1_; have GW284 := n2_; have GE284 := n3_; clear n0_ n1_ n2_ n3_; clear hb hbox hg) | ((with_reducible refine gate_dst (N := 3) rfl ?_); refine box_event ?hg (N := 3) ?hd (cs := #[.slice A1_0 l1_0.length c1_0, .slice A1_1 l1_1.length c1_1]) (t := 66) ?hr ?_; (case hd => rfl); (case hg => rfl); (case hr => first | (go_simp; done) | (go_simp; rfl)); intro gb285 hg w111 hbox hb; have n0_ := BBz BK284 hb; have n1_ := Aside0.mk (below_step (HBb GE284) hb); have n2_ := Aside0.mk (hbox); have n3_ := BSz w hg (HBb GE284); have n4_ := BSz w hg (HBb GE284); have n5_ := BNz BK284 hg; have n6_ := BMz BK284 hg; clear BK284; clear HB; have BK284 := n0_; have HB := n1_; have BK285 := n2_; have GW285 := n3_; have GE285 := n4_; have NB284_285 := n5_; have NB285_284 := n6_; clear n0_ n1_ n2_ n3_ n4_ n5_ n6_; clear hb hbox hg; have hnb112 := NB284_285.out; have hnc112 := NB285_284.out; have hcz113_0 : w111.cell? ⟨gb284, 0, none⟩ = some (.slice A0_0 l0_0.length c0_0) := (blk_cell BK284.out 0).trans rfl; have hcz113_1 : w111.cell? ⟨gb284, 1, none⟩ = some (.slice A0_1 l0_1.length c0_1) := (blk_cell BK284.out 1).trans rfl; have hfz113_0 := blk_frozen BK284.out 0; have hfz113_1 := blk_frozen BK284.out 1) | ((with_reducible refine gate_callee (f := 52) rfl ?_); refine goesL_ (some 12) rfl rfl Tryd.func52 (by kernel_rfl) rfl #[.agg #[.slice A0_0 l0_0.length c0_0, .slice A0_1 l0_1.length c0_1], .int .i64 1048576] rfl MPz ?_; (with_reducible refine (laws_szEntry.calls k _ _ l0_0 _ _ l0_1 1048576 t286 _ ?side1 ?side2 ?side3 ?side4 A3.out).mono ?_); (case side1 => exact KCz (Kd.C_below HR0_0.out HB.out)); (case side2 => exact HC0_0.out); (case side3 => exact KCz (Kd.C_below HR0_1.out HB.out)); (case side4 => exact HC0_1.out); rintro e w114 ⟨rfl, hb⟩; refine ⟨_, rfl, ?_⟩; have n0_ := BBz BK284 hb; have n1_ := BBz BK285 hb; have n2_ := Aside0.mk (below_step (HBc GE284 GE285) hb); clear BK284; clear BK285; clear HB; have BK284 := n0_; have BK285 := n1_; have HB := n2_; clear n0_ n1_ n2_; (try clear hb); (try clear hb2); (try clear hk); (try clear hi); have hcz115_0 : w114.cell? ⟨gb285, 0, none⟩ = some (.slice A1_0 l1_0.length c1_0) := (blk_cell BK285.out 0).trans rfl; have hcz115_1 : w114.cell? ⟨gb285, 1, none⟩ = some (.slice A1_1 l1_1.length c1_1) := (blk_cell BK285.out 1).trans rfl; have hfz115_0 := blk_frozen BK285.out 0; have hfz115_1 := blk_frozen BK285.out 1) | ((with_reducible refine gate_callee (f := 52) rfl ?_); refine goesL_ (some 17) rfl rfl Tryd.func52 (by kernel_rfl) rfl #[.agg #[.slice A1_0 l1_0.length c1_0, .slice A1_1 l1_1.length c1_1], .int .i64 t286] rfl MPz ?_; (with_reducible refine (laws_szEntry.calls k _ _ l1_0 _ _ l1_1 t286 t287 _ ?side1 ?side2 ?side3 ?side4 A10.out).mono ?_); (case side1 => exact KCz (Kd.C_below HR1_0.out HB.out)); (case side2 => exact HC1_0.out); (case side3 => exact KCz (Kd.C_below HR1_1.out HB.out)); (case side4 => exact HC1_1.out); rintro e w116 ⟨rfl, hb⟩; refine ⟨_, rfl, ?_⟩; have n0_ := BBz BK284 hb; have n1_ := BBz BK285 hb; have n2_ := Aside0.mk (below_step (HBc GE284 GE285) hb); clear BK284; clear BK285; clear HB; have BK284 := n0_; have BK285 := n1_; have HB := n2_; clear n0_ n1_ n2_; (try clear hb); (try clear hb2); (try clear hk); (try clear hi)))
      have n0_ := Aside0.mk (blk_drew BK284.out)
      have n1_ := Aside0.mk (blk_drew BK285.out)
      have n2_ := Aside0.mk (below_drew1 HB.out)
      clear BK284
      clear BK285
      clear HB
      have BK284 := n0_
      have BK285 := n1_
      have HB := n2_
      clear n0_ n1_ n2_
      refine start_ (n := 6) (S := fun w' => w'.cell? ⟨gb284, 0, none⟩ = some (.slice A0_0 l0_0.length c0_0) ∧ w'.cell? ⟨gb284, 1, none⟩ = some (.slice A0_1 l0_1.length c0_1) ∧ w'.cell? ⟨gb285, 0, none⟩ = some (.slice A1_0 l1_0.length c1_0) ∧ w'.cell? ⟨gb285, 1, none⟩ = some (.slice A1_1 l1_1.length c1_1)) (ds := []) #[false, false, false, false, false, false] (by kernel_rfl) rfl rfl ⟨(blk_cell BK284.out 0).trans rfl, (blk_cell BK284.out 1).trans rfl, (blk_cell BK285.out 0).trans rfl, (blk_cell BK285.out 1).trans rfl⟩ (fun hHeld => ?_)
      generalize w116.drew = w117 at BK284 BK285 HB hHeld ⊢
      refine take_ (i := 0) (N := some 20) (v := ?_) (a' := ?_) #[true, false, false, false, false, false] rfl rfl (by kernel_rfl) (fun _ _ _ h => h) (Or.inl ⟨by rfl, ?_⟩) hHeld ?_ ?_
      rotate_left
      ·rintro w' ⟨s0, s1, s2, s3⟩
       go_simp
       with_reducible rfl
      rotate_left
      ·simp only [PUz]
       rfl
      refine take_ (i := 2) (N := some 22) (v := ?_) (a' := ?_) #[true, false, true, false, false, false] rfl rfl (by kernel_rfl) (fun _ _ _ h => h) (Or.inl ⟨by rfl, ?_⟩) hHeld ?_ ?_
      rotate_left
      ·rintro w' ⟨s0, s1, s2, s3⟩
       go_simp
       with_reducible rfl
      rotate_left
      ·simp only [PUz]
       rfl
      refine one_ (i := 1) (N := some 21) #[true, true, true, false, false, false] rfl rfl (by kernel_rfl) (by decide) (fun K hK => ?_)
      refine goes_ Tryd.func54 (by kernel_rfl) rfl #[.agg #[.slice A0_0 l0_0.length c0_0, .slice A0_1 l0_1.length c0_1]] (by rfl) rfl rfl MPz ?_
      with_reducible refine (laws_toEntry.calls k _ _ l0_0 _ _ l0_1 t288 t291 _ ?side1 ?side2 ?side3 ?side4 A19.out).mono ?_
      (case side1 => exact KCz (Kd.C_below HR0_0.out HB.out))
      (case side2 => exact HC0_0.out)
      (case side3 => exact KCz (Kd.C_below HR0_1.out HB.out))
      (case side4 => exact HC0_1.out)
      rintro e w118 ⟨v289, v292, rfl, ho0, ho1, hb⟩
      refine ⟨_, rfl, ?_⟩
      have n0_ := Aside0.mk (Kd.R_lower ho0 (below_size (HBc GE284 GE285)))
      have n1_ := Aside0.mk (Kd.S_lower ho1 (below_size (HBc GE284 GE285)))
      have n2_ := BBz BK284 hb
      have n3_ := BBz BK285 hb
      have n4_ := Aside0.mk (below_step (HBc GE284 GE285) hb)
      clear BK284
      clear BK285
      clear HB
      have HO290 := n0_
      have HO293 := n1_
      have BK284 := n2_
      have BK285 := n3_
      have HB := n4_
      clear n0_ n1_ n2_ n3_ n4_
      (try clear hb)
      (try clear hb2)
      (try clear hk)
      (try clear hi)
      (try clear ho0)
      (try clear ho1)
      refine hK.out _ _ ⟨(blk_cell BK284.out 0).trans rfl, (blk_cell BK284.out 1).trans rfl, (blk_cell BK285.out 0).trans rfl, (blk_cell BK285.out 1).trans rfl⟩ (fun hHeld => ?_)
      clear hK K
      refine norm_ (a' := ?_) ?_ ?_
      rotate_left
      ·show Act.put _ (some 21) _ = _
       simp only [PUz]
       rfl
      refine one_ (i := 3) (N := some 23) #[true, true, true, true, false, false] rfl rfl (by kernel_rfl) (by decide) (fun K hK => ?_)
      refine goes_ Tryd.func54 (by kernel_rfl) rfl #[.agg #[.slice A1_0 l1_0.length c1_0, .slice A1_1 l1_1.length c1_1]] (by rfl) rfl rfl MPz ?_
      with_reducible refine (laws_toEntry.calls k _ _ l1_0 _ _ l1_1 t294 t297 _ ?side1 ?side2 ?side3 ?side4 A20.out).mono ?_
      (case side1 => exact KCz (Kd.C_below HR1_0.out HB.out))
      (case side2 => exact HC1_0.out)
      (case side3 => exact KCz (Kd.C_below HR1_1.out HB.out))
      (case side4 => exact HC1_1.out)
      rintro e w119 ⟨v295, v298, rfl, ho0, ho1, hb⟩
      refine ⟨_, rfl, ?_⟩
      have n0_ := Aside0.mk (Kd.R_elder' (KRz HO290) (Kd.R_base ho0) hb)
      have n1_ := Aside0.mk (Kd.S_elder' (KSz HO293) (Kd.S_base ho1) hb)
      have n2_ := Aside0.mk (Kd.R_lower (Kd.R_new' ho0 (Kd.R_lt (KRz HO290))) (below_size (HBc GE284 GE285)))
      have n3_ := Aside0.mk (Kd.S_lower (Kd.S_new' ho1 (Kd.S_lt (KSz HO293))) (below_size (HBc GE284 GE285)))
      have n4_ := BBz BK284 hb
      have n5_ := BBz BK285 hb
      have n6_ := Aside0.mk (below_step (HBc GE284 GE285) hb)
      clear HO290
      clear HO293
      clear BK284
      clear BK285
      clear HB
      have HO290 := n0_
      have HO293 := n1_
      have HO296 := n2_
      have HO299 := n3_
      have BK284 := n4_
      have BK285 := n5_
      have HB := n6_
      clear n0_ n1_ n2_ n3_ n4_ n5_ n6_
      (try clear hb)
      (try clear hb2)
      (try clear hk)
      (try clear hi)
      (try clear ho0)
      (try clear ho1)
      obtain ⟨Ao120, co120, eo120⟩ := Kd.R_slice HO290.out
      (first | subst eo120 | (injection eo120 with f1_ f2_ f3_; have f4_ := f1_.symm; have f5_ := f3_.symm; clear f1_ f2_ f3_; subst f4_; subst f5_))
      obtain ⟨Ao121, co121, eo121⟩ := Kd.S_slice HO293.out
      (first | subst eo121 | (injection eo121 with f1_ f2_ f3_; have f4_ := f1_.symm; have f5_ := f3_.symm; clear f1_ f2_ f3_; subst f4_; subst f5_))
      obtain ⟨Ao122, co122, eo122⟩ := Kd.R_slice HO296.out
      (first | subst eo122 | (injection eo122 with f1_ f2_ f3_; have f4_ := f1_.symm; have f5_ := f3_.symm; clear f1_ f2_ f3_; subst f4_; subst f5_))
      obtain ⟨Ao123, co123, eo123⟩ := Kd.S_slice HO299.out
      (first | subst eo123 | (injection eo123 with f1_ f2_ f3_; have f4_ := f1_.symm; have f5_ := f3_.symm; clear f1_ f2_ f3_; subst f4_; subst f5_))
      refine hK.out _ _ ⟨(blk_cell BK284.out 0).trans rfl, (blk_cell BK284.out 1).trans rfl, (blk_cell BK285.out 0).trans rfl, (blk_cell BK285.out 1).trans rfl⟩ (fun hHeld => ?_)
      clear hK K
      refine norm_ (a' := ?_) ?_ ?_
      rotate_left
      ·show Act.put _ (some 23) _ = _
       simp only [PUz]
       rfl
      refine one_ (i := 4) (N := some 24) #[true, true, true, true, true, false] rfl rfl (by kernel_rfl) (by decide) (fun K hK => ?_)
      refine goes_ Tryd.func62 (by kernel_rfl) rfl #[.agg #[.slice Ao120 t288.length co120, .slice Ao121 t291.length co121], .agg #[.slice Ao122 t294.length co122, .slice Ao123 t297.length co123]] (by rfl) rfl rfl MPz ?_
      with_reducible refine (spec_EntrySame.calls k _ _ t288 _ _ t291 _ _ t294 _ _ t297 t300 _ ?side1 ?side2 ?side3 ?side4 ?side5 ?side6 ?side7 ?side8 A21.out).mono ?_
      (case side1 => repeat (first | exact (Kd.R_reads' HO290.out).2.2 | (with_reducible refine Kd.C_alloc ?_ _) | (with_reducible refine Kd.C_drewN ?_ _) | (with_reducible refine Kd.C_drew ?_)))
      (case side2 => exact (Kd.R_reads' HO290.out).2.1)
      (case side3 => repeat (first | exact (Kd.S_reads' HO293.out).2.2 | (with_reducible refine Kd.C_alloc ?_ _) | (with_reducible refine Kd.C_drewN ?_ _) | (with_reducible refine Kd.C_drew ?_)))
      (case side4 => exact (Kd.S_reads' HO293.out).2.1)
      (case side5 => repeat (first | exact (Kd.R_reads' HO296.out).2.2 | (with_reducible refine Kd.C_alloc ?_ _) | (with_reducible refine Kd.C_drewN ?_ _) | (with_reducible refine Kd.C_drew ?_)))
      (case side6 => exact (Kd.R_reads' HO296.out).2.1)
      (case side7 => repeat (first | exact (Kd.S_reads' HO299.out).2.2 | (with_reducible refine Kd.C_alloc ?_ _) | (with_reducible refine Kd.C_drewN ?_ _) | (with_reducible refine Kd.C_drew ?_)))
      (case side8 => exact (Kd.S_reads' HO299.out).2.1)
      rintro e w124 ⟨rfl, hb⟩
      refine ⟨_, rfl, ?_⟩
      have n0_ := Aside0.mk (Kd.R_below (KRz HO290) hb)
      have n1_ := Aside0.mk (Kd.S_below (KSz HO293) hb)
      have n2_ := Aside0.mk (Kd.R_below (KRz HO296) hb)
      have n3_ := Aside0.mk (Kd.S_below (KSz HO299) hb)
      have n4_ := BBz BK284 hb
      have n5_ := BBz BK285 hb
      have n6_ := Aside0.mk (below_step (HBc GE284 GE285) hb)
      clear HO290
      clear HO293
      clear HO296
      clear HO299
      clear BK284
      clear BK285
      clear HB
      have HO290 := n0_
      have HO293 := n1_
      have HO296 := n2_
      have HO299 := n3_
      have BK284 := n4_
      have BK285 := n5_
      have HB := n6_
      clear n0_ n1_ n2_ n3_ n4_ n5_ n6_
      (try clear hb)
      (try clear hb2)
      (try clear hk)
      (try clear hi)
      refine hK.out _ _ ⟨(blk_cell BK284.out 0).trans rfl, (blk_cell BK284.out 1).trans rfl, (blk_cell BK285.out 0).trans rfl, (blk_cell BK285.out 1).trans rfl⟩ (fun hHeld => ?_)
      clear hK K
      refine norm_ (a' := ?_) ?_ ?_
      rotate_left
      ·show Act.put _ (some 24) _ = _
       simp only [PUz]
       rfl
      refine pure_ (i := 5) (N := some 6) (v := ?_) (a' := ?_) #[true, true, true, true, true, true] rfl rfl (by kernel_rfl) (fun _ _ _ h => h) (Or.inl ⟨by rfl, ?_⟩) ?_ ?_
      rotate_left
      ·intro w'
       go_simp
       with_reducible rfl
      rotate_left
      ·simp only [PUz]
       rfl
      refine done_ (by kernel_rfl) ?_
      have hcz125_0 : w124.cell? ⟨gb284, 0, none⟩ = some (.slice A0_0 l0_0.length c0_0) := (blk_cell BK284.out 0).trans rfl
      have hcz125_1 : w124.cell? ⟨gb284, 1, none⟩ = some (.slice A0_1 l0_1.length c0_1) := (blk_cell BK284.out 1).trans rfl
      have hfz125_0 := blk_frozen BK284.out 0
      have hfz125_1 := blk_frozen BK284.out 1
      try go_wp2_with (first | ((with_reducible refine gate_callee (f := 54) rfl ?_); refine goesL_ (some 26) rfl rfl Tryd.func54 (by kernel_rfl) rfl #[.agg #[.slice A0_0 l0_0.length c0_0, .slice A0_1 l0_1.length c0_1]] rfl MPz ?_; (with_reducible refine (laws_toEntry.calls k _ _ l0_0 _ _ l0_1 t301 t304 _ ?side1 ?side2 ?side3 ?side4 A22.out).mono ?_); (case side1 => exact KCz (Kd.C_below HR0_0.out HB.out)); (case side2 => exact HC0_0.out); (case side3 => exact KCz (Kd.C_below HR0_1.out HB.out)); (case side4 => exact HC0_1.out); rintro e w126 ⟨v302, v305, rfl, ho0, ho1, hb⟩; refine ⟨_, rfl, ?_⟩; have n0_ := Aside0.mk (Kd.R_elder' (KRz HO290) (Kd.R_base ho0) hb); have n1_ := Aside0.mk (Kd.S_elder' (KSz HO293) (Kd.S_base ho1) hb); have n2_ := Aside0.mk (Kd.R_elder' (KRz HO296) (Kd.R_base ho0) hb); have n3_ := Aside0.mk (Kd.S_elder' (KSz HO299) (Kd.S_base ho1) hb); have n4_ := Aside0.mk (Kd.R_lower (Kd.R_new' (Kd.R_new' ho0 (Kd.R_lt (KRz HO290))) (Kd.R_lt (KRz HO296))) (below_size (HBc GE284 GE285))); have n5_ := Aside0.mk (Kd.S_lower (Kd.S_new' (Kd.S_new' ho1 (Kd.S_lt (KSz HO293))) (Kd.S_lt (KSz HO299))) (below_size (HBc GE284 GE285))); have n6_ := BBz BK284 hb; have n7_ := BBz BK285 hb; have n8_ := Aside0.mk (below_step (HBc GE284 GE285) hb); clear HO290; clear HO293; clear HO296; clear HO299; clear BK284; clear BK285; clear HB; have HO290 := n0_; have HO293 := n1_; have HO296 := n2_; have HO299 := n3_; have HO303 := n4_; have HO306 := n5_; have BK284 := n6_; have BK285 := n7_; have HB := n8_; clear n0_ n1_ n2_ n3_ n4_ n5_ n6_ n7_ n8_; (try clear hb); (try clear hb2); (try clear hk); (try clear hi); (try clear ho0); (try clear ho1)) | ((with_reducible refine gate_dst (N := 7) rfl ?_); refine box_event ?hg (N := 7) ?hd (cs := #[.slice none 0 0, .slice none 0 0]) (t := 71) ?hr ?_; (case hd => rfl); (case hg => rfl); (case hr => first | (go_simp; done) | (go_simp; rfl)); intro gb307 hg w127 hbox hb; have n0_ := Aside0.mk (Kd.R_below (KRz HO290) hb); have n1_ := Aside0.mk (Kd.S_below (KSz HO293) hb); have n2_ := Aside0.mk (Kd.R_below (KRz HO296) hb); have n3_ := Aside0.mk (Kd.S_below (KSz HO299) hb); have n4_ := Aside0.mk (Kd.R_below (KRz HO303) hb); have n5_ := Aside0.mk (Kd.S_below (KSz HO306) hb); have n6_ := BBz BK284 hb; have n7_ := BBz BK285 hb; have n8_ := Aside0.mk (below_step (HBc GE284 GE285) hb); have n9_ := Aside0.mk (hbox); have n10_ := BSz w hg (HBc GE284 GE285); have n11_ := BSz w hg (HBc GE284 GE285); have n12_ := BNz BK284 hg; have n13_ := BMz BK284 hg; have n14_ := BNz BK285 hg; have n15_ := BMz BK285 hg; clear HO290; clear HO293; clear HO296; clear HO299; clear HO303; clear HO306; clear BK284; clear BK285; clear HB; have HO290 := n0_; have HO293 := n1_; have HO296 := n2_; have HO299 := n3_; have HO303 := n4_; have HO306 := n5_; have BK284 := n6_; have BK285 := n7_; have HB := n8_; have BK307 := n9_; have GW307 := n10_; have GE307 := n11_; have NB284_307 := n12_; have NB307_284 := n13_; have NB285_307 := n14_; have NB307_285 := n15_; clear n0_ n1_ n2_ n3_ n4_ n5_ n6_ n7_ n8_ n9_ n10_ n11_ n12_ n13_ n14_ n15_; clear hb hbox hg; obtain ⟨Ao128, co128, eo128⟩ := Kd.R_slice HO303.out; subst eo128; have hnb129 := NB307_284.out; have hnc129 := NB284_307.out; have hnb130 := NB307_285.out; have hnc130 := NB285_307.out; have hcz131_0 : w127.cell? ⟨gb307, 0, none⟩ = some (.slice none 0 0) := (blk_cell BK307.out 0).trans rfl; have hcz131_1 : w127.cell? ⟨gb307, 1, none⟩ = some (.slice none 0 0) := (blk_cell BK307.out 1).trans rfl; have hfz131_0 := blk_frozen BK307.out 0; have hfz131_1 := blk_frozen BK307.out 1; obtain ⟨Ao132, co132, eo132⟩ := Kd.S_slice HO306.out; subst eo132; have hcz133_0 : w127.cell? ⟨gb285, 0, none⟩ = some (.slice A1_0 l1_0.length c1_0) := (blk_cell BK285.out 0).trans rfl; have hcz133_1 : w127.cell? ⟨gb285, 1, none⟩ = some (.slice A1_1 l1_1.length c1_1) := (blk_cell BK285.out 1).trans rfl; have hfz133_0 := blk_frozen BK285.out 0; have hfz133_1 := blk_frozen BK285.out 1) | ((with_reducible refine gate_callee (f := 54) rfl ?_); refine goesL_ (some 28) rfl rfl Tryd.func54 (by kernel_rfl) rfl #[.agg #[.slice A1_0 l1_0.length c1_0, .slice A1_1 l1_1.length c1_1]] rfl MPz ?_; (with_reducible refine (laws_toEntry.calls k _ _ l1_0 _ _ l1_1 t308 t311 _ ?side1 ?side2 ?side3 ?side4 A23.out).mono ?_); (case side1 => exact Kd.C_below HR1_0.out (HBd GE284 GE285 GE307)); (case side2 => exact HC1_0.out); (case side3 => exact Kd.C_below HR1_1.out (HBd GE284 GE285 GE307)); (case side4 => exact HC1_1.out); rintro e w134 ⟨v309, v312, rfl, ho0, ho1, hb⟩; refine ⟨_, rfl, ?_⟩; have n0_ := Aside0.mk (Kd.R_elder' (by (with_reducible repeat (first | apply Kd.R_alloc | apply Kd.R_drewN | apply Kd.R_drew)); exact (Kd.R_mono (Kd.R_far (p := ⟨gb307, 1, none⟩) (Kd.R_far (p := ⟨gb307, 0, none⟩) (Kd.R_types HO290.out BK307.out (by decide)) (fun _ hk => hk.2) (.slice Ao128 t301.length co128)) (fun _ hk => hk.2) (.slice Ao132 t304.length co132)) (fun _ h_ => h_.1))) (Kd.R_base ho0) hb); have n1_ := Aside0.mk (Kd.S_elder' (by (with_reducible repeat (first | apply Kd.S_alloc | apply Kd.S_drewN | apply Kd.S_drew)); exact (Kd.S_mono (Kd.S_far (p := ⟨gb307, 1, none⟩) (Kd.S_far (p := ⟨gb307, 0, none⟩) (Kd.S_types HO293.out BK307.out (by decide)) (fun _ hk => hk.2) (.slice Ao128 t301.length co128)) (fun _ hk => hk.2) (.slice Ao132 t304.length co132)) (fun _ h_ => h_.1))) (Kd.S_base ho1) hb); have n2_ := Aside0.mk (Kd.R_elder' (by (with_reducible repeat (first | apply Kd.R_alloc | apply Kd.R_drewN | apply Kd.R_drew)); exact (Kd.R_mono (Kd.R_far (p := ⟨gb307, 1, none⟩) (Kd.R_far (p := ⟨gb307, 0, none⟩) (Kd.R_types HO296.out BK307.out (by decide)) (fun _ hk => hk.2) (.slice Ao128 t301.length co128)) (fun _ hk => hk.2) (.slice Ao132 t304.length co132)) (fun _ h_ => h_.1))) (Kd.R_base ho0) hb); have n3_ := Aside0.mk (Kd.S_elder' (by (with_reducible repeat (first | apply Kd.S_alloc | apply Kd.S_drewN | apply Kd.S_drew)); exact (Kd.S_mono (Kd.S_far (p := ⟨gb307, 1, none⟩) (Kd.S_far (p := ⟨gb307, 0, none⟩) (Kd.S_types HO299.out BK307.out (by decide)) (fun _ hk => hk.2) (.slice Ao128 t301.length co128)) (fun _ hk => hk.2) (.slice Ao132 t304.length co132)) (fun _ h_ => h_.1))) (Kd.S_base ho1) hb); have n4_ := Aside0.mk (Kd.R_elder' (by (with_reducible repeat (first | apply Kd.R_alloc | apply Kd.R_drewN | apply Kd.R_drew)); exact (Kd.R_mono (Kd.R_far (p := ⟨gb307, 1, none⟩) (Kd.R_far (p := ⟨gb307, 0, none⟩) (Kd.R_types HO303.out BK307.out (by decide)) (fun _ hk => hk.2) (.slice Ao128 t301.length co128)) (fun _ hk => hk.2) (.slice Ao132 t304.length co132)) (fun _ h_ => h_.1))) (Kd.R_base ho0) hb); have n5_ := Aside0.mk (Kd.S_elder' (by (with_reducible repeat (first | apply Kd.S_alloc | apply Kd.S_drewN | apply Kd.S_drew)); exact (Kd.S_mono (Kd.S_far (p := ⟨gb307, 1, none⟩) (Kd.S_far (p := ⟨gb307, 0, none⟩) (Kd.S_types HO306.out BK307.out (by decide)) (fun _ hk => hk.2) (.slice Ao128 t301.length co128)) (fun _ hk => hk.2) (.slice Ao132 t304.length co132)) (fun _ h_ => h_.1))) (Kd.S_base ho1) hb); have n6_ := Aside0.mk (Kd.R_lower (Kd.R_new' (Kd.R_new' (Kd.R_new' ho0 (Kd.R_lt (by (with_reducible repeat (first | apply Kd.R_alloc | apply Kd.R_drewN | apply Kd.R_drew)); exact (Kd.R_mono (Kd.R_far (p := ⟨gb307, 1, none⟩) (Kd.R_far (p := ⟨gb307, 0, none⟩) (Kd.R_types HO290.out BK307.out (by decide)) (fun _ hk => hk.2) (.slice Ao128 t301.length co128)) (fun _ hk => hk.2) (.slice Ao132 t304.length co132)) (fun _ h_ => h_.1))))) (Kd.R_lt (by (with_reducible repeat (first | apply Kd.R_alloc | apply Kd.R_drewN | apply Kd.R_drew)); exact (Kd.R_mono (Kd.R_far (p := ⟨gb307, 1, none⟩) (Kd.R_far (p := ⟨gb307, 0, none⟩) (Kd.R_types HO296.out BK307.out (by decide)) (fun _ hk => hk.2) (.slice Ao128 t301.length co128)) (fun _ hk => hk.2) (.slice Ao132 t304.length co132)) (fun _ h_ => h_.1))))) (Kd.R_lt (by (with_reducible repeat (first | apply Kd.R_alloc | apply Kd.R_drewN | apply Kd.R_drew)); exact (Kd.R_mono (Kd.R_far (p := ⟨gb307, 1, none⟩) (Kd.R_far (p := ⟨gb307, 0, none⟩) (Kd.R_types HO303.out BK307.out (by decide)) (fun _ hk => hk.2) (.slice Ao128 t301.length co128)) (fun _ hk => hk.2) (.slice Ao132 t304.length co132)) (fun _ h_ => h_.1))))) (below_size (HBd GE284 GE285 GE307))); have n7_ := Aside0.mk (Kd.S_lower (Kd.S_new' (Kd.S_new' (Kd.S_new' ho1 (Kd.S_lt (by (with_reducible repeat (first | apply Kd.S_alloc | apply Kd.S_drewN | apply Kd.S_drew)); exact (Kd.S_mono (Kd.S_far (p := ⟨gb307, 1, none⟩) (Kd.S_far (p := ⟨gb307, 0, none⟩) (Kd.S_types HO293.out BK307.out (by decide)) (fun _ hk => hk.2) (.slice Ao128 t301.length co128)) (fun _ hk => hk.2) (.slice Ao132 t304.length co132)) (fun _ h_ => h_.1))))) (Kd.S_lt (by (with_reducible repeat (first | apply Kd.S_alloc | apply Kd.S_drewN | apply Kd.S_drew)); exact (Kd.S_mono (Kd.S_far (p := ⟨gb307, 1, none⟩) (Kd.S_far (p := ⟨gb307, 0, none⟩) (Kd.S_types HO299.out BK307.out (by decide)) (fun _ hk => hk.2) (.slice Ao128 t301.length co128)) (fun _ hk => hk.2) (.slice Ao132 t304.length co132)) (fun _ h_ => h_.1))))) (Kd.S_lt (by (with_reducible repeat (first | apply Kd.S_alloc | apply Kd.S_drewN | apply Kd.S_drew)); exact (Kd.S_mono (Kd.S_far (p := ⟨gb307, 1, none⟩) (Kd.S_far (p := ⟨gb307, 0, none⟩) (Kd.S_types HO306.out BK307.out (by decide)) (fun _ hk => hk.2) (.slice Ao128 t301.length co128)) (fun _ hk => hk.2) (.slice Ao132 t304.length co132)) (fun _ h_ => h_.1))))) (below_size (HBd GE284 GE285 GE307))); have n8_ := Aside0.mk (blk_below (g := gb284) (o := .cells #[.slice A0_0 l0_0.length c0_0, .slice A0_1 l0_1.length c0_1] 66 (0, 0)) (by (with_reducible repeat (first | refine blk_drewN ?_ _ | refine blk_drew ?_ | refine blk_alloc ?_ _)); refine blk_far ?_ NB284_307.out _; (with_reducible repeat (first | refine blk_drewN ?_ _ | refine blk_drew ?_ | refine blk_alloc ?_ _)); refine blk_far ?_ NB284_307.out _; (with_reducible repeat (first | refine blk_drewN ?_ _ | refine blk_drew ?_ | refine blk_alloc ?_ _)); exact BK284.out) hb); have n9_ := Aside0.mk (blk_below (g := gb285) (o := .cells #[.slice A1_0 l1_0.length c1_0, .slice A1_1 l1_1.length c1_1] 66 (0, 0)) (by (with_reducible repeat (first | refine blk_drewN ?_ _ | refine blk_drew ?_ | refine blk_alloc ?_ _)); refine blk_far ?_ NB285_307.out _; (with_reducible repeat (first | refine blk_drewN ?_ _ | refine blk_drew ?_ | refine blk_alloc ?_ _)); refine blk_far ?_ NB285_307.out _; (with_reducible repeat (first | refine blk_drewN ?_ _ | refine blk_drew ?_ | refine blk_alloc ?_ _)); exact BK285.out) hb); have n10_ := Aside0.mk (blk_below (g := gb307) (o := .cells #[.slice Ao128 t301.length co128, .slice Ao132 t304.length co132] 71 (0, 0)) (by (with_reducible repeat (first | refine blk_drewN ?_ _ | refine blk_drew ?_ | refine blk_alloc ?_ _)); refine blk_put (cs := #[.slice Ao128 t301.length co128, .slice none 0 0]) ?_ 1 _ rfl; (with_reducible repeat (first | refine blk_drewN ?_ _ | refine blk_drew ?_ | refine blk_alloc ?_ _)); refine blk_put (cs := #[.slice none 0 0, .slice none 0 0]) ?_ 0 _ rfl; (with_reducible repeat (first | refine blk_drewN ?_ _ | refine blk_drew ?_ | refine blk_alloc ?_ _)); exact BK307.out) hb); have n11_ := Aside0.mk (below_step (HBd GE284 GE285 GE307) hb); clear HO290; clear HO293; clear HO296; clear HO299; clear HO303; clear HO306; clear BK284; clear BK285; clear BK307; clear HB; have HO290 := n0_; have HO293 := n1_; have HO296 := n2_; have HO299 := n3_; have HO303 := n4_; have HO306 := n5_; have HO310 := n6_; have HO313 := n7_; have BK284 := n8_; have BK285 := n9_; have BK307 := n10_; have HB := n11_; clear n0_ n1_ n2_ n3_ n4_ n5_ n6_ n7_ n8_ n9_ n10_ n11_; (try clear hb); (try clear hb2); (try clear hk); (try clear hi); (try clear ho0); (try clear ho1)) | ((with_reducible refine gate_dst (N := 8) rfl ?_); refine box_event ?hg (N := 8) ?hd (cs := #[.slice none 0 0, .slice none 0 0]) (t := 71) ?hr ?_; (case hd => rfl); (case hg => rfl); (case hr => first | (go_simp; done) | (go_simp; rfl)); intro gb314 hg w135 hbox hb; have n0_ := Aside0.mk (Kd.R_below (KRz HO290) hb); have n1_ := Aside0.mk (Kd.S_below (KSz HO293) hb); have n2_ := Aside0.mk (Kd.R_below (KRz HO296) hb); have n3_ := Aside0.mk (Kd.S_below (KSz HO299) hb); have n4_ := Aside0.mk (Kd.R_below (KRz HO303) hb); have n5_ := Aside0.mk (Kd.S_below (KSz HO306) hb); have n6_ := Aside0.mk (Kd.R_below (KRz HO310) hb); have n7_ := Aside0.mk (Kd.S_below (KSz HO313) hb); have n8_ := BBz BK284 hb; have n9_ := BBz BK285 hb; have n10_ := BBz BK307 hb; have n11_ := Aside0.mk (below_step (HBd GE284 GE285 GE307) hb); have n12_ := Aside0.mk (hbox); have n13_ := BSz w hg (HBd GE284 GE285 GE307); have n14_ := BSz w hg (HBd GE284 GE285 GE307); have n15_ := BNz BK284 hg; have n16_ := BMz BK284 hg; have n17_ := BNz BK285 hg; have n18_ := BMz BK285 hg; have n19_ := BNz BK307 hg; have n20_ := BMz BK307 hg; clear HO290; clear HO293; clear HO296; clear HO299; clear HO303; clear HO306; clear HO310; clear HO313; clear BK284; clear BK285; clear BK307; clear HB; have HO290 := n0_; have HO293 := n1_; have HO296 := n2_; have HO299 := n3_; have HO303 := n4_; have HO306 := n5_; have HO310 := n6_; have HO313 := n7_; have BK284 := n8_; have BK285 := n9_; have BK307 := n10_; have HB := n11_; have BK314 := n12_; have GW314 := n13_; have GE314 := n14_; have NB284_314 := n15_; have NB314_284 := n16_; have NB285_314 := n17_; have NB314_285 := n18_; have NB307_314 := n19_; have NB314_307 := n20_; clear n0_ n1_ n2_ n3_ n4_ n5_ n6_ n7_ n8_ n9_ n10_ n11_ n12_ n13_ n14_ n15_ n16_ n17_ n18_ n19_ n20_; clear hb hbox hg; obtain ⟨Ao136, co136, eo136⟩ := Kd.R_slice HO310.out; subst eo136; have hnb137 := NB314_284.out; have hnc137 := NB284_314.out; have hnb138 := NB314_285.out; have hnc138 := NB285_314.out; have hnb139 := NB314_307.out; have hnc139 := NB307_314.out; have hcz140_0 : w135.cell? ⟨gb314, 0, none⟩ = some (.slice none 0 0) := (blk_cell BK314.out 0).trans rfl; have hcz140_1 : w135.cell? ⟨gb314, 1, none⟩ = some (.slice none 0 0) := (blk_cell BK314.out 1).trans rfl; have hfz140_0 := blk_frozen BK314.out 0; have hfz140_1 := blk_frozen BK314.out 1; obtain ⟨Ao141, co141, eo141⟩ := Kd.S_slice HO313.out; subst eo141; have hcz142_0 : w135.cell? ⟨gb307, 0, none⟩ = some (.slice Ao128 t301.length co128) := (blk_cell BK307.out 0).trans rfl; have hcz142_1 : w135.cell? ⟨gb307, 1, none⟩ = some (.slice Ao132 t304.length co132) := (blk_cell BK307.out 1).trans rfl; have hfz142_0 := blk_frozen BK307.out 0; have hfz142_1 := blk_frozen BK307.out 1) | ((with_reducible refine gate_callee (f := 63) rfl ?_); refine goesL_ (some 31) rfl rfl Tryd.func63 (by kernel_rfl) rfl #[.agg #[.slice Ao128 t301.length co128, .slice Ao132 t304.length co132], .agg #[.slice Ao136 t308.length co136, .slice Ao141 t311.length co141]] rfl MPz ?_; (with_reducible refine (impl_EntrySame.calls k _ _ t301 _ _ t304 _ _ t308 _ _ t311 t315 _ ?side1 ?side2 ?side3 ?side4 ?side5 ?side6 ?side7 ?side8 A24.out).mono ?_); (case side1 => refine (Kd.R_reads' (e := 42) (base := w.heap.size) (ok := fun k_ => (((True ∧ some k_ ≠ (.slice Ao120 t288.length co120 : Value).ownBlock) ∧ some k_ ≠ (.slice Ao122 t294.length co122 : Value).ownBlock) ∧ some k_ ≠ (.slice Ao136 t308.length co136 : Value).ownBlock)) (n := t301.length) (c := co128) ?_).2.2; exact (by (with_reducible repeat (first | apply Kd.R_alloc | apply Kd.R_drewN | apply Kd.R_drew)); exact (Kd.R_mono (Kd.R_far (p := ⟨gb314, 1, none⟩) (Kd.R_far (p := ⟨gb314, 0, none⟩) (Kd.R_types HO303.out BK314.out (by decide)) (fun _ hk => hk.2) (.slice Ao136 t308.length co136)) (fun _ hk => hk.2) (.slice Ao141 t311.length co141)) (fun _ h_ => h_.1)))); (case side2 => exact (Kd.R_reads' HO303.out).2.1); (case side3 => refine (Kd.S_reads' (e := 114) (base := w.heap.size) (ok := fun k_ => (((True ∧ some k_ ≠ (.slice Ao121 t291.length co121 : Value).ownBlock) ∧ some k_ ≠ (.slice Ao123 t297.length co123 : Value).ownBlock) ∧ some k_ ≠ (.slice Ao141 t311.length co141 : Value).ownBlock)) (n := t304.length) (c := co132) ?_).2.2; exact (by (with_reducible repeat (first | apply Kd.S_alloc | apply Kd.S_drewN | apply Kd.S_drew)); exact (Kd.S_mono (Kd.S_far (p := ⟨gb314, 1, none⟩) (Kd.S_far (p := ⟨gb314, 0, none⟩) (Kd.S_types HO306.out BK314.out (by decide)) (fun _ hk => hk.2) (.slice Ao136 t308.length co136)) (fun _ hk => hk.2) (.slice Ao141 t311.length co141)) (fun _ h_ => h_.1)))); (case side4 => exact (Kd.S_reads' HO306.out).2.1); (case side5 => refine (Kd.R_reads' (e := 42) (base := w.heap.size) (ok := fun k_ => (((True ∧ some k_ ≠ (.slice Ao120 t288.length co120 : Value).ownBlock) ∧ some k_ ≠ (.slice Ao122 t294.length co122 : Value).ownBlock) ∧ some k_ ≠ (.slice Ao128 t301.length co128 : Value).ownBlock)) (n := t308.length) (c := co136) ?_).2.2; exact (by (with_reducible repeat (first | apply Kd.R_alloc | apply Kd.R_drewN | apply Kd.R_drew)); exact (Kd.R_mono (Kd.R_far (p := ⟨gb314, 1, none⟩) (Kd.R_far (p := ⟨gb314, 0, none⟩) (Kd.R_types HO310.out BK314.out (by decide)) (fun _ hk => hk.2) (.slice Ao136 t308.length co136)) (fun _ hk => hk.2) (.slice Ao141 t311.length co141)) (fun _ h_ => h_.1)))); (case side6 => exact (Kd.R_reads' HO310.out).2.1); (case side7 => refine (Kd.S_reads' (e := 114) (base := w.heap.size) (ok := fun k_ => (((True ∧ some k_ ≠ (.slice Ao121 t291.length co121 : Value).ownBlock) ∧ some k_ ≠ (.slice Ao123 t297.length co123 : Value).ownBlock) ∧ some k_ ≠ (.slice Ao132 t304.length co132 : Value).ownBlock)) (n := t311.length) (c := co141) ?_).2.2; exact (by (with_reducible repeat (first | apply Kd.S_alloc | apply Kd.S_drewN | apply Kd.S_drew)); exact (Kd.S_mono (Kd.S_far (p := ⟨gb314, 1, none⟩) (Kd.S_far (p := ⟨gb314, 0, none⟩) (Kd.S_types HO313.out BK314.out (by decide)) (fun _ hk => hk.2) (.slice Ao136 t308.length co136)) (fun _ hk => hk.2) (.slice Ao141 t311.length co141)) (fun _ h_ => h_.1)))); (case side8 => exact (Kd.S_reads' HO313.out).2.1); rintro e w143 ⟨rfl, hb⟩; refine ⟨_, rfl, ?_⟩; have n0_ := Aside0.mk (Kd.R_below (by (with_reducible repeat (first | apply Kd.R_alloc | apply Kd.R_drewN | apply Kd.R_drew)); exact (Kd.R_mono (Kd.R_far (p := ⟨gb314, 1, none⟩) (Kd.R_far (p := ⟨gb314, 0, none⟩) (Kd.R_types HO290.out BK314.out (by decide)) (fun _ hk => hk.2) (.slice Ao136 t308.length co136)) (fun _ hk => hk.2) (.slice Ao141 t311.length co141)) (fun _ h_ => h_.1))) hb); have n1_ := Aside0.mk (Kd.S_below (by (with_reducible repeat (first | apply Kd.S_alloc | apply Kd.S_drewN | apply Kd.S_drew)); exact (Kd.S_mono (Kd.S_far (p := ⟨gb314, 1, none⟩) (Kd.S_far (p := ⟨gb314, 0, none⟩) (Kd.S_types HO293.out BK314.out (by decide)) (fun _ hk => hk.2) (.slice Ao136 t308.length co136)) (fun _ hk => hk.2) (.slice Ao141 t311.length co141)) (fun _ h_ => h_.1))) hb); have n2_ := Aside0.mk (Kd.R_below (by (with_reducible repeat (first | apply Kd.R_alloc | apply Kd.R_drewN | apply Kd.R_drew)); exact (Kd.R_mono (Kd.R_far (p := ⟨gb314, 1, none⟩) (Kd.R_far (p := ⟨gb314, 0, none⟩) (Kd.R_types HO296.out BK314.out (by decide)) (fun _ hk => hk.2) (.slice Ao136 t308.length co136)) (fun _ hk => hk.2) (.slice Ao141 t311.length co141)) (fun _ h_ => h_.1))) hb); have n3_ := Aside0.mk (Kd.S_below (by (with_reducible repeat (first | apply Kd.S_alloc | apply Kd.S_drewN | apply Kd.S_drew)); exact (Kd.S_mono (Kd.S_far (p := ⟨gb314, 1, none⟩) (Kd.S_far (p := ⟨gb314, 0, none⟩) (Kd.S_types HO299.out BK314.out (by decide)) (fun _ hk => hk.2) (.slice Ao136 t308.length co136)) (fun _ hk => hk.2) (.slice Ao141 t311.length co141)) (fun _ h_ => h_.1))) hb); have n4_ := Aside0.mk (Kd.R_below (by (with_reducible repeat (first | apply Kd.R_alloc | apply Kd.R_drewN | apply Kd.R_drew)); exact (Kd.R_mono (Kd.R_far (p := ⟨gb314, 1, none⟩) (Kd.R_far (p := ⟨gb314, 0, none⟩) (Kd.R_types HO303.out BK314.out (by decide)) (fun _ hk => hk.2) (.slice Ao136 t308.length co136)) (fun _ hk => hk.2) (.slice Ao141 t311.length co141)) (fun _ h_ => h_.1))) hb); have n5_ := Aside0.mk (Kd.S_below (by (with_reducible repeat (first | apply Kd.S_alloc | apply Kd.S_drewN | apply Kd.S_drew)); exact (Kd.S_mono (Kd.S_far (p := ⟨gb314, 1, none⟩) (Kd.S_far (p := ⟨gb314, 0, none⟩) (Kd.S_types HO306.out BK314.out (by decide)) (fun _ hk => hk.2) (.slice Ao136 t308.length co136)) (fun _ hk => hk.2) (.slice Ao141 t311.length co141)) (fun _ h_ => h_.1))) hb); have n6_ := Aside0.mk (Kd.R_below (by (with_reducible repeat (first | apply Kd.R_alloc | apply Kd.R_drewN | apply Kd.R_drew)); exact (Kd.R_mono (Kd.R_far (p := ⟨gb314, 1, none⟩) (Kd.R_far (p := ⟨gb314, 0, none⟩) (Kd.R_types HO310.out BK314.out (by decide)) (fun _ hk => hk.2) (.slice Ao136 t308.length co136)) (fun _ hk => hk.2) (.slice Ao141 t311.length co141)) (fun _ h_ => h_.1))) hb); have n7_ := Aside0.mk (Kd.S_below (by (with_reducible repeat (first | apply Kd.S_alloc | apply Kd.S_drewN | apply Kd.S_drew)); exact (Kd.S_mono (Kd.S_far (p := ⟨gb314, 1, none⟩) (Kd.S_far (p := ⟨gb314, 0, none⟩) (Kd.S_types HO313.out BK314.out (by decide)) (fun _ hk => hk.2) (.slice Ao136 t308.length co136)) (fun _ hk => hk.2) (.slice Ao141 t311.length co141)) (fun _ h_ => h_.1))) hb); have n8_ := Aside0.mk (blk_below (g := gb284) (o := .cells #[.slice A0_0 l0_0.length c0_0, .slice A0_1 l0_1.length c0_1] 66 (0, 0)) (by (with_reducible repeat (first | refine blk_drewN ?_ _ | refine blk_drew ?_ | refine blk_alloc ?_ _)); refine blk_far ?_ NB284_314.out _; (with_reducible repeat (first | refine blk_drewN ?_ _ | refine blk_drew ?_ | refine blk_alloc ?_ _)); refine blk_far ?_ NB284_314.out _; (with_reducible repeat (first | refine blk_drewN ?_ _ | refine blk_drew ?_ | refine blk_alloc ?_ _)); exact BK284.out) hb); have n9_ := Aside0.mk (blk_below (g := gb285) (o := .cells #[.slice A1_0 l1_0.length c1_0, .slice A1_1 l1_1.length c1_1] 66 (0, 0)) (by (with_reducible repeat (first | refine blk_drewN ?_ _ | refine blk_drew ?_ | refine blk_alloc ?_ _)); refine blk_far ?_ NB285_314.out _; (with_reducible repeat (first | refine blk_drewN ?_ _ | refine blk_drew ?_ | refine blk_alloc ?_ _)); refine blk_far ?_ NB285_314.out _; (with_reducible repeat (first | refine blk_drewN ?_ _ | refine blk_drew ?_ | refine blk_alloc ?_ _)); exact BK285.out) hb); have n10_ := Aside0.mk (blk_below (g := gb307) (o := .cells #[.slice Ao128 t301.length co128, .slice Ao132 t304.length co132] 71 (0, 0)) (by (with_reducible repeat (first | refine blk_drewN ?_ _ | refine blk_drew ?_ | refine blk_alloc ?_ _)); refine blk_far ?_ NB307_314.out _; (with_reducible repeat (first | refine blk_drewN ?_ _ | refine blk_drew ?_ | refine blk_alloc ?_ _)); refine blk_far ?_ NB307_314.out _; (with_reducible repeat (first | refine blk_drewN ?_ _ | refine blk_drew ?_ | refine blk_alloc ?_ _)); exact BK307.out) hb); have n11_ := Aside0.mk (blk_below (g := gb314) (o := .cells #[.slice Ao136 t308.length co136, .slice Ao141 t311.length co141] 71 (0, 0)) (by (with_reducible repeat (first | refine blk_drewN ?_ _ | refine blk_drew ?_ | refine blk_alloc ?_ _)); refine blk_put (cs := #[.slice Ao136 t308.length co136, .slice none 0 0]) ?_ 1 _ rfl; (with_reducible repeat (first | refine blk_drewN ?_ _ | refine blk_drew ?_ | refine blk_alloc ?_ _)); refine blk_put (cs := #[.slice none 0 0, .slice none 0 0]) ?_ 0 _ rfl; (with_reducible repeat (first | refine blk_drewN ?_ _ | refine blk_drew ?_ | refine blk_alloc ?_ _)); exact BK314.out) hb); have n12_ := Aside0.mk (below_step (HBe GE284 GE285 GE307 GE314) hb); clear HO290; clear HO293; clear HO296; clear HO299; clear HO303; clear HO306; clear HO310; clear HO313; clear BK284; clear BK285; clear BK307; clear BK314; clear HB; have HO290 := n0_; have HO293 := n1_; have HO296 := n2_; have HO299 := n3_; have HO303 := n4_; have HO306 := n5_; have HO310 := n6_; have HO313 := n7_; have BK284 := n8_; have BK285 := n9_; have BK307 := n10_; have BK314 := n11_; have HB := n12_; clear n0_ n1_ n2_ n3_ n4_ n5_ n6_ n7_ n8_ n9_ n10_ n11_ n12_; (try clear hb); (try clear hb2); (try clear hk); (try clear hi)))
      have n0_ := Aside0.mk (Kd.R_drew HO290.out)
      have n1_ := Aside0.mk (Kd.S_drew HO293.out)
      have n2_ := Aside0.mk (Kd.R_drew HO296.out)
      have n3_ := Aside0.mk (Kd.S_drew HO299.out)
      have n4_ := Aside0.mk (Kd.R_drew HO303.out)
      have n5_ := Aside0.mk (Kd.S_drew HO306.out)
      have n6_ := Aside0.mk (Kd.R_drew HO310.out)
      have n7_ := Aside0.mk (Kd.S_drew HO313.out)
      have n8_ := Aside0.mk (blk_drew BK284.out)
      have n9_ := Aside0.mk (blk_drew BK285.out)
      have n10_ := Aside0.mk (blk_drew BK307.out)
      have n11_ := Aside0.mk (blk_drew BK314.out)
      have n12_ := Aside0.mk (below_drew1 HB.out)
      clear HO290
      clear HO293
      clear HO296
      clear HO299
      clear HO303
      clear HO306
      clear HO310
      clear HO313
      clear BK284
      clear BK285
      clear BK307
      clear BK314
      clear HB
      have HO290 := n0_
      have HO293 := n1_
      have HO296 := n2_
      have HO299 := n3_
      have HO303 := n4_
      have HO306 := n5_
      have HO310 := n6_
      have HO313 := n7_
      have BK284 := n8_
      have BK285 := n9_
      have BK307 := n10_
      have BK314 := n11_
      have HB := n12_
      clear n0_ n1_ n2_ n3_ n4_ n5_ n6_ n7_ n8_ n9_ n10_ n11_ n12_
      refine start_ (n := 5) (S := fun w' => w'.cell? ⟨gb307, 0, none⟩ = some (.slice Ao128 t301.length co128) ∧ w'.cell? ⟨gb307, 1, none⟩ = some (.slice Ao132 t304.length co132) ∧ w'.cell? ⟨gb284, 0, none⟩ = some (.slice A0_0 l0_0.length c0_0) ∧ w'.cell? ⟨gb284, 1, none⟩ = some (.slice A0_1 l0_1.length c0_1)) (ds := []) #[false, false, false, false, false] (by kernel_rfl) rfl rfl ⟨(blk_cell BK307.out 0).trans rfl, (blk_cell BK307.out 1).trans rfl, (blk_cell BK284.out 0).trans rfl, (blk_cell BK284.out 1).trans rfl⟩ (fun hHeld => ?_)
      generalize w143.drew = w144 at HO290 HO293 HO296 HO299 HO303 HO306 HO310 HO313 BK284 BK285 BK307 BK314 HB hHeld ⊢
      refine take_ (i := 0) (N := some 35) (v := ?_) (a' := ?_) #[true, false, false, false, false] rfl rfl (by kernel_rfl) (fun _ _ _ h => h) (Or.inl ⟨by rfl, ?_⟩) hHeld ?_ ?_
      rotate_left
      ·rintro w' ⟨s0, s1, s2, s3⟩
       go_simp
       with_reducible rfl
      rotate_left
      ·simp only [PUz]
       rfl
      refine take_ (i := 1) (N := some 36) (v := ?_) (a' := ?_) #[true, true, false, false, false] rfl rfl (by kernel_rfl) (fun _ _ _ h => h) (Or.inl ⟨by rfl, ?_⟩) hHeld ?_ ?_
      rotate_left
      ·rintro w' ⟨s0, s1, s2, s3⟩
       go_simp
       with_reducible rfl
      rotate_left
      ·simp only [PUz]
       rfl
      refine one_ (i := 2) (N := some 37) #[true, true, true, false, false] rfl rfl (by kernel_rfl) (by decide) (fun K hK => ?_)
      refine goes_ Tryd.func54 (by kernel_rfl) rfl #[.agg #[.slice A0_0 l0_0.length c0_0, .slice A0_1 l0_1.length c0_1]] (by rfl) rfl rfl MPz ?_
      with_reducible refine (laws_toEntry.calls k _ _ l0_0 _ _ l0_1 t316 t319 _ ?side1 ?side2 ?side3 ?side4 A60.out).mono ?_
      (case side1 => exact KCz (Kd.C_below HR0_0.out HB.out))
      (case side2 => exact HC0_0.out)
      (case side3 => exact KCz (Kd.C_below HR0_1.out HB.out))
      (case side4 => exact HC0_1.out)
      rintro e w145 ⟨v317, v320, rfl, ho0, ho1, hb⟩
      refine ⟨_, rfl, ?_⟩
      have n0_ := Aside0.mk (Kd.R_elder' (KRz HO290) (Kd.R_base ho0) hb)
      have n1_ := Aside0.mk (Kd.S_elder' (KSz HO293) (Kd.S_base ho1) hb)
      have n2_ := Aside0.mk (Kd.R_elder' (KRz HO296) (Kd.R_base ho0) hb)
      have n3_ := Aside0.mk (Kd.S_elder' (KSz HO299) (Kd.S_base ho1) hb)
      have n4_ := Aside0.mk (Kd.R_elder' (KRz HO303) (Kd.R_base ho0) hb)
      have n5_ := Aside0.mk (Kd.S_elder' (KSz HO306) (Kd.S_base ho1) hb)
      have n6_ := Aside0.mk (Kd.R_elder' (KRz HO310) (Kd.R_base ho0) hb)
      have n7_ := Aside0.mk (Kd.S_elder' (KSz HO313) (Kd.S_base ho1) hb)
      have n8_ := Aside0.mk (Kd.R_lower (Kd.R_new' (Kd.R_new' (Kd.R_new' (Kd.R_new' ho0 (Kd.R_lt (KRz HO290))) (Kd.R_lt (KRz HO296))) (Kd.R_lt (KRz HO303))) (Kd.R_lt (KRz HO310))) (below_size (HBe GE284 GE285 GE307 GE314)))
      have n9_ := Aside0.mk (Kd.S_lower (Kd.S_new' (Kd.S_new' (Kd.S_new' (Kd.S_new' ho1 (Kd.S_lt (KSz HO293))) (Kd.S_lt (KSz HO299))) (Kd.S_lt (KSz HO306))) (Kd.S_lt (KSz HO313))) (below_size (HBe GE284 GE285 GE307 GE314)))
      have n10_ := BBz BK284 hb
      have n11_ := BBz BK285 hb
      have n12_ := BBz BK307 hb
      have n13_ := BBz BK314 hb
      have n14_ := Aside0.mk (below_step (HBe GE284 GE285 GE307 GE314) hb)
      clear HO290
      clear HO293
      clear HO296
      clear HO299
      clear HO303
      clear HO306
      clear HO310
      clear HO313
      clear BK284
      clear BK285
      clear BK307
      clear BK314
      clear HB
      have HO290 := n0_
      have HO293 := n1_
      have HO296 := n2_
      have HO299 := n3_
      have HO303 := n4_
      have HO306 := n5_
      have HO310 := n6_
      have HO313 := n7_
      have HO318 := n8_
      have HO321 := n9_
      have BK284 := n10_
      have BK285 := n11_
      have BK307 := n12_
      have BK314 := n13_
      have HB := n14_
      clear n0_ n1_ n2_ n3_ n4_ n5_ n6_ n7_ n8_ n9_ n10_ n11_ n12_ n13_ n14_
      (try clear hb)
      (try clear hb2)
      (try clear hk)
      (try clear hi)
      (try clear ho0)
      (try clear ho1)
      obtain ⟨Ao146, co146, eo146⟩ := Kd.R_slice HO318.out
      (first | subst eo146 | (injection eo146 with f1_ f2_ f3_; have f4_ := f1_.symm; have f5_ := f3_.symm; clear f1_ f2_ f3_; subst f4_; subst f5_))
      obtain ⟨Ao147, co147, eo147⟩ := Kd.S_slice HO321.out
      (first | subst eo147 | (injection eo147 with f1_ f2_ f3_; have f4_ := f1_.symm; have f5_ := f3_.symm; clear f1_ f2_ f3_; subst f4_; subst f5_))
      refine hK.out _ _ ⟨(blk_cell BK307.out 0).trans rfl, (blk_cell BK307.out 1).trans rfl, (blk_cell BK284.out 0).trans rfl, (blk_cell BK284.out 1).trans rfl⟩ (fun hHeld => ?_)
      clear hK K
      refine norm_ (a' := ?_) ?_ ?_
      rotate_left
      ·show Act.put _ (some 37) _ = _
       simp only [PUz]
       rfl
      refine one_ (i := 3) (N := some 38) #[true, true, true, true, false] rfl rfl (by kernel_rfl) (by decide) (fun K hK => ?_)
      refine goes_ Tryd.func56 (by kernel_rfl) rfl #[.agg #[.slice Ao128 t301.length co128, .slice Ao132 t304.length co132], .agg #[.slice Ao146 t316.length co146, .slice Ao147 t319.length co147]] (by rfl) rfl rfl MPz ?_
      with_reducible refine (laws_eqEntry.calls k _ _ t301 _ _ t304 _ _ t316 _ _ t319 true _ ?side1 ?side2 ?side3 ?side4 ?side5 ?side6 ?side7 ?side8 A61.out).mono ?_
      (case side1 => repeat (first | exact (Kd.R_reads' HO303.out).2.2 | (with_reducible refine Kd.C_alloc ?_ _) | (with_reducible refine Kd.C_drewN ?_ _) | (with_reducible refine Kd.C_drew ?_)))
      (case side2 => exact (Kd.R_reads' HO303.out).2.1)
      (case side3 => repeat (first | exact (Kd.S_reads' HO306.out).2.2 | (with_reducible refine Kd.C_alloc ?_ _) | (with_reducible refine Kd.C_drewN ?_ _) | (with_reducible refine Kd.C_drew ?_)))
      (case side4 => exact (Kd.S_reads' HO306.out).2.1)
      (case side5 => repeat (first | exact (Kd.R_reads' HO318.out).2.2 | (with_reducible refine Kd.C_alloc ?_ _) | (with_reducible refine Kd.C_drewN ?_ _) | (with_reducible refine Kd.C_drew ?_)))
      (case side6 => exact (Kd.R_reads' HO318.out).2.1)
      (case side7 => repeat (first | exact (Kd.S_reads' HO321.out).2.2 | (with_reducible refine Kd.C_alloc ?_ _) | (with_reducible refine Kd.C_drewN ?_ _) | (with_reducible refine Kd.C_drew ?_)))
      (case side8 => exact (Kd.S_reads' HO321.out).2.1)
      rintro e w148 ⟨rfl, hb⟩
      refine ⟨_, rfl, ?_⟩
      have n0_ := Aside0.mk (Kd.R_below (KRz HO290) hb)
      have n1_ := Aside0.mk (Kd.S_below (KSz HO293) hb)
      have n2_ := Aside0.mk (Kd.R_below (KRz HO296) hb)
      have n3_ := Aside0.mk (Kd.S_below (KSz HO299) hb)
      have n4_ := Aside0.mk (Kd.R_below (KRz HO303) hb)
      have n5_ := Aside0.mk (Kd.S_below (KSz HO306) hb)
      have n6_ := Aside0.mk (Kd.R_below (KRz HO310) hb)
      have n7_ := Aside0.mk (Kd.S_below (KSz HO313) hb)
      have n8_ := Aside0.mk (Kd.R_below (KRz HO318) hb)
      have n9_ := Aside0.mk (Kd.S_below (KSz HO321) hb)
      have n10_ := BBz BK284 hb
      have n11_ := BBz BK285 hb
      have n12_ := BBz BK307 hb
      have n13_ := BBz BK314 hb
      have n14_ := Aside0.mk (below_step (HBe GE284 GE285 GE307 GE314) hb)
      clear HO290
      clear HO293
      clear HO296
      clear HO299
      clear HO303
      clear HO306
      clear HO310
      clear HO313
      clear HO318
      clear HO321
      clear BK284
      clear BK285
      clear BK307
      clear BK314
      clear HB
      have HO290 := n0_
      have HO293 := n1_
      have HO296 := n2_
      have HO299 := n3_
      have HO303 := n4_
      have HO306 := n5_
      have HO310 := n6_
      have HO313 := n7_
      have HO318 := n8_
      have HO321 := n9_
      have BK284 := n10_
      have BK285 := n11_
      have BK307 := n12_
      have BK314 := n13_
      have HB := n14_
      clear n0_ n1_ n2_ n3_ n4_ n5_ n6_ n7_ n8_ n9_ n10_ n11_ n12_ n13_ n14_
      (try clear hb)
      (try clear hb2)
      (try clear hk)
      (try clear hi)
      refine hK.out _ _ ⟨(blk_cell BK307.out 0).trans rfl, (blk_cell BK307.out 1).trans rfl, (blk_cell BK284.out 0).trans rfl, (blk_cell BK284.out 1).trans rfl⟩ (fun hHeld => ?_)
      clear hK K
      refine norm_ (a' := ?_) ?_ ?_
      rotate_left
      ·show Act.put _ (some 38) _ = _
       simp only [PUz]
       rfl
      refine pure_ (i := 4) (N := some 39) (v := ?_) (a' := ?_) #[true, true, true, true, true] rfl rfl (by kernel_rfl) (fun _ _ _ h => h) (Or.inl ⟨by rfl, ?_⟩) ?_ ?_
      rotate_left
      ·intro w'
       go_simp
       with_reducible rfl
      rotate_left
      ·simp only [PUz]
       rfl
      refine done_ (by kernel_rfl) ?_
      try go_wp2
      have n0_ := Aside0.mk (Kd.R_drew HO290.out)
      have n1_ := Aside0.mk (Kd.S_drew HO293.out)
      have n2_ := Aside0.mk (Kd.R_drew HO296.out)
      have n3_ := Aside0.mk (Kd.S_drew HO299.out)
      have n4_ := Aside0.mk (Kd.R_drew HO303.out)
      have n5_ := Aside0.mk (Kd.S_drew HO306.out)
      have n6_ := Aside0.mk (Kd.R_drew HO310.out)
      have n7_ := Aside0.mk (Kd.S_drew HO313.out)
      have n8_ := Aside0.mk (Kd.R_drew HO318.out)
      have n9_ := Aside0.mk (Kd.S_drew HO321.out)
      have n10_ := Aside0.mk (blk_drew BK284.out)
      have n11_ := Aside0.mk (blk_drew BK285.out)
      have n12_ := Aside0.mk (blk_drew BK307.out)
      have n13_ := Aside0.mk (blk_drew BK314.out)
      have n14_ := Aside0.mk (below_drew1 HB.out)
      clear HO290
      clear HO293
      clear HO296
      clear HO299
      clear HO303
      clear HO306
      clear HO310
      clear HO313
      clear HO318
      clear HO321
      clear BK284
      clear BK285
      clear BK307
      clear BK314
      clear HB
      have HO290 := n0_
      have HO293 := n1_
      have HO296 := n2_
      have HO299 := n3_
      have HO303 := n4_
      have HO306 := n5_
      have HO310 := n6_
      have HO313 := n7_
      have HO318 := n8_
      have HO321 := n9_
      have BK284 := n10_
      have BK285 := n11_
      have BK307 := n12_
      have BK314 := n13_
      have HB := n14_
      clear n0_ n1_ n2_ n3_ n4_ n5_ n6_ n7_ n8_ n9_ n10_ n11_ n12_ n13_ n14_
      refine start_ (n := 5) (S := fun w' => w'.cell? ⟨gb314, 0, none⟩ = some (.slice Ao136 t308.length co136) ∧ w'.cell? ⟨gb314, 1, none⟩ = some (.slice Ao141 t311.length co141) ∧ w'.cell? ⟨gb285, 0, none⟩ = some (.slice A1_0 l1_0.length c1_0) ∧ w'.cell? ⟨gb285, 1, none⟩ = some (.slice A1_1 l1_1.length c1_1)) (ds := []) #[false, false, false, false, false] (by kernel_rfl) rfl rfl ⟨(blk_cell BK314.out 0).trans rfl, (blk_cell BK314.out 1).trans rfl, (blk_cell BK285.out 0).trans rfl, (blk_cell BK285.out 1).trans rfl⟩ (fun hHeld => ?_)
      generalize w148.drew = w149 at HO290 HO293 HO296 HO299 HO303 HO306 HO310 HO313 HO318 HO321 BK284 BK285 BK307 BK314 HB hHeld ⊢
      refine take_ (i := 0) (N := some 40) (v := ?_) (a' := ?_) #[true, false, false, false, false] rfl rfl (by kernel_rfl) (fun _ _ _ h => h) (Or.inl ⟨by rfl, ?_⟩) hHeld ?_ ?_
      rotate_left
      ·rintro w' ⟨s0, s1, s2, s3⟩
       go_simp
       with_reducible rfl
      rotate_left
      ·simp only [PUz]
       rfl
      refine take_ (i := 1) (N := some 41) (v := ?_) (a' := ?_) #[true, true, false, false, false] rfl rfl (by kernel_rfl) (fun _ _ _ h => h) (Or.inl ⟨by rfl, ?_⟩) hHeld ?_ ?_
      rotate_left
      ·rintro w' ⟨s0, s1, s2, s3⟩
       go_simp
       with_reducible rfl
      rotate_left
      ·simp only [PUz]
       rfl
      refine one_ (i := 2) (N := some 42) #[true, true, true, false, false] rfl rfl (by kernel_rfl) (by decide) (fun K hK => ?_)
      refine goes_ Tryd.func54 (by kernel_rfl) rfl #[.agg #[.slice A1_0 l1_0.length c1_0, .slice A1_1 l1_1.length c1_1]] (by rfl) rfl rfl MPz ?_
      with_reducible refine (laws_toEntry.calls k _ _ l1_0 _ _ l1_1 t323 t326 _ ?side1 ?side2 ?side3 ?side4 A63.out).mono ?_
      (case side1 => exact KCz (Kd.C_below HR1_0.out HB.out))
      (case side2 => exact HC1_0.out)
      (case side3 => exact KCz (Kd.C_below HR1_1.out HB.out))
      (case side4 => exact HC1_1.out)
      rintro e w150 ⟨v324, v327, rfl, ho0, ho1, hb⟩
      refine ⟨_, rfl, ?_⟩
      have n0_ := Aside0.mk (Kd.R_elder' (KRz HO290) (Kd.R_base ho0) hb)
      have n1_ := Aside0.mk (Kd.S_elder' (KSz HO293) (Kd.S_base ho1) hb)
      have n2_ := Aside0.mk (Kd.R_elder' (KRz HO296) (Kd.R_base ho0) hb)
      have n3_ := Aside0.mk (Kd.S_elder' (KSz HO299) (Kd.S_base ho1) hb)
      have n4_ := Aside0.mk (Kd.R_elder' (KRz HO303) (Kd.R_base ho0) hb)
      have n5_ := Aside0.mk (Kd.S_elder' (KSz HO306) (Kd.S_base ho1) hb)
      have n6_ := Aside0.mk (Kd.R_elder' (KRz HO310) (Kd.R_base ho0) hb)
      have n7_ := Aside0.mk (Kd.S_elder' (KSz HO313) (Kd.S_base ho1) hb)
      have n8_ := Aside0.mk (Kd.R_elder' (KRz HO318) (Kd.R_base ho0) hb)
      have n9_ := Aside0.mk (Kd.S_elder' (KSz HO321) (Kd.S_base ho1) hb)
      have n10_ := Aside0.mk (Kd.R_lower (Kd.R_new' (Kd.R_new' (Kd.R_new' (Kd.R_new' (Kd.R_new' ho0 (Kd.R_lt (KRz HO290))) (Kd.R_lt (KRz HO296))) (Kd.R_lt (KRz HO303))) (Kd.R_lt (KRz HO310))) (Kd.R_lt (KRz HO318))) (below_size (HBe GE284 GE285 GE307 GE314)))
      have n11_ := Aside0.mk (Kd.S_lower (Kd.S_new' (Kd.S_new' (Kd.S_new' (Kd.S_new' (Kd.S_new' ho1 (Kd.S_lt (KSz HO293))) (Kd.S_lt (KSz HO299))) (Kd.S_lt (KSz HO306))) (Kd.S_lt (KSz HO313))) (Kd.S_lt (KSz HO321))) (below_size (HBe GE284 GE285 GE307 GE314)))
      have n12_ := BBz BK284 hb
      have n13_ := BBz BK285 hb
      have n14_ := BBz BK307 hb
      have n15_ := BBz BK314 hb
      have n16_ := Aside0.mk (below_step (HBe GE284 GE285 GE307 GE314) hb)
      clear HO290
      clear HO293
      clear HO296
      clear HO299
      clear HO303
      clear HO306
      clear HO310
      clear HO313
      clear HO318
      clear HO321
      clear BK284
      clear BK285
      clear BK307
      clear BK314
      clear HB
      have HO290 := n0_
      have HO293 := n1_
      have HO296 := n2_
      have HO299 := n3_
      have HO303 := n4_
      have HO306 := n5_
      have HO310 := n6_
      have HO313 := n7_
      have HO318 := n8_
      have HO321 := n9_
      have HO325 := n10_
      have HO328 := n11_
      have BK284 := n12_
      have BK285 := n13_
      have BK307 := n14_
      have BK314 := n15_
      have HB := n16_
      clear n0_ n1_ n2_ n3_ n4_ n5_ n6_ n7_ n8_ n9_ n10_ n11_ n12_ n13_ n14_ n15_ n16_
      (try clear hb)
      (try clear hb2)
      (try clear hk)
      (try clear hi)
      (try clear ho0)
      (try clear ho1)
      obtain ⟨Ao151, co151, eo151⟩ := Kd.R_slice HO325.out
      (first | subst eo151 | (injection eo151 with f1_ f2_ f3_; have f4_ := f1_.symm; have f5_ := f3_.symm; clear f1_ f2_ f3_; subst f4_; subst f5_))
      obtain ⟨Ao152, co152, eo152⟩ := Kd.S_slice HO328.out
      (first | subst eo152 | (injection eo152 with f1_ f2_ f3_; have f4_ := f1_.symm; have f5_ := f3_.symm; clear f1_ f2_ f3_; subst f4_; subst f5_))
      refine hK.out _ _ ⟨(blk_cell BK314.out 0).trans rfl, (blk_cell BK314.out 1).trans rfl, (blk_cell BK285.out 0).trans rfl, (blk_cell BK285.out 1).trans rfl⟩ (fun hHeld => ?_)
      clear hK K
      refine norm_ (a' := ?_) ?_ ?_
      rotate_left
      ·show Act.put _ (some 42) _ = _
       simp only [PUz]
       rfl
      refine one_ (i := 3) (N := some 43) #[true, true, true, true, false] rfl rfl (by kernel_rfl) (by decide) (fun K hK => ?_)
      refine goes_ Tryd.func56 (by kernel_rfl) rfl #[.agg #[.slice Ao136 t308.length co136, .slice Ao141 t311.length co141], .agg #[.slice Ao151 t323.length co151, .slice Ao152 t326.length co152]] (by rfl) rfl rfl MPz ?_
      with_reducible refine (laws_eqEntry.calls k _ _ t308 _ _ t311 _ _ t323 _ _ t326 false _ ?side1 ?side2 ?side3 ?side4 ?side5 ?side6 ?side7 ?side8 A64.out).mono ?_
      (case side1 => repeat (first | exact (Kd.R_reads' HO310.out).2.2 | (with_reducible refine Kd.C_alloc ?_ _) | (with_reducible refine Kd.C_drewN ?_ _) | (with_reducible refine Kd.C_drew ?_)))
      (case side2 => exact (Kd.R_reads' HO310.out).2.1)
      (case side3 => repeat (first | exact (Kd.S_reads' HO313.out).2.2 | (with_reducible refine Kd.C_alloc ?_ _) | (with_reducible refine Kd.C_drewN ?_ _) | (with_reducible refine Kd.C_drew ?_)))
      (case side4 => exact (Kd.S_reads' HO313.out).2.1)
      (case side5 => repeat (first | exact (Kd.R_reads' HO325.out).2.2 | (with_reducible refine Kd.C_alloc ?_ _) | (with_reducible refine Kd.C_drewN ?_ _) | (with_reducible refine Kd.C_drew ?_)))
      (case side6 => exact (Kd.R_reads' HO325.out).2.1)
      (case side7 => repeat (first | exact (Kd.S_reads' HO328.out).2.2 | (with_reducible refine Kd.C_alloc ?_ _) | (with_reducible refine Kd.C_drewN ?_ _) | (with_reducible refine Kd.C_drew ?_)))
      (case side8 => exact (Kd.S_reads' HO328.out).2.1)
      rintro e w153 ⟨rfl, hb⟩
      refine ⟨_, rfl, ?_⟩
      have n0_ := Aside0.mk (Kd.R_below (KRz HO290) hb)
      have n1_ := Aside0.mk (Kd.S_below (KSz HO293) hb)
      have n2_ := Aside0.mk (Kd.R_below (KRz HO296) hb)
      have n3_ := Aside0.mk (Kd.S_below (KSz HO299) hb)
      have n4_ := Aside0.mk (Kd.R_below (KRz HO303) hb)
      have n5_ := Aside0.mk (Kd.S_below (KSz HO306) hb)
      have n6_ := Aside0.mk (Kd.R_below (KRz HO310) hb)
      have n7_ := Aside0.mk (Kd.S_below (KSz HO313) hb)
      have n8_ := Aside0.mk (Kd.R_below (KRz HO318) hb)
      have n9_ := Aside0.mk (Kd.S_below (KSz HO321) hb)
      have n10_ := Aside0.mk (Kd.R_below (KRz HO325) hb)
      have n11_ := Aside0.mk (Kd.S_below (KSz HO328) hb)
      have n12_ := BBz BK284 hb
      have n13_ := BBz BK285 hb
      have n14_ := BBz BK307 hb
      have n15_ := BBz BK314 hb
      have n16_ := Aside0.mk (below_step (HBe GE284 GE285 GE307 GE314) hb)
      clear HO290
      clear HO293
      clear HO296
      clear HO299
      clear HO303
      clear HO306
      clear HO310
      clear HO313
      clear HO318
      clear HO321
      clear HO325
      clear HO328
      clear BK284
      clear BK285
      clear BK307
      clear BK314
      clear HB
      have HO290 := n0_
      have HO293 := n1_
      have HO296 := n2_
      have HO299 := n3_
      have HO303 := n4_
      have HO306 := n5_
      have HO310 := n6_
      have HO313 := n7_
      have HO318 := n8_
      have HO321 := n9_
      have HO325 := n10_
      have HO328 := n11_
      have BK284 := n12_
      have BK285 := n13_
      have BK307 := n14_
      have BK314 := n15_
      have HB := n16_
      clear n0_ n1_ n2_ n3_ n4_ n5_ n6_ n7_ n8_ n9_ n10_ n11_ n12_ n13_ n14_ n15_ n16_
      (try clear hb)
      (try clear hb2)
      (try clear hk)
      (try clear hi)
      refine hK.out _ _ ⟨(blk_cell BK314.out 0).trans rfl, (blk_cell BK314.out 1).trans rfl, (blk_cell BK285.out 0).trans rfl, (blk_cell BK285.out 1).trans rfl⟩ (fun hHeld => ?_)
      clear hK K
      refine norm_ (a' := ?_) ?_ ?_
      rotate_left
      ·show Act.put _ (some 43) _ = _
       simp only [PUz]
       rfl
      refine pure_ (i := 4) (N := some 44) (v := ?_) (a' := ?_) #[true, true, true, true, true] rfl rfl (by kernel_rfl) (fun _ _ _ h => h) (Or.inl ⟨by rfl, ?_⟩) ?_ ?_
      rotate_left
      ·intro w'
       go_simp
       with_reducible rfl
      rotate_left
      ·simp only [PUz]
       rfl
      refine done_ (by kernel_rfl) ?_
      try go_wp2
      go_ret
      exact ⟨EZa, HBe GE284 GE285 GE307 GE314⟩
    ·replace c62 := Bool.eq_false_iff.mpr c62
     subst c62
     have H1 : (some false) = some r := by rw [if_neg (show ¬ (false = true) by decide)] at H; exact H
     clear H
     have H := H1
     clear H1
     obtain rfl := Option.some.inj H
     go_enter Tryd.func12, Tryd.ntmps12
     try go_wp2_with (first | ((with_reducible refine gate_dst (N := 2) rfl ?_); refine box_event ?hg (N := 2) ?hd (cs := #[.slice A0_0 l0_0.length c0_0, .slice A0_1 l0_1.length c0_1]) (t := 66) ?hr ?_; (case hd => rfl); (case hg => rfl); (case hr => first | (go_simp; done) | (go_simp; rfl)); intro gb284 hg w154 hbox hb; have n0_ := Aside0.mk (below_step HBa hb); have n1_ := Aside0.mk (hbox); have n2_ := BSz w hg HBa; have n3_ := BSz w hg HBa; clear HB; have HB := n0_; have BK284 := n1_; have GW284 := n2_; have GE284 := n3_; clear n0_ n1_ n2_ n3_; clear hb hbox hg) | ((with_reducible refine gate_dst (N := 3) rfl ?_); refine box_event ?hg (N := 3) ?hd (cs := #[.slice A1_0 l1_0.length c1_0, .slice A1_1 l1_1.length c1_1]) (t := 66) ?hr ?_; (case hd => rfl); (case hg => rfl); (case hr => first | (go_simp; done) | (go_simp; rfl)); intro gb285 hg w155 hbox hb; have n0_ := BBz BK284 hb; have n1_ := Aside0.mk (below_step (HBb GE284) hb); have n2_ := Aside0.mk (hbox); have n3_ := BSz w hg (HBb GE284); have n4_ := BSz w hg (HBb GE284); have n5_ := BNz BK284 hg; have n6_ := BMz BK284 hg; clear BK284; clear HB; have BK284 := n0_; have HB := n1_; have BK285 := n2_; have GW285 := n3_; have GE285 := n4_; have NB284_285 := n5_; have NB285_284 := n6_; clear n0_ n1_ n2_ n3_ n4_ n5_ n6_; clear hb hbox hg; have hnb156 := NB284_285.out; have hnc156 := NB285_284.out; have hcz157_0 : w155.cell? ⟨gb284, 0, none⟩ = some (.slice A0_0 l0_0.length c0_0) := (blk_cell BK284.out 0).trans rfl; have hcz157_1 : w155.cell? ⟨gb284, 1, none⟩ = some (.slice A0_1 l0_1.length c0_1) := (blk_cell BK284.out 1).trans rfl; have hfz157_0 := blk_frozen BK284.out 0; have hfz157_1 := blk_frozen BK284.out 1) | ((with_reducible refine gate_callee (f := 52) rfl ?_); refine goesL_ (some 12) rfl rfl Tryd.func52 (by kernel_rfl) rfl #[.agg #[.slice A0_0 l0_0.length c0_0, .slice A0_1 l0_1.length c0_1], .int .i64 1048576] rfl MPz ?_; (with_reducible refine (laws_szEntry.calls k _ _ l0_0 _ _ l0_1 1048576 t286 _ ?side1 ?side2 ?side3 ?side4 A3.out).mono ?_); (case side1 => exact KCz (Kd.C_below HR0_0.out HB.out)); (case side2 => exact HC0_0.out); (case side3 => exact KCz (Kd.C_below HR0_1.out HB.out)); (case side4 => exact HC0_1.out); rintro e w158 ⟨rfl, hb⟩; refine ⟨_, rfl, ?_⟩; have n0_ := BBz BK284 hb; have n1_ := BBz BK285 hb; have n2_ := Aside0.mk (below_step (HBc GE284 GE285) hb); clear BK284; clear BK285; clear HB; have BK284 := n0_; have BK285 := n1_; have HB := n2_; clear n0_ n1_ n2_; (try clear hb); (try clear hb2); (try clear hk); (try clear hi); have hcz159_0 : w158.cell? ⟨gb285, 0, none⟩ = some (.slice A1_0 l1_0.length c1_0) := (blk_cell BK285.out 0).trans rfl; have hcz159_1 : w158.cell? ⟨gb285, 1, none⟩ = some (.slice A1_1 l1_1.length c1_1) := (blk_cell BK285.out 1).trans rfl; have hfz159_0 := blk_frozen BK285.out 0; have hfz159_1 := blk_frozen BK285.out 1) | ((with_reducible refine gate_callee (f := 52) rfl ?_); refine goesL_ (some 17) rfl rfl Tryd.func52 (by kernel_rfl) rfl #[.agg #[.slice A1_0 l1_0.length c1_0, .slice A1_1 l1_1.length c1_1], .int .i64 t286] rfl MPz ?_; (with_reducible refine (laws_szEntry.calls k _ _ l1_0 _ _ l1_1 t286 t287 _ ?side1 ?side2 ?side3 ?side4 A10.out).mono ?_); (case side1 => exact KCz (Kd.C_below HR1_0.out HB.out)); (case side2 => exact HC1_0.out); (case side3 => exact KCz (Kd.C_below HR1_1.out HB.out)); (case side4 => exact HC1_1.out); rintro e w160 ⟨rfl, hb⟩; refine ⟨_, rfl, ?_⟩; have n0_ := BBz BK284 hb; have n1_ := BBz BK285 hb; have n2_ := Aside0.mk (below_step (HBc GE284 GE285) hb); clear BK284; clear BK285; clear HB; have BK284 := n0_; have BK285 := n1_; have HB := n2_; clear n0_ n1_ n2_; (try clear hb); (try clear hb2); (try clear hk); (try clear hi)))
     have n0_ := Aside0.mk (blk_drew BK284.out)
     have n1_ := Aside0.mk (blk_drew BK285.out)
     have n2_ := Aside0.mk (below_drew1 HB.out)
     clear BK284
     clear BK285
     clear HB
     have BK284 := n0_
     have BK285 := n1_
     have HB := n2_
     clear n0_ n1_ n2_
     refine start_ (n := 6) (S := fun w' => w'.cell? ⟨gb284, 0, none⟩ = some (.slice A0_0 l0_0.length c0_0) ∧ w'.cell? ⟨gb284, 1, none⟩ = some (.slice A0_1 l0_1.length c0_1) ∧ w'.cell? ⟨gb285, 0, none⟩ = some (.slice A1_0 l1_0.length c1_0) ∧ w'.cell? ⟨gb285, 1, none⟩ = some (.slice A1_1 l1_1.length c1_1)) (ds := []) #[false, false, false, false, false, false] (by kernel_rfl) rfl rfl ⟨(blk_cell BK284.out 0).trans rfl, (blk_cell BK284.out 1).trans rfl, (blk_cell BK285.out 0).trans rfl, (blk_cell BK285.out 1).trans rfl⟩ (fun hHeld => ?_)
     generalize w160.drew = w161 at BK284 BK285 HB hHeld ⊢
     refine take_ (i := 0) (N := some 20) (v := ?_) (a' := ?_) #[true, false, false, false, false, false] rfl rfl (by kernel_rfl) (fun _ _ _ h => h) (Or.inl ⟨by rfl, ?_⟩) hHeld ?_ ?_
     rotate_left
     ·rintro w' ⟨s0, s1, s2, s3⟩
      go_simp
      with_reducible rfl
     rotate_left
     ·simp only [PUz]
      rfl
     refine take_ (i := 2) (N := some 22) (v := ?_) (a' := ?_) #[true, false, true, false, false, false] rfl rfl (by kernel_rfl) (fun _ _ _ h => h) (Or.inl ⟨by rfl, ?_⟩) hHeld ?_ ?_
     rotate_left
     ·rintro w' ⟨s0, s1, s2, s3⟩
      go_simp
      with_reducible rfl
     rotate_left
     ·simp only [PUz]
      rfl
     refine one_ (i := 1) (N := some 21) #[true, true, true, false, false, false] rfl rfl (by kernel_rfl) (by decide) (fun K hK => ?_)
     refine goes_ Tryd.func54 (by kernel_rfl) rfl #[.agg #[.slice A0_0 l0_0.length c0_0, .slice A0_1 l0_1.length c0_1]] (by rfl) rfl rfl MPz ?_
     with_reducible refine (laws_toEntry.calls k _ _ l0_0 _ _ l0_1 t288 t291 _ ?side1 ?side2 ?side3 ?side4 A19.out).mono ?_
     (case side1 => exact KCz (Kd.C_below HR0_0.out HB.out))
     (case side2 => exact HC0_0.out)
     (case side3 => exact KCz (Kd.C_below HR0_1.out HB.out))
     (case side4 => exact HC0_1.out)
     rintro e w162 ⟨v289, v292, rfl, ho0, ho1, hb⟩
     refine ⟨_, rfl, ?_⟩
     have n0_ := Aside0.mk (Kd.R_lower ho0 (below_size (HBc GE284 GE285)))
     have n1_ := Aside0.mk (Kd.S_lower ho1 (below_size (HBc GE284 GE285)))
     have n2_ := BBz BK284 hb
     have n3_ := BBz BK285 hb
     have n4_ := Aside0.mk (below_step (HBc GE284 GE285) hb)
     clear BK284
     clear BK285
     clear HB
     have HO290 := n0_
     have HO293 := n1_
     have BK284 := n2_
     have BK285 := n3_
     have HB := n4_
     clear n0_ n1_ n2_ n3_ n4_
     (try clear hb)
     (try clear hb2)
     (try clear hk)
     (try clear hi)
     (try clear ho0)
     (try clear ho1)
     refine hK.out _ _ ⟨(blk_cell BK284.out 0).trans rfl, (blk_cell BK284.out 1).trans rfl, (blk_cell BK285.out 0).trans rfl, (blk_cell BK285.out 1).trans rfl⟩ (fun hHeld => ?_)
     clear hK K
     refine norm_ (a' := ?_) ?_ ?_
     rotate_left
     ·show Act.put _ (some 21) _ = _
      simp only [PUz]
      rfl
     refine one_ (i := 3) (N := some 23) #[true, true, true, true, false, false] rfl rfl (by kernel_rfl) (by decide) (fun K hK => ?_)
     refine goes_ Tryd.func54 (by kernel_rfl) rfl #[.agg #[.slice A1_0 l1_0.length c1_0, .slice A1_1 l1_1.length c1_1]] (by rfl) rfl rfl MPz ?_
     with_reducible refine (laws_toEntry.calls k _ _ l1_0 _ _ l1_1 t294 t297 _ ?side1 ?side2 ?side3 ?side4 A20.out).mono ?_
     (case side1 => exact KCz (Kd.C_below HR1_0.out HB.out))
     (case side2 => exact HC1_0.out)
     (case side3 => exact KCz (Kd.C_below HR1_1.out HB.out))
     (case side4 => exact HC1_1.out)
     rintro e w163 ⟨v295, v298, rfl, ho0, ho1, hb⟩
     refine ⟨_, rfl, ?_⟩
     have n0_ := Aside0.mk (Kd.R_elder' (KRz HO290) (Kd.R_base ho0) hb)
     have n1_ := Aside0.mk (Kd.S_elder' (KSz HO293) (Kd.S_base ho1) hb)
     have n2_ := Aside0.mk (Kd.R_lower (Kd.R_new' ho0 (Kd.R_lt (KRz HO290))) (below_size (HBc GE284 GE285)))
     have n3_ := Aside0.mk (Kd.S_lower (Kd.S_new' ho1 (Kd.S_lt (KSz HO293))) (below_size (HBc GE284 GE285)))
     have n4_ := BBz BK284 hb
     have n5_ := BBz BK285 hb
     have n6_ := Aside0.mk (below_step (HBc GE284 GE285) hb)
     clear HO290
     clear HO293
     clear BK284
     clear BK285
     clear HB
     have HO290 := n0_
     have HO293 := n1_
     have HO296 := n2_
     have HO299 := n3_
     have BK284 := n4_
     have BK285 := n5_
     have HB := n6_
     clear n0_ n1_ n2_ n3_ n4_ n5_ n6_
     (try clear hb)
     (try clear hb2)
     (try clear hk)
     (try clear hi)
     (try clear ho0)
     (try clear ho1)
     obtain ⟨Ao164, co164, eo164⟩ := Kd.R_slice HO290.out
     (first | subst eo164 | (injection eo164 with f1_ f2_ f3_; have f4_ := f1_.symm; have f5_ := f3_.symm; clear f1_ f2_ f3_; subst f4_; subst f5_))
     obtain ⟨Ao165, co165, eo165⟩ := Kd.S_slice HO293.out
     (first | subst eo165 | (injection eo165 with f1_ f2_ f3_; have f4_ := f1_.symm; have f5_ := f3_.symm; clear f1_ f2_ f3_; subst f4_; subst f5_))
     obtain ⟨Ao166, co166, eo166⟩ := Kd.R_slice HO296.out
     (first | subst eo166 | (injection eo166 with f1_ f2_ f3_; have f4_ := f1_.symm; have f5_ := f3_.symm; clear f1_ f2_ f3_; subst f4_; subst f5_))
     obtain ⟨Ao167, co167, eo167⟩ := Kd.S_slice HO299.out
     (first | subst eo167 | (injection eo167 with f1_ f2_ f3_; have f4_ := f1_.symm; have f5_ := f3_.symm; clear f1_ f2_ f3_; subst f4_; subst f5_))
     refine hK.out _ _ ⟨(blk_cell BK284.out 0).trans rfl, (blk_cell BK284.out 1).trans rfl, (blk_cell BK285.out 0).trans rfl, (blk_cell BK285.out 1).trans rfl⟩ (fun hHeld => ?_)
     clear hK K
     refine norm_ (a' := ?_) ?_ ?_
     rotate_left
     ·show Act.put _ (some 23) _ = _
      simp only [PUz]
      rfl
     refine one_ (i := 4) (N := some 24) #[true, true, true, true, true, false] rfl rfl (by kernel_rfl) (by decide) (fun K hK => ?_)
     refine goes_ Tryd.func62 (by kernel_rfl) rfl #[.agg #[.slice Ao164 t288.length co164, .slice Ao165 t291.length co165], .agg #[.slice Ao166 t294.length co166, .slice Ao167 t297.length co167]] (by rfl) rfl rfl MPz ?_
     with_reducible refine (spec_EntrySame.calls k _ _ t288 _ _ t291 _ _ t294 _ _ t297 t300 _ ?side1 ?side2 ?side3 ?side4 ?side5 ?side6 ?side7 ?side8 A21.out).mono ?_
     (case side1 => repeat (first | exact (Kd.R_reads' HO290.out).2.2 | (with_reducible refine Kd.C_alloc ?_ _) | (with_reducible refine Kd.C_drewN ?_ _) | (with_reducible refine Kd.C_drew ?_)))
     (case side2 => exact (Kd.R_reads' HO290.out).2.1)
     (case side3 => repeat (first | exact (Kd.S_reads' HO293.out).2.2 | (with_reducible refine Kd.C_alloc ?_ _) | (with_reducible refine Kd.C_drewN ?_ _) | (with_reducible refine Kd.C_drew ?_)))
     (case side4 => exact (Kd.S_reads' HO293.out).2.1)
     (case side5 => repeat (first | exact (Kd.R_reads' HO296.out).2.2 | (with_reducible refine Kd.C_alloc ?_ _) | (with_reducible refine Kd.C_drewN ?_ _) | (with_reducible refine Kd.C_drew ?_)))
     (case side6 => exact (Kd.R_reads' HO296.out).2.1)
     (case side7 => repeat (first | exact (Kd.S_reads' HO299.out).2.2 | (with_reducible refine Kd.C_alloc ?_ _) | (with_reducible refine Kd.C_drewN ?_ _) | (with_reducible refine Kd.C_drew ?_)))
     (case side8 => exact (Kd.S_reads' HO299.out).2.1)
     rintro e w168 ⟨rfl, hb⟩
     refine ⟨_, rfl, ?_⟩
     have n0_ := Aside0.mk (Kd.R_below (KRz HO290) hb)
     have n1_ := Aside0.mk (Kd.S_below (KSz HO293) hb)
     have n2_ := Aside0.mk (Kd.R_below (KRz HO296) hb)
     have n3_ := Aside0.mk (Kd.S_below (KSz HO299) hb)
     have n4_ := BBz BK284 hb
     have n5_ := BBz BK285 hb
     have n6_ := Aside0.mk (below_step (HBc GE284 GE285) hb)
     clear HO290
     clear HO293
     clear HO296
     clear HO299
     clear BK284
     clear BK285
     clear HB
     have HO290 := n0_
     have HO293 := n1_
     have HO296 := n2_
     have HO299 := n3_
     have BK284 := n4_
     have BK285 := n5_
     have HB := n6_
     clear n0_ n1_ n2_ n3_ n4_ n5_ n6_
     (try clear hb)
     (try clear hb2)
     (try clear hk)
     (try clear hi)
     refine hK.out _ _ ⟨(blk_cell BK284.out 0).trans rfl, (blk_cell BK284.out 1).trans rfl, (blk_cell BK285.out 0).trans rfl, (blk_cell BK285.out 1).trans rfl⟩ (fun hHeld => ?_)
     clear hK K
     refine norm_ (a' := ?_) ?_ ?_
     rotate_left
     ·show Act.put _ (some 24) _ = _
      simp only [PUz]
      rfl
     refine pure_ (i := 5) (N := some 6) (v := ?_) (a' := ?_) #[true, true, true, true, true, true] rfl rfl (by kernel_rfl) (fun _ _ _ h => h) (Or.inl ⟨by rfl, ?_⟩) ?_ ?_
     rotate_left
     ·intro w'
      go_simp
      with_reducible rfl
     rotate_left
     ·simp only [PUz]
      rfl
     refine done_ (by kernel_rfl) ?_
     have hcz169_0 : w168.cell? ⟨gb284, 0, none⟩ = some (.slice A0_0 l0_0.length c0_0) := (blk_cell BK284.out 0).trans rfl
     have hcz169_1 : w168.cell? ⟨gb284, 1, none⟩ = some (.slice A0_1 l0_1.length c0_1) := (blk_cell BK284.out 1).trans rfl
     have hfz169_0 := blk_frozen BK284.out 0
     have hfz169_1 := blk_frozen BK284.out 1
     try go_wp2_with (first | ((with_reducible refine gate_callee (f := 54) rfl ?_); refine goesL_ (some 26) rfl rfl Tryd.func54 (by kernel_rfl) rfl #[.agg #[.slice A0_0 l0_0.length c0_0, .slice A0_1 l0_1.length c0_1]] rfl MPz ?_; (with_reducible refine (laws_toEntry.calls k _ _ l0_0 _ _ l0_1 t301 t304 _ ?side1 ?side2 ?side3 ?side4 A22.out).mono ?_); (case side1 => exact KCz (Kd.C_below HR0_0.out HB.out)); (case side2 => exact HC0_0.out); (case side3 => exact KCz (Kd.C_below HR0_1.out HB.out)); (case side4 => exact HC0_1.out); rintro e w170 ⟨v302, v305, rfl, ho0, ho1, hb⟩; refine ⟨_, rfl, ?_⟩; have n0_ := Aside0.mk (Kd.R_elder' (KRz HO290) (Kd.R_base ho0) hb); have n1_ := Aside0.mk (Kd.S_elder' (KSz HO293) (Kd.S_base ho1) hb); have n2_ := Aside0.mk (Kd.R_elder' (KRz HO296) (Kd.R_base ho0) hb); have n3_ := Aside0.mk (Kd.S_elder' (KSz HO299) (Kd.S_base ho1) hb); have n4_ := Aside0.mk (Kd.R_lower (Kd.R_new' (Kd.R_new' ho0 (Kd.R_lt (KRz HO290))) (Kd.R_lt (KRz HO296))) (below_size (HBc GE284 GE285))); have n5_ := Aside0.mk (Kd.S_lower (Kd.S_new' (Kd.S_new' ho1 (Kd.S_lt (KSz HO293))) (Kd.S_lt (KSz HO299))) (below_size (HBc GE284 GE285))); have n6_ := BBz BK284 hb; have n7_ := BBz BK285 hb; have n8_ := Aside0.mk (below_step (HBc GE284 GE285) hb); clear HO290; clear HO293; clear HO296; clear HO299; clear BK284; clear BK285; clear HB; have HO290 := n0_; have HO293 := n1_; have HO296 := n2_; have HO299 := n3_; have HO303 := n4_; have HO306 := n5_; have BK284 := n6_; have BK285 := n7_; have HB := n8_; clear n0_ n1_ n2_ n3_ n4_ n5_ n6_ n7_ n8_; (try clear hb); (try clear hb2); (try clear hk); (try clear hi); (try clear ho0); (try clear ho1)) | ((with_reducible refine gate_dst (N := 7) rfl ?_); refine box_event ?hg (N := 7) ?hd (cs := #[.slice none 0 0, .slice none 0 0]) (t := 71) ?hr ?_; (case hd => rfl); (case hg => rfl); (case hr => first | (go_simp; done) | (go_simp; rfl)); intro gb307 hg w171 hbox hb; have n0_ := Aside0.mk (Kd.R_below (KRz HO290) hb); have n1_ := Aside0.mk (Kd.S_below (KSz HO293) hb); have n2_ := Aside0.mk (Kd.R_below (KRz HO296) hb); have n3_ := Aside0.mk (Kd.S_below (KSz HO299) hb); have n4_ := Aside0.mk (Kd.R_below (KRz HO303) hb); have n5_ := Aside0.mk (Kd.S_below (KSz HO306) hb); have n6_ := BBz BK284 hb; have n7_ := BBz BK285 hb; have n8_ := Aside0.mk (below_step (HBc GE284 GE285) hb); have n9_ := Aside0.mk (hbox); have n10_ := BSz w hg (HBc GE284 GE285); have n11_ := BSz w hg (HBc GE284 GE285); have n12_ := BNz BK284 hg; have n13_ := BMz BK284 hg; have n14_ := BNz BK285 hg; have n15_ := BMz BK285 hg; clear HO290; clear HO293; clear HO296; clear HO299; clear HO303; clear HO306; clear BK284; clear BK285; clear HB; have HO290 := n0_; have HO293 := n1_; have HO296 := n2_; have HO299 := n3_; have HO303 := n4_; have HO306 := n5_; have BK284 := n6_; have BK285 := n7_; have HB := n8_; have BK307 := n9_; have GW307 := n10_; have GE307 := n11_; have NB284_307 := n12_; have NB307_284 := n13_; have NB285_307 := n14_; have NB307_285 := n15_; clear n0_ n1_ n2_ n3_ n4_ n5_ n6_ n7_ n8_ n9_ n10_ n11_ n12_ n13_ n14_ n15_; clear hb hbox hg; obtain ⟨Ao172, co172, eo172⟩ := Kd.R_slice HO303.out; subst eo172; have hnb173 := NB307_284.out; have hnc173 := NB284_307.out; have hnb174 := NB307_285.out; have hnc174 := NB285_307.out; have hcz175_0 : w171.cell? ⟨gb307, 0, none⟩ = some (.slice none 0 0) := (blk_cell BK307.out 0).trans rfl; have hcz175_1 : w171.cell? ⟨gb307, 1, none⟩ = some (.slice none 0 0) := (blk_cell BK307.out 1).trans rfl; have hfz175_0 := blk_frozen BK307.out 0; have hfz175_1 := blk_frozen BK307.out 1; obtain ⟨Ao176, co176, eo176⟩ := Kd.S_slice HO306.out; subst eo176; have hcz177_0 : w171.cell? ⟨gb285, 0, none⟩ = some (.slice A1_0 l1_0.length c1_0) := (blk_cell BK285.out 0).trans rfl; have hcz177_1 : w171.cell? ⟨gb285, 1, none⟩ = some (.slice A1_1 l1_1.length c1_1) := (blk_cell BK285.out 1).trans rfl; have hfz177_0 := blk_frozen BK285.out 0; have hfz177_1 := blk_frozen BK285.out 1) | ((with_reducible refine gate_callee (f := 54) rfl ?_); refine goesL_ (some 28) rfl rfl Tryd.func54 (by kernel_rfl) rfl #[.agg #[.slice A1_0 l1_0.length c1_0, .slice A1_1 l1_1.length c1_1]] rfl MPz ?_; (with_reducible refine (laws_toEntry.calls k _ _ l1_0 _ _ l1_1 t308 t311 _ ?side1 ?side2 ?side3 ?side4 A23.out).mono ?_); (case side1 => exact Kd.C_below HR1_0.out (HBd GE284 GE285 GE307)); (case side2 => exact HC1_0.out); (case side3 => exact Kd.C_below HR1_1.out (HBd GE284 GE285 GE307)); (case side4 => exact HC1_1.out); rintro e w178 ⟨v309, v312, rfl, ho0, ho1, hb⟩; refine ⟨_, rfl, ?_⟩; have n0_ := Aside0.mk (Kd.R_elder' (by (with_reducible repeat (first | apply Kd.R_alloc | apply Kd.R_drewN | apply Kd.R_drew)); exact (Kd.R_mono (Kd.R_far (p := ⟨gb307, 1, none⟩) (Kd.R_far (p := ⟨gb307, 0, none⟩) (Kd.R_types HO290.out BK307.out (by decide)) (fun _ hk => hk.2) (.slice Ao172 t301.length co172)) (fun _ hk => hk.2) (.slice Ao176 t304.length co176)) (fun _ h_ => h_.1))) (Kd.R_base ho0) hb); have n1_ := Aside0.mk (Kd.S_elder' (by (with_reducible repeat (first | apply Kd.S_alloc | apply Kd.S_drewN | apply Kd.S_drew)); exact (Kd.S_mono (Kd.S_far (p := ⟨gb307, 1, none⟩) (Kd.S_far (p := ⟨gb307, 0, none⟩) (Kd.S_types HO293.out BK307.out (by decide)) (fun _ hk => hk.2) (.slice Ao172 t301.length co172)) (fun _ hk => hk.2) (.slice Ao176 t304.length co176)) (fun _ h_ => h_.1))) (Kd.S_base ho1) hb); have n2_ := Aside0.mk (Kd.R_elder' (by (with_reducible repeat (first | apply Kd.R_alloc | apply Kd.R_drewN | apply Kd.R_drew)); exact (Kd.R_mono (Kd.R_far (p := ⟨gb307, 1, none⟩) (Kd.R_far (p := ⟨gb307, 0, none⟩) (Kd.R_types HO296.out BK307.out (by decide)) (fun _ hk => hk.2) (.slice Ao172 t301.length co172)) (fun _ hk => hk.2) (.slice Ao176 t304.length co176)) (fun _ h_ => h_.1))) (Kd.R_base ho0) hb); have n3_ := Aside0.mk (Kd.S_elder' (by (with_reducible repeat (first | apply Kd.S_alloc | apply Kd.S_drewN | apply Kd.S_drew)); exact (Kd.S_mono (Kd.S_far (p := ⟨gb307, 1, none⟩) (Kd.S_far (p := ⟨gb307, 0, none⟩) (Kd.S_types HO299.out BK307.out (by decide)) (fun _ hk => hk.2) (.slice Ao172 t301.length co172)) (fun _ hk => hk.2) (.slice Ao176 t304.length co176)) (fun _ h_ => h_.1))) (Kd.S_base ho1) hb); have n4_ := Aside0.mk (Kd.R_elder' (by (with_reducible repeat (first | apply Kd.R_alloc | apply Kd.R_drewN | apply Kd.R_drew)); exact (Kd.R_mono (Kd.R_far (p := ⟨gb307, 1, none⟩) (Kd.R_far (p := ⟨gb307, 0, none⟩) (Kd.R_types HO303.out BK307.out (by decide)) (fun _ hk => hk.2) (.slice Ao172 t301.length co172)) (fun _ hk => hk.2) (.slice Ao176 t304.length co176)) (fun _ h_ => h_.1))) (Kd.R_base ho0) hb); have n5_ := Aside0.mk (Kd.S_elder' (by (with_reducible repeat (first | apply Kd.S_alloc | apply Kd.S_drewN | apply Kd.S_drew)); exact (Kd.S_mono (Kd.S_far (p := ⟨gb307, 1, none⟩) (Kd.S_far (p := ⟨gb307, 0, none⟩) (Kd.S_types HO306.out BK307.out (by decide)) (fun _ hk => hk.2) (.slice Ao172 t301.length co172)) (fun _ hk => hk.2) (.slice Ao176 t304.length co176)) (fun _ h_ => h_.1))) (Kd.S_base ho1) hb); have n6_ := Aside0.mk (Kd.R_lower (Kd.R_new' (Kd.R_new' (Kd.R_new' ho0 (Kd.R_lt (by (with_reducible repeat (first | apply Kd.R_alloc | apply Kd.R_drewN | apply Kd.R_drew)); exact (Kd.R_mono (Kd.R_far (p := ⟨gb307, 1, none⟩) (Kd.R_far (p := ⟨gb307, 0, none⟩) (Kd.R_types HO290.out BK307.out (by decide)) (fun _ hk => hk.2) (.slice Ao172 t301.length co172)) (fun _ hk => hk.2) (.slice Ao176 t304.length co176)) (fun _ h_ => h_.1))))) (Kd.R_lt (by (with_reducible repeat (first | apply Kd.R_alloc | apply Kd.R_drewN | apply Kd.R_drew)); exact (Kd.R_mono (Kd.R_far (p := ⟨gb307, 1, none⟩) (Kd.R_far (p := ⟨gb307, 0, none⟩) (Kd.R_types HO296.out BK307.out (by decide)) (fun _ hk => hk.2) (.slice Ao172 t301.length co172)) (fun _ hk => hk.2) (.slice Ao176 t304.length co176)) (fun _ h_ => h_.1))))) (Kd.R_lt (by (with_reducible repeat (first | apply Kd.R_alloc | apply Kd.R_drewN | apply Kd.R_drew)); exact (Kd.R_mono (Kd.R_far (p := ⟨gb307, 1, none⟩) (Kd.R_far (p := ⟨gb307, 0, none⟩) (Kd.R_types HO303.out BK307.out (by decide)) (fun _ hk => hk.2) (.slice Ao172 t301.length co172)) (fun _ hk => hk.2) (.slice Ao176 t304.length co176)) (fun _ h_ => h_.1))))) (below_size (HBd GE284 GE285 GE307))); have n7_ := Aside0.mk (Kd.S_lower (Kd.S_new' (Kd.S_new' (Kd.S_new' ho1 (Kd.S_lt (by (with_reducible repeat (first | apply Kd.S_alloc | apply Kd.S_drewN | apply Kd.S_drew)); exact (Kd.S_mono (Kd.S_far (p := ⟨gb307, 1, none⟩) (Kd.S_far (p := ⟨gb307, 0, none⟩) (Kd.S_types HO293.out BK307.out (by decide)) (fun _ hk => hk.2) (.slice Ao172 t301.length co172)) (fun _ hk => hk.2) (.slice Ao176 t304.length co176)) (fun _ h_ => h_.1))))) (Kd.S_lt (by (with_reducible repeat (first | apply Kd.S_alloc | apply Kd.S_drewN | apply Kd.S_drew)); exact (Kd.S_mono (Kd.S_far (p := ⟨gb307, 1, none⟩) (Kd.S_far (p := ⟨gb307, 0, none⟩) (Kd.S_types HO299.out BK307.out (by decide)) (fun _ hk => hk.2) (.slice Ao172 t301.length co172)) (fun _ hk => hk.2) (.slice Ao176 t304.length co176)) (fun _ h_ => h_.1))))) (Kd.S_lt (by (with_reducible repeat (first | apply Kd.S_alloc | apply Kd.S_drewN | apply Kd.S_drew)); exact (Kd.S_mono (Kd.S_far (p := ⟨gb307, 1, none⟩) (Kd.S_far (p := ⟨gb307, 0, none⟩) (Kd.S_types HO306.out BK307.out (by decide)) (fun _ hk => hk.2) (.slice Ao172 t301.length co172)) (fun _ hk => hk.2) (.slice Ao176 t304.length co176)) (fun _ h_ => h_.1))))) (below_size (HBd GE284 GE285 GE307))); have n8_ := Aside0.mk (blk_below (g := gb284) (o := .cells #[.slice A0_0 l0_0.length c0_0, .slice A0_1 l0_1.length c0_1] 66 (0, 0)) (by (with_reducible repeat (first | refine blk_drewN ?_ _ | refine blk_drew ?_ | refine blk_alloc ?_ _)); refine blk_far ?_ NB284_307.out _; (with_reducible repeat (first | refine blk_drewN ?_ _ | refine blk_drew ?_ | refine blk_alloc ?_ _)); refine blk_far ?_ NB284_307.out _; (with_reducible repeat (first | refine blk_drewN ?_ _ | refine blk_drew ?_ | refine blk_alloc ?_ _)); exact BK284.out) hb); have n9_ := Aside0.mk (blk_below (g := gb285) (o := .cells #[.slice A1_0 l1_0.length c1_0, .slice A1_1 l1_1.length c1_1] 66 (0, 0)) (by (with_reducible repeat (first | refine blk_drewN ?_ _ | refine blk_drew ?_ | refine blk_alloc ?_ _)); refine blk_far ?_ NB285_307.out _; (with_reducible repeat (first | refine blk_drewN ?_ _ | refine blk_drew ?_ | refine blk_alloc ?_ _)); refine blk_far ?_ NB285_307.out _; (with_reducible repeat (first | refine blk_drewN ?_ _ | refine blk_drew ?_ | refine blk_alloc ?_ _)); exact BK285.out) hb); have n10_ := Aside0.mk (blk_below (g := gb307) (o := .cells #[.slice Ao172 t301.length co172, .slice Ao176 t304.length co176] 71 (0, 0)) (by (with_reducible repeat (first | refine blk_drewN ?_ _ | refine blk_drew ?_ | refine blk_alloc ?_ _)); refine blk_put (cs := #[.slice Ao172 t301.length co172, .slice none 0 0]) ?_ 1 _ rfl; (with_reducible repeat (first | refine blk_drewN ?_ _ | refine blk_drew ?_ | refine blk_alloc ?_ _)); refine blk_put (cs := #[.slice none 0 0, .slice none 0 0]) ?_ 0 _ rfl; (with_reducible repeat (first | refine blk_drewN ?_ _ | refine blk_drew ?_ | refine blk_alloc ?_ _)); exact BK307.out) hb); have n11_ := Aside0.mk (below_step (HBd GE284 GE285 GE307) hb); clear HO290; clear HO293; clear HO296; clear HO299; clear HO303; clear HO306; clear BK284; clear BK285; clear BK307; clear HB; have HO290 := n0_; have HO293 := n1_; have HO296 := n2_; have HO299 := n3_; have HO303 := n4_; have HO306 := n5_; have HO310 := n6_; have HO313 := n7_; have BK284 := n8_; have BK285 := n9_; have BK307 := n10_; have HB := n11_; clear n0_ n1_ n2_ n3_ n4_ n5_ n6_ n7_ n8_ n9_ n10_ n11_; (try clear hb); (try clear hb2); (try clear hk); (try clear hi); (try clear ho0); (try clear ho1)) | ((with_reducible refine gate_dst (N := 8) rfl ?_); refine box_event ?hg (N := 8) ?hd (cs := #[.slice none 0 0, .slice none 0 0]) (t := 71) ?hr ?_; (case hd => rfl); (case hg => rfl); (case hr => first | (go_simp; done) | (go_simp; rfl)); intro gb314 hg w179 hbox hb; have n0_ := Aside0.mk (Kd.R_below (KRz HO290) hb); have n1_ := Aside0.mk (Kd.S_below (KSz HO293) hb); have n2_ := Aside0.mk (Kd.R_below (KRz HO296) hb); have n3_ := Aside0.mk (Kd.S_below (KSz HO299) hb); have n4_ := Aside0.mk (Kd.R_below (KRz HO303) hb); have n5_ := Aside0.mk (Kd.S_below (KSz HO306) hb); have n6_ := Aside0.mk (Kd.R_below (KRz HO310) hb); have n7_ := Aside0.mk (Kd.S_below (KSz HO313) hb); have n8_ := BBz BK284 hb; have n9_ := BBz BK285 hb; have n10_ := BBz BK307 hb; have n11_ := Aside0.mk (below_step (HBd GE284 GE285 GE307) hb); have n12_ := Aside0.mk (hbox); have n13_ := BSz w hg (HBd GE284 GE285 GE307); have n14_ := BSz w hg (HBd GE284 GE285 GE307); have n15_ := BNz BK284 hg; have n16_ := BMz BK284 hg; have n17_ := BNz BK285 hg; have n18_ := BMz BK285 hg; have n19_ := BNz BK307 hg; have n20_ := BMz BK307 hg; clear HO290; clear HO293; clear HO296; clear HO299; clear HO303; clear HO306; clear HO310; clear HO313; clear BK284; clear BK285; clear BK307; clear HB; have HO290 := n0_; have HO293 := n1_; have HO296 := n2_; have HO299 := n3_; have HO303 := n4_; have HO306 := n5_; have HO310 := n6_; have HO313 := n7_; have BK284 := n8_; have BK285 := n9_; have BK307 := n10_; have HB := n11_; have BK314 := n12_; have GW314 := n13_; have GE314 := n14_; have NB284_314 := n15_; have NB314_284 := n16_; have NB285_314 := n17_; have NB314_285 := n18_; have NB307_314 := n19_; have NB314_307 := n20_; clear n0_ n1_ n2_ n3_ n4_ n5_ n6_ n7_ n8_ n9_ n10_ n11_ n12_ n13_ n14_ n15_ n16_ n17_ n18_ n19_ n20_; clear hb hbox hg; obtain ⟨Ao180, co180, eo180⟩ := Kd.R_slice HO310.out; subst eo180; have hnb181 := NB314_284.out; have hnc181 := NB284_314.out; have hnb182 := NB314_285.out; have hnc182 := NB285_314.out; have hnb183 := NB314_307.out; have hnc183 := NB307_314.out; have hcz184_0 : w179.cell? ⟨gb314, 0, none⟩ = some (.slice none 0 0) := (blk_cell BK314.out 0).trans rfl; have hcz184_1 : w179.cell? ⟨gb314, 1, none⟩ = some (.slice none 0 0) := (blk_cell BK314.out 1).trans rfl; have hfz184_0 := blk_frozen BK314.out 0; have hfz184_1 := blk_frozen BK314.out 1; obtain ⟨Ao185, co185, eo185⟩ := Kd.S_slice HO313.out; subst eo185; have hcz186_0 : w179.cell? ⟨gb307, 0, none⟩ = some (.slice Ao172 t301.length co172) := (blk_cell BK307.out 0).trans rfl; have hcz186_1 : w179.cell? ⟨gb307, 1, none⟩ = some (.slice Ao176 t304.length co176) := (blk_cell BK307.out 1).trans rfl; have hfz186_0 := blk_frozen BK307.out 0; have hfz186_1 := blk_frozen BK307.out 1) | ((with_reducible refine gate_callee (f := 63) rfl ?_); refine goesL_ (some 31) rfl rfl Tryd.func63 (by kernel_rfl) rfl #[.agg #[.slice Ao172 t301.length co172, .slice Ao176 t304.length co176], .agg #[.slice Ao180 t308.length co180, .slice Ao185 t311.length co185]] rfl MPz ?_; (with_reducible refine (impl_EntrySame.calls k _ _ t301 _ _ t304 _ _ t308 _ _ t311 t315 _ ?side1 ?side2 ?side3 ?side4 ?side5 ?side6 ?side7 ?side8 A24.out).mono ?_); (case side1 => refine (Kd.R_reads' (e := 42) (base := w.heap.size) (ok := fun k_ => (((True ∧ some k_ ≠ (.slice Ao164 t288.length co164 : Value).ownBlock) ∧ some k_ ≠ (.slice Ao166 t294.length co166 : Value).ownBlock) ∧ some k_ ≠ (.slice Ao180 t308.length co180 : Value).ownBlock)) (n := t301.length) (c := co172) ?_).2.2; exact (by (with_reducible repeat (first | apply Kd.R_alloc | apply Kd.R_drewN | apply Kd.R_drew)); exact (Kd.R_mono (Kd.R_far (p := ⟨gb314, 1, none⟩) (Kd.R_far (p := ⟨gb314, 0, none⟩) (Kd.R_types HO303.out BK314.out (by decide)) (fun _ hk => hk.2) (.slice Ao180 t308.length co180)) (fun _ hk => hk.2) (.slice Ao185 t311.length co185)) (fun _ h_ => h_.1)))); (case side2 => exact (Kd.R_reads' HO303.out).2.1); (case side3 => refine (Kd.S_reads' (e := 114) (base := w.heap.size) (ok := fun k_ => (((True ∧ some k_ ≠ (.slice Ao165 t291.length co165 : Value).ownBlock) ∧ some k_ ≠ (.slice Ao167 t297.length co167 : Value).ownBlock) ∧ some k_ ≠ (.slice Ao185 t311.length co185 : Value).ownBlock)) (n := t304.length) (c := co176) ?_).2.2; exact (by (with_reducible repeat (first | apply Kd.S_alloc | apply Kd.S_drewN | apply Kd.S_drew)); exact (Kd.S_mono (Kd.S_far (p := ⟨gb314, 1, none⟩) (Kd.S_far (p := ⟨gb314, 0, none⟩) (Kd.S_types HO306.out BK314.out (by decide)) (fun _ hk => hk.2) (.slice Ao180 t308.length co180)) (fun _ hk => hk.2) (.slice Ao185 t311.length co185)) (fun _ h_ => h_.1)))); (case side4 => exact (Kd.S_reads' HO306.out).2.1); (case side5 => refine (Kd.R_reads' (e := 42) (base := w.heap.size) (ok := fun k_ => (((True ∧ some k_ ≠ (.slice Ao164 t288.length co164 : Value).ownBlock) ∧ some k_ ≠ (.slice Ao166 t294.length co166 : Value).ownBlock) ∧ some k_ ≠ (.slice Ao172 t301.length co172 : Value).ownBlock)) (n := t308.length) (c := co180) ?_).2.2; exact (by (with_reducible repeat (first | apply Kd.R_alloc | apply Kd.R_drewN | apply Kd.R_drew)); exact (Kd.R_mono (Kd.R_far (p := ⟨gb314, 1, none⟩) (Kd.R_far (p := ⟨gb314, 0, none⟩) (Kd.R_types HO310.out BK314.out (by decide)) (fun _ hk => hk.2) (.slice Ao180 t308.length co180)) (fun _ hk => hk.2) (.slice Ao185 t311.length co185)) (fun _ h_ => h_.1)))); (case side6 => exact (Kd.R_reads' HO310.out).2.1); (case side7 => refine (Kd.S_reads' (e := 114) (base := w.heap.size) (ok := fun k_ => (((True ∧ some k_ ≠ (.slice Ao165 t291.length co165 : Value).ownBlock) ∧ some k_ ≠ (.slice Ao167 t297.length co167 : Value).ownBlock) ∧ some k_ ≠ (.slice Ao176 t304.length co176 : Value).ownBlock)) (n := t311.length) (c := co185) ?_).2.2; exact (by (with_reducible repeat (first | apply Kd.S_alloc | apply Kd.S_drewN | apply Kd.S_drew)); exact (Kd.S_mono (Kd.S_far (p := ⟨gb314, 1, none⟩) (Kd.S_far (p := ⟨gb314, 0, none⟩) (Kd.S_types HO313.out BK314.out (by decide)) (fun _ hk => hk.2) (.slice Ao180 t308.length co180)) (fun _ hk => hk.2) (.slice Ao185 t311.length co185)) (fun _ h_ => h_.1)))); (case side8 => exact (Kd.S_reads' HO313.out).2.1); rintro e w187 ⟨rfl, hb⟩; refine ⟨_, rfl, ?_⟩; have n0_ := Aside0.mk (Kd.R_below (by (with_reducible repeat (first | apply Kd.R_alloc | apply Kd.R_drewN | apply Kd.R_drew)); exact (Kd.R_mono (Kd.R_far (p := ⟨gb314, 1, none⟩) (Kd.R_far (p := ⟨gb314, 0, none⟩) (Kd.R_types HO290.out BK314.out (by decide)) (fun _ hk => hk.2) (.slice Ao180 t308.length co180)) (fun _ hk => hk.2) (.slice Ao185 t311.length co185)) (fun _ h_ => h_.1))) hb); have n1_ := Aside0.mk (Kd.S_below (by (with_reducible repeat (first | apply Kd.S_alloc | apply Kd.S_drewN | apply Kd.S_drew)); exact (Kd.S_mono (Kd.S_far (p := ⟨gb314, 1, none⟩) (Kd.S_far (p := ⟨gb314, 0, none⟩) (Kd.S_types HO293.out BK314.out (by decide)) (fun _ hk => hk.2) (.slice Ao180 t308.length co180)) (fun _ hk => hk.2) (.slice Ao185 t311.length co185)) (fun _ h_ => h_.1))) hb); have n2_ := Aside0.mk (Kd.R_below (by (with_reducible repeat (first | apply Kd.R_alloc | apply Kd.R_drewN | apply Kd.R_drew)); exact (Kd.R_mono (Kd.R_far (p := ⟨gb314, 1, none⟩) (Kd.R_far (p := ⟨gb314, 0, none⟩) (Kd.R_types HO296.out BK314.out (by decide)) (fun _ hk => hk.2) (.slice Ao180 t308.length co180)) (fun _ hk => hk.2) (.slice Ao185 t311.length co185)) (fun _ h_ => h_.1))) hb); have n3_ := Aside0.mk (Kd.S_below (by (with_reducible repeat (first | apply Kd.S_alloc | apply Kd.S_drewN | apply Kd.S_drew)); exact (Kd.S_mono (Kd.S_far (p := ⟨gb314, 1, none⟩) (Kd.S_far (p := ⟨gb314, 0, none⟩) (Kd.S_types HO299.out BK314.out (by decide)) (fun _ hk => hk.2) (.slice Ao180 t308.length co180)) (fun _ hk => hk.2) (.slice Ao185 t311.length co185)) (fun _ h_ => h_.1))) hb); have n4_ := Aside0.mk (Kd.R_below (by (with_reducible repeat (first | apply Kd.R_alloc | apply Kd.R_drewN | apply Kd.R_drew)); exact (Kd.R_mono (Kd.R_far (p := ⟨gb314, 1, none⟩) (Kd.R_far (p := ⟨gb314, 0, none⟩) (Kd.R_types HO303.out BK314.out (by decide)) (fun _ hk => hk.2) (.slice Ao180 t308.length co180)) (fun _ hk => hk.2) (.slice Ao185 t311.length co185)) (fun _ h_ => h_.1))) hb); have n5_ := Aside0.mk (Kd.S_below (by (with_reducible repeat (first | apply Kd.S_alloc | apply Kd.S_drewN | apply Kd.S_drew)); exact (Kd.S_mono (Kd.S_far (p := ⟨gb314, 1, none⟩) (Kd.S_far (p := ⟨gb314, 0, none⟩) (Kd.S_types HO306.out BK314.out (by decide)) (fun _ hk => hk.2) (.slice Ao180 t308.length co180)) (fun _ hk => hk.2) (.slice Ao185 t311.length co185)) (fun _ h_ => h_.1))) hb); have n6_ := Aside0.mk (Kd.R_below (by (with_reducible repeat (first | apply Kd.R_alloc | apply Kd.R_drewN | apply Kd.R_drew)); exact (Kd.R_mono (Kd.R_far (p := ⟨gb314, 1, none⟩) (Kd.R_far (p := ⟨gb314, 0, none⟩) (Kd.R_types HO310.out BK314.out (by decide)) (fun _ hk => hk.2) (.slice Ao180 t308.length co180)) (fun _ hk => hk.2) (.slice Ao185 t311.length co185)) (fun _ h_ => h_.1))) hb); have n7_ := Aside0.mk (Kd.S_below (by (with_reducible repeat (first | apply Kd.S_alloc | apply Kd.S_drewN | apply Kd.S_drew)); exact (Kd.S_mono (Kd.S_far (p := ⟨gb314, 1, none⟩) (Kd.S_far (p := ⟨gb314, 0, none⟩) (Kd.S_types HO313.out BK314.out (by decide)) (fun _ hk => hk.2) (.slice Ao180 t308.length co180)) (fun _ hk => hk.2) (.slice Ao185 t311.length co185)) (fun _ h_ => h_.1))) hb); have n8_ := Aside0.mk (blk_below (g := gb284) (o := .cells #[.slice A0_0 l0_0.length c0_0, .slice A0_1 l0_1.length c0_1] 66 (0, 0)) (by (with_reducible repeat (first | refine blk_drewN ?_ _ | refine blk_drew ?_ | refine blk_alloc ?_ _)); refine blk_far ?_ NB284_314.out _; (with_reducible repeat (first | refine blk_drewN ?_ _ | refine blk_drew ?_ | refine blk_alloc ?_ _)); refine blk_far ?_ NB284_314.out _; (with_reducible repeat (first | refine blk_drewN ?_ _ | refine blk_drew ?_ | refine blk_alloc ?_ _)); exact BK284.out) hb); have n9_ := Aside0.mk (blk_below (g := gb285) (o := .cells #[.slice A1_0 l1_0.length c1_0, .slice A1_1 l1_1.length c1_1] 66 (0, 0)) (by (with_reducible repeat (first | refine blk_drewN ?_ _ | refine blk_drew ?_ | refine blk_alloc ?_ _)); refine blk_far ?_ NB285_314.out _; (with_reducible repeat (first | refine blk_drewN ?_ _ | refine blk_drew ?_ | refine blk_alloc ?_ _)); refine blk_far ?_ NB285_314.out _; (with_reducible repeat (first | refine blk_drewN ?_ _ | refine blk_drew ?_ | refine blk_alloc ?_ _)); exact BK285.out) hb); have n10_ := Aside0.mk (blk_below (g := gb307) (o := .cells #[.slice Ao172 t301.length co172, .slice Ao176 t304.length co176] 71 (0, 0)) (by (with_reducible repeat (first | refine blk_drewN ?_ _ | refine blk_drew ?_ | refine blk_alloc ?_ _)); refine blk_far ?_ NB307_314.out _; (with_reducible repeat (first | refine blk_drewN ?_ _ | refine blk_drew ?_ | refine blk_alloc ?_ _)); refine blk_far ?_ NB307_314.out _; (with_reducible repeat (first | refine blk_drewN ?_ _ | refine blk_drew ?_ | refine blk_alloc ?_ _)); exact BK307.out) hb); have n11_ := Aside0.mk (blk_below (g := gb314) (o := .cells #[.slice Ao180 t308.length co180, .slice Ao185 t311.length co185] 71 (0, 0)) (by (with_reducible repeat (first | refine blk_drewN ?_ _ | refine blk_drew ?_ | refine blk_alloc ?_ _)); refine blk_put (cs := #[.slice Ao180 t308.length co180, .slice none 0 0]) ?_ 1 _ rfl; (with_reducible repeat (first | refine blk_drewN ?_ _ | refine blk_drew ?_ | refine blk_alloc ?_ _)); refine blk_put (cs := #[.slice none 0 0, .slice none 0 0]) ?_ 0 _ rfl; (with_reducible repeat (first | refine blk_drewN ?_ _ | refine blk_drew ?_ | refine blk_alloc ?_ _)); exact BK314.out) hb); have n12_ := Aside0.mk (below_step (HBe GE284 GE285 GE307 GE314) hb); clear HO290; clear HO293; clear HO296; clear HO299; clear HO303; clear HO306; clear HO310; clear HO313; clear BK284; clear BK285; clear BK307; clear BK314; clear HB; have HO290 := n0_; have HO293 := n1_; have HO296 := n2_; have HO299 := n3_; have HO303 := n4_; have HO306 := n5_; have HO310 := n6_; have HO313 := n7_; have BK284 := n8_; have BK285 := n9_; have BK307 := n10_; have BK314 := n11_; have HB := n12_; clear n0_ n1_ n2_ n3_ n4_ n5_ n6_ n7_ n8_ n9_ n10_ n11_ n12_; (try clear hb); (try clear hb2); (try clear hk); (try clear hi)))
     have n0_ := Aside0.mk (Kd.R_drew HO290.out)
     have n1_ := Aside0.mk (Kd.S_drew HO293.out)
     have n2_ := Aside0.mk (Kd.R_drew HO296.out)
     have n3_ := Aside0.mk (Kd.S_drew HO299.out)
     have n4_ := Aside0.mk (Kd.R_drew HO303.out)
     have n5_ := Aside0.mk (Kd.S_drew HO306.out)
     have n6_ := Aside0.mk (Kd.R_drew HO310.out)
     have n7_ := Aside0.mk (Kd.S_drew HO313.out)
     have n8_ := Aside0.mk (blk_drew BK284.out)
     have n9_ := Aside0.mk (blk_drew BK285.out)
     have n10_ := Aside0.mk (blk_drew BK307.out)
     have n11_ := Aside0.mk (blk_drew BK314.out)
     have n12_ := Aside0.mk (below_drew1 HB.out)
     clear HO290
     clear HO293
     clear HO296
     clear HO299
     clear HO303
     clear HO306
     clear HO310
     clear HO313
     clear BK284
     clear BK285
     clear BK307
     clear BK314
     clear HB
     have HO290 := n0_
     have HO293 := n1_
     have HO296 := n2_
     have HO299 := n3_
     have HO303 := n4_
     have HO306 := n5_
     have HO310 := n6_
     have HO313 := n7_
     have BK284 := n8_
     have BK285 := n9_
     have BK307 := n10_
     have BK314 := n11_
     have HB := n12_
     clear n0_ n1_ n2_ n3_ n4_ n5_ n6_ n7_ n8_ n9_ n10_ n11_ n12_
     refine start_ (n := 5) (S := fun w' => w'.cell? ⟨gb307, 0, none⟩ = some (.slice Ao172 t301.length co172) ∧ w'.cell? ⟨gb307, 1, none⟩ = some (.slice Ao176 t304.length co176) ∧ w'.cell? ⟨gb284, 0, none⟩ = some (.slice A0_0 l0_0.length c0_0) ∧ w'.cell? ⟨gb284, 1, none⟩ = some (.slice A0_1 l0_1.length c0_1)) (ds := []) #[false, false, false, false, false] (by kernel_rfl) rfl rfl ⟨(blk_cell BK307.out 0).trans rfl, (blk_cell BK307.out 1).trans rfl, (blk_cell BK284.out 0).trans rfl, (blk_cell BK284.out 1).trans rfl⟩ (fun hHeld => ?_)
     generalize w187.drew = w188 at HO290 HO293 HO296 HO299 HO303 HO306 HO310 HO313 BK284 BK285 BK307 BK314 HB hHeld ⊢
     refine take_ (i := 0) (N := some 35) (v := ?_) (a' := ?_) #[true, false, false, false, false] rfl rfl (by kernel_rfl) (fun _ _ _ h => h) (Or.inl ⟨by rfl, ?_⟩) hHeld ?_ ?_
     rotate_left
     ·rintro w' ⟨s0, s1, s2, s3⟩
      go_simp
      with_reducible rfl
     rotate_left
     ·simp only [PUz]
      rfl
     refine take_ (i := 1) (N := some 36) (v := ?_) (a' := ?_) #[true, true, false, false, false] rfl rfl (by kernel_rfl) (fun _ _ _ h => h) (Or.inl ⟨by rfl, ?_⟩) hHeld ?_ ?_
     rotate_left
     ·rintro w' ⟨s0, s1, s2, s3⟩
      go_simp
      with_reducible rfl
     rotate_left
     ·simp only [PUz]
      rfl
     refine one_ (i := 2) (N := some 37) #[true, true, true, false, false] rfl rfl (by kernel_rfl) (by decide) (fun K hK => ?_)
     refine goes_ Tryd.func54 (by kernel_rfl) rfl #[.agg #[.slice A0_0 l0_0.length c0_0, .slice A0_1 l0_1.length c0_1]] (by rfl) rfl rfl MPz ?_
     with_reducible refine (laws_toEntry.calls k _ _ l0_0 _ _ l0_1 t316 t319 _ ?side1 ?side2 ?side3 ?side4 A60.out).mono ?_
     (case side1 => exact KCz (Kd.C_below HR0_0.out HB.out))
     (case side2 => exact HC0_0.out)
     (case side3 => exact KCz (Kd.C_below HR0_1.out HB.out))
     (case side4 => exact HC0_1.out)
     rintro e w189 ⟨v317, v320, rfl, ho0, ho1, hb⟩
     refine ⟨_, rfl, ?_⟩
     have n0_ := Aside0.mk (Kd.R_elder' (KRz HO290) (Kd.R_base ho0) hb)
     have n1_ := Aside0.mk (Kd.S_elder' (KSz HO293) (Kd.S_base ho1) hb)
     have n2_ := Aside0.mk (Kd.R_elder' (KRz HO296) (Kd.R_base ho0) hb)
     have n3_ := Aside0.mk (Kd.S_elder' (KSz HO299) (Kd.S_base ho1) hb)
     have n4_ := Aside0.mk (Kd.R_elder' (KRz HO303) (Kd.R_base ho0) hb)
     have n5_ := Aside0.mk (Kd.S_elder' (KSz HO306) (Kd.S_base ho1) hb)
     have n6_ := Aside0.mk (Kd.R_elder' (KRz HO310) (Kd.R_base ho0) hb)
     have n7_ := Aside0.mk (Kd.S_elder' (KSz HO313) (Kd.S_base ho1) hb)
     have n8_ := Aside0.mk (Kd.R_lower (Kd.R_new' (Kd.R_new' (Kd.R_new' (Kd.R_new' ho0 (Kd.R_lt (KRz HO290))) (Kd.R_lt (KRz HO296))) (Kd.R_lt (KRz HO303))) (Kd.R_lt (KRz HO310))) (below_size (HBe GE284 GE285 GE307 GE314)))
     have n9_ := Aside0.mk (Kd.S_lower (Kd.S_new' (Kd.S_new' (Kd.S_new' (Kd.S_new' ho1 (Kd.S_lt (KSz HO293))) (Kd.S_lt (KSz HO299))) (Kd.S_lt (KSz HO306))) (Kd.S_lt (KSz HO313))) (below_size (HBe GE284 GE285 GE307 GE314)))
     have n10_ := BBz BK284 hb
     have n11_ := BBz BK285 hb
     have n12_ := BBz BK307 hb
     have n13_ := BBz BK314 hb
     have n14_ := Aside0.mk (below_step (HBe GE284 GE285 GE307 GE314) hb)
     clear HO290
     clear HO293
     clear HO296
     clear HO299
     clear HO303
     clear HO306
     clear HO310
     clear HO313
     clear BK284
     clear BK285
     clear BK307
     clear BK314
     clear HB
     have HO290 := n0_
     have HO293 := n1_
     have HO296 := n2_
     have HO299 := n3_
     have HO303 := n4_
     have HO306 := n5_
     have HO310 := n6_
     have HO313 := n7_
     have HO318 := n8_
     have HO321 := n9_
     have BK284 := n10_
     have BK285 := n11_
     have BK307 := n12_
     have BK314 := n13_
     have HB := n14_
     clear n0_ n1_ n2_ n3_ n4_ n5_ n6_ n7_ n8_ n9_ n10_ n11_ n12_ n13_ n14_
     (try clear hb)
     (try clear hb2)
     (try clear hk)
     (try clear hi)
     (try clear ho0)
     (try clear ho1)
     obtain ⟨Ao190, co190, eo190⟩ := Kd.R_slice HO318.out
     (first | subst eo190 | (injection eo190 with f1_ f2_ f3_; have f4_ := f1_.symm; have f5_ := f3_.symm; clear f1_ f2_ f3_; subst f4_; subst f5_))
     obtain ⟨Ao191, co191, eo191⟩ := Kd.S_slice HO321.out
     (first | subst eo191 | (injection eo191 with f1_ f2_ f3_; have f4_ := f1_.symm; have f5_ := f3_.symm; clear f1_ f2_ f3_; subst f4_; subst f5_))
     refine hK.out _ _ ⟨(blk_cell BK307.out 0).trans rfl, (blk_cell BK307.out 1).trans rfl, (blk_cell BK284.out 0).trans rfl, (blk_cell BK284.out 1).trans rfl⟩ (fun hHeld => ?_)
     clear hK K
     refine norm_ (a' := ?_) ?_ ?_
     rotate_left
     ·show Act.put _ (some 37) _ = _
      simp only [PUz]
      rfl
     refine one_ (i := 3) (N := some 38) #[true, true, true, true, false] rfl rfl (by kernel_rfl) (by decide) (fun K hK => ?_)
     refine goes_ Tryd.func56 (by kernel_rfl) rfl #[.agg #[.slice Ao172 t301.length co172, .slice Ao176 t304.length co176], .agg #[.slice Ao190 t316.length co190, .slice Ao191 t319.length co191]] (by rfl) rfl rfl MPz ?_
     with_reducible refine (laws_eqEntry.calls k _ _ t301 _ _ t304 _ _ t316 _ _ t319 false _ ?side1 ?side2 ?side3 ?side4 ?side5 ?side6 ?side7 ?side8 A61.out).mono ?_
     (case side1 => repeat (first | exact (Kd.R_reads' HO303.out).2.2 | (with_reducible refine Kd.C_alloc ?_ _) | (with_reducible refine Kd.C_drewN ?_ _) | (with_reducible refine Kd.C_drew ?_)))
     (case side2 => exact (Kd.R_reads' HO303.out).2.1)
     (case side3 => repeat (first | exact (Kd.S_reads' HO306.out).2.2 | (with_reducible refine Kd.C_alloc ?_ _) | (with_reducible refine Kd.C_drewN ?_ _) | (with_reducible refine Kd.C_drew ?_)))
     (case side4 => exact (Kd.S_reads' HO306.out).2.1)
     (case side5 => repeat (first | exact (Kd.R_reads' HO318.out).2.2 | (with_reducible refine Kd.C_alloc ?_ _) | (with_reducible refine Kd.C_drewN ?_ _) | (with_reducible refine Kd.C_drew ?_)))
     (case side6 => exact (Kd.R_reads' HO318.out).2.1)
     (case side7 => repeat (first | exact (Kd.S_reads' HO321.out).2.2 | (with_reducible refine Kd.C_alloc ?_ _) | (with_reducible refine Kd.C_drewN ?_ _) | (with_reducible refine Kd.C_drew ?_)))
     (case side8 => exact (Kd.S_reads' HO321.out).2.1)
     rintro e w192 ⟨rfl, hb⟩
     refine ⟨_, rfl, ?_⟩
     have n0_ := Aside0.mk (Kd.R_below (KRz HO290) hb)
     have n1_ := Aside0.mk (Kd.S_below (KSz HO293) hb)
     have n2_ := Aside0.mk (Kd.R_below (KRz HO296) hb)
     have n3_ := Aside0.mk (Kd.S_below (KSz HO299) hb)
     have n4_ := Aside0.mk (Kd.R_below (KRz HO303) hb)
     have n5_ := Aside0.mk (Kd.S_below (KSz HO306) hb)
     have n6_ := Aside0.mk (Kd.R_below (KRz HO310) hb)
     have n7_ := Aside0.mk (Kd.S_below (KSz HO313) hb)
     have n8_ := Aside0.mk (Kd.R_below (KRz HO318) hb)
     have n9_ := Aside0.mk (Kd.S_below (KSz HO321) hb)
     have n10_ := BBz BK284 hb
     have n11_ := BBz BK285 hb
     have n12_ := BBz BK307 hb
     have n13_ := BBz BK314 hb
     have n14_ := Aside0.mk (below_step (HBe GE284 GE285 GE307 GE314) hb)
     clear HO290
     clear HO293
     clear HO296
     clear HO299
     clear HO303
     clear HO306
     clear HO310
     clear HO313
     clear HO318
     clear HO321
     clear BK284
     clear BK285
     clear BK307
     clear BK314
     clear HB
     have HO290 := n0_
     have HO293 := n1_
     have HO296 := n2_
     have HO299 := n3_
     have HO303 := n4_
     have HO306 := n5_
     have HO310 := n6_
     have HO313 := n7_
     have HO318 := n8_
     have HO321 := n9_
     have BK284 := n10_
     have BK285 := n11_
     have BK307 := n12_
     have BK314 := n13_
     have HB := n14_
     clear n0_ n1_ n2_ n3_ n4_ n5_ n6_ n7_ n8_ n9_ n10_ n11_ n12_ n13_ n14_
     (try clear hb)
     (try clear hb2)
     (try clear hk)
     (try clear hi)
     refine hK.out _ _ ⟨(blk_cell BK307.out 0).trans rfl, (blk_cell BK307.out 1).trans rfl, (blk_cell BK284.out 0).trans rfl, (blk_cell BK284.out 1).trans rfl⟩ (fun hHeld => ?_)
     clear hK K
     refine norm_ (a' := ?_) ?_ ?_
     rotate_left
     ·show Act.put _ (some 38) _ = _
      simp only [PUz]
      rfl
     refine pure_ (i := 4) (N := some 39) (v := ?_) (a' := ?_) #[true, true, true, true, true] rfl rfl (by kernel_rfl) (fun _ _ _ h => h) (Or.inl ⟨by rfl, ?_⟩) ?_ ?_
     rotate_left
     ·intro w'
      go_simp
      with_reducible rfl
     rotate_left
     ·simp only [PUz]
      rfl
     refine done_ (by kernel_rfl) ?_
     try go_wp2
     go_ret
     exact ⟨EZa, HBe GE284 GE285 GE307 GE314⟩
def ok50 (x : S50) : Prop := x.f0.size ≤ 140737488351232 ∧ x.f1.size ≤ 140737488351232
def ok140 (x : S140) : Prop := x.f0.size ≤ 140737488351232 ∧ (x.f1.length * 16 ≤ 140737488351232 ∧ ∀ y_ ∈ x.f1, y_.size ≤ 140737488351232)
def ok66 (x : S66) : Prop := (x.f0.length * 32 ≤ 140737488351232 ∧ ∀ y_ ∈ x.f0, ok50 y_) ∧ (x.f1.length * 40 ≤ 140737488351232 ∧ ∀ y_ ∈ x.f1, ok140 y_)
def laws_FnExactEntrySame.Pure : Prop := ∀ (l0_0 : List (S50)) (l0_1 : List (S140)) (l1_0 : List (S50)) (l1_1 : List (S140)), (l0_0.length * 32 ≤ 140737488351232 ∧ ∀ y_ ∈ l0_0, ok50 y_) → (l0_1.length * 40 ≤ 140737488351232 ∧ ∀ y_ ∈ l0_1, ok140 y_) → (l1_0.length * 32 ≤ 140737488351232 ∧ ∀ y_ ∈ l1_0, ok50 y_) → (l1_1.length * 40 ≤ 140737488351232 ∧ ∀ y_ ∈ l1_1, ok140 y_) → ∃ k, laws_FnExactEntrySame.f k l0_0 l0_1 l1_0 l1_1 = some true
end Go.Proofs.YtdbboelacgehoaaDoor.PFnExactEntrySame
