-- Laid by this session's own program out of the translation; Lean checks it.
import Derived.Test.YtmkeigielncpjaaGreatDoorQFnFilterx0
import Derived.Test.YtmkeigielncpjaaGreatDoorQFnFilterx8
import Derived.Test.YtmkeigielncpjaaGreatDoorQFnFilterx11
import Derived.Test.YtmkeigielncpjaaGreatDoorQFnFilterx12
import Derived.Test.YtmkeigielncpjaaGreatDoorQFnFilterx13
import Derived.Test.YtmkeigielncpjaaGreatDoorQFnFilterx14
namespace Go.Proofs.YtmkeigielncpjaaGreatDoor.PFnFilter
open Go.RowKit Go.Proofs.YtmkeigielncpjaaGreatDoorW.PrintWords Go.Proofs.YtmkeigielncpjaaGreatDoorW.PrintLast Go.Proofs.YtmkeigielncpjaaGreatDoorW.PrintMore
attribute [local go_sem] max2_int min2_int max_two min_two max_three min_three max_four min_four   -- for this text's walks alone
set_option linter.unusedVariables false
set_option linter.unusedSimpArgs false
def Gp.f (a0 : ByteArray) : Option (Int × ByteArray × ByteArray × Int) := (Qt.f a0 (⟨#[61]⟩ : ByteArray)).bind fun bt212 => (if bt212.2.1.toList = ([42] : List UInt8) then ((Gs.f (⟨#[]⟩ : ByteArray)).bind fun t216 => (some (5, bt212.1, t216, 0))) else ((Qv.f bt212.1 (⟨#[62]⟩ : ByteArray)).bind fun t217 => (if t217 = true then ((Qz.f bt212.1 (⟨#[62]⟩ : ByteArray)).bind fun t218 => ((Gs.f bt212.2.1).bind fun t219 => (some (7, t218, t219, 0)))) else ((Qv.f bt212.1 (⟨#[60]⟩ : ByteArray)).bind fun t220 => (if t220 = true then ((Qz.f bt212.1 (⟨#[60]⟩ : ByteArray)).bind fun t221 => ((Gs.f bt212.2.1).bind fun t222 => (some (8, t221, t222, 0)))) else ((Qv.f bt212.2.1 (⟨#[42]⟩ : ByteArray)).bind fun t223 => (if t223 = true then ((Qz.f bt212.2.1 (⟨#[42]⟩ : ByteArray)).bind fun t224 => ((Gs.f t224).bind fun t225 => (some (6, bt212.1, t225, 0)))) else ((Gs.f bt212.2.1).bind fun t226 => (some (4, bt212.1, t226, 0))))))))))
set_option maxHeartbeats 8000000 in
set_option maxRecDepth 100000 in
theorem Gp.calls (a0 : ByteArray) (r1 : Int) (r2 : ByteArray) (r3 : ByteArray) (r4 : Int) (w : World) (h : Gp.f a0 = some (r1, r2, r3, r4)) :
  Calls Tryz.prog 83 #[.string a0] w fun e w' => e = .returned (.agg #[.int .i64 r1, .string r2, .string r3, .int .i64 r4]) ∧ Below w.heap.size w w' := by
 have hu64 := Tryz.underlying64
 have HB := Aside0.mk (Below.refl w.heap.size w)
 have H : ((Qt.f a0 (⟨#[61]⟩ : ByteArray)).bind fun bt212 => (if bt212.2.1.toList = ([42] : List UInt8) then ((Gs.f (⟨#[]⟩ : ByteArray)).bind fun t216 => (some (5, bt212.1, t216, 0))) else ((Qv.f bt212.1 (⟨#[62]⟩ : ByteArray)).bind fun t217 => (if t217 = true then ((Qz.f bt212.1 (⟨#[62]⟩ : ByteArray)).bind fun t218 => ((Gs.f bt212.2.1).bind fun t219 => (some (7, t218, t219, 0)))) else ((Qv.f bt212.1 (⟨#[60]⟩ : ByteArray)).bind fun t220 => (if t220 = true then ((Qz.f bt212.1 (⟨#[60]⟩ : ByteArray)).bind fun t221 => ((Gs.f bt212.2.1).bind fun t222 => (some (8, t221, t222, 0)))) else ((Qv.f bt212.2.1 (⟨#[42]⟩ : ByteArray)).bind fun t223 => (if t223 = true then ((Qz.f bt212.2.1 (⟨#[42]⟩ : ByteArray)).bind fun t224 => ((Gs.f t224).bind fun t225 => (some (6, bt212.1, t225, 0)))) else ((Gs.f bt212.2.1).bind fun t226 => (some (4, bt212.1, t226, 0))))))))))) = some (r1, r2, r3, r4) := h
 clear h
 replace H := Option.bind_eq_some_iff.mp H
 obtain ⟨⟨t212, t213, t214⟩, A20, H⟩ := H
 replace H : (if t213.toList = ([42] : List UInt8) then ((Gs.f (⟨#[]⟩ : ByteArray)).bind fun t216 => (some (5, t212, t216, 0))) else ((Qv.f t212 (⟨#[62]⟩ : ByteArray)).bind fun t217 => (if t217 = true then ((Qz.f t212 (⟨#[62]⟩ : ByteArray)).bind fun t218 => ((Gs.f t213).bind fun t219 => (some (7, t218, t219, 0)))) else ((Qv.f t212 (⟨#[60]⟩ : ByteArray)).bind fun t220 => (if t220 = true then ((Qz.f t212 (⟨#[60]⟩ : ByteArray)).bind fun t221 => ((Gs.f t213).bind fun t222 => (some (8, t221, t222, 0)))) else ((Qv.f t213 (⟨#[42]⟩ : ByteArray)).bind fun t223 => (if t223 = true then ((Qz.f t213 (⟨#[42]⟩ : ByteArray)).bind fun t224 => ((Gs.f t224).bind fun t225 => (some (6, t212, t225, 0)))) else ((Gs.f t213).bind fun t226 => (some (4, t212, t226, 0)))))))))) = some (r1, r2, r3, r4) := H
 have A2 := Aside0.mk A20
 clear A20
 by_cases c3 : t213.toList = ([42] : List UInt8)
 ·rw [if_pos c3] at H
  obtain ⟨c3b0, c3b1⟩ := QTz c3
  clear c3
  replace H := Option.bind_eq_some_iff.mp H
  obtain ⟨t216, A40, H⟩ := H
  replace H : (some (5, t212, t216, 0)) = some (r1, r2, r3, r4) := H
  have A4 := Aside0.mk A40
  clear A40
  obtain ⟨rfl, rfl, rfl, rfl⟩ := SQz H
  go_enter Tryz.func83, Tryz.ntmps83
  go_wp2_with (first | ((with_reducible refine gate_dst (N := 2) rfl ?_); refine box_event ?hg (N := 2) ?hd (cs := #[.int .i64 0, .string (⟨#[]⟩ : ByteArray), .string (⟨#[]⟩ : ByteArray), .int .i64 0]) (t := 64) ?hr ?_; (case hd => rfl); (case hg => rfl); (case hr => first | (go_simp; done) | (go_simp; rfl)); intro gb211 hg w5 hbox hb; have n0_ := Aside0.mk (below_step HBa hb); have n1_ := Aside0.mk (hbox); have n2_ := BSz w hg HBa; have n3_ := BSz w hg HBa; clear HB; have HB := n0_; have BK211 := n1_; have GW211 := n2_; have GE211 := n3_; clear n0_ n1_ n2_ n3_; clear hb hbox hg) | ((with_reducible refine gate_callee (f := 82) rfl ?_); refine goesL_ (some 9) rfl rfl Tryz.func82 (by kernel_rfl) rfl #[.string a0, .string (⟨#[61]⟩ : ByteArray)] rfl MPz ?_; (with_reducible refine (Qt.calls a0 (⟨#[61]⟩ : ByteArray) t212 t213 t214 _ A2.out).mono ?_); rintro e w' ⟨rfl, ⟨nd, rfl⟩⟩; refine ⟨_, rfl, ?_⟩; (try (rw [drewN_self w5]; generalize hq_ : World.drewN w5 _ = w5; have n0_ : Aside0 (w5.heap[gb211]? = some (.cells #[.int .i64 0, .string (⟨#[]⟩ : ByteArray), .string (⟨#[]⟩ : ByteArray), .int .i64 0] 64 (0, 0))) := ⟨by rw [← hq_]; exact (BKz BK211)⟩; have n1_ : Aside0 (Below w.heap.size w w5) := ⟨by rw [← hq_]; exact (HBb GE211)⟩; clear BK211 HB hq_; have BK211 := n0_; have HB := n1_; clear n0_ n1_))) | ((with_reducible refine gate_dst (N := 6) rfl ?_); refine box_event ?hg (N := 6) ?hd (cs := #[.int .i64 0, .string (⟨#[]⟩ : ByteArray), .string (⟨#[]⟩ : ByteArray), .int .i64 0]) (t := 64) ?hr ?_; (case hd => rfl); (case hg => rfl); (case hr => first | (go_simp; done) | (go_simp; rfl)); intro gb215 hg w6 hbox hb; have n0_ := BBz BK211 hb; have n1_ := Aside0.mk (below_step (HBb GE211) hb); have n2_ := Aside0.mk (hbox); have n3_ := BSz w hg (HBb GE211); have n4_ := BSz w hg (HBb GE211); have n5_ := BNz BK211 hg; have n6_ := BMz BK211 hg; clear BK211; clear HB; have BK211 := n0_; have HB := n1_; have BK215 := n2_; have GW215 := n3_; have GE215 := n4_; have NB211_215 := n5_; have NB215_211 := n6_; clear n0_ n1_ n2_ n3_ n4_ n5_ n6_; clear hb hbox hg; have hnb7 := NB215_211.out; have hnc7 := NB211_215.out; have hcz8_0 := C1z BK215; have hcz8_1 := C2z BK215; have hcz8_2 := C3z BK215; have hcz8_3 := C4z BK215; have hfz8_0 := blk_frozen BK215.out 0; have hfz8_1 := blk_frozen BK215.out 1; have hfz8_2 := blk_frozen BK215.out 2; have hfz8_3 := blk_frozen BK215.out 3) | ((with_reducible refine gate_callee (f := 120) rfl ?_); refine goesL_ (some 40) rfl rfl Tryz.func120 (by kernel_rfl) rfl #[.string (⟨#[]⟩ : ByteArray)] rfl MPz ?_; (with_reducible refine (Gs.calls (⟨#[]⟩ : ByteArray) t216 _ A4.out).mono ?_); rintro e w9 ⟨rfl, hb⟩; refine ⟨_, rfl, ?_⟩; have n0_ := Aside0.mk (blk_below (g := gb211) (o := .cells #[.int .i64 0, .string (⟨#[]⟩ : ByteArray), .string (⟨#[]⟩ : ByteArray), .int .i64 0] 64 (0, 0)) (by (with_reducible repeat first | apply blk_drewN | apply blk_drew | apply blk_alloc); refine blk_far ?_ NB211_215.out _; (with_reducible repeat first | apply blk_drewN | apply blk_drew | apply blk_alloc); refine blk_far ?_ NB211_215.out _; (with_reducible repeat first | apply blk_drewN | apply blk_drew | apply blk_alloc); refine blk_far ?_ NB211_215.out _; (with_reducible repeat first | apply blk_drewN | apply blk_drew | apply blk_alloc); refine blk_far ?_ NB211_215.out _; (with_reducible repeat first | apply blk_drewN | apply blk_drew | apply blk_alloc); refine blk_far ?_ NB211_215.out _; (with_reducible repeat first | apply blk_drewN | apply blk_drew | apply blk_alloc); exact BK211.out) hb); have n1_ := Aside0.mk (blk_below (g := gb215) (o := .cells #[.int .i64 5, .string t212, .string (⟨#[]⟩ : ByteArray), .int .i64 0] 64 (0, 0)) (by (with_reducible repeat first | apply blk_drewN | apply blk_drew | apply blk_alloc); refine blk_put (cs := #[.int .i64 4, .string t212, .string (⟨#[]⟩ : ByteArray), .int .i64 0]) ?_ 0 _ rfl; (with_reducible repeat first | apply blk_drewN | apply blk_drew | apply blk_alloc); refine blk_put (cs := #[.int .i64 4, .string t212, .string (⟨#[]⟩ : ByteArray), .int .i64 0]) ?_ 3 _ rfl; (with_reducible repeat first | apply blk_drewN | apply blk_drew | apply blk_alloc); refine blk_put (cs := #[.int .i64 4, .string t212, .string (⟨#[]⟩ : ByteArray), .int .i64 0]) ?_ 2 _ rfl; (with_reducible repeat first | apply blk_drewN | apply blk_drew | apply blk_alloc); refine blk_put (cs := #[.int .i64 4, .string (⟨#[]⟩ : ByteArray), .string (⟨#[]⟩ : ByteArray), .int .i64 0]) ?_ 1 _ rfl; (with_reducible repeat first | apply blk_drewN | apply blk_drew | apply blk_alloc); refine blk_put (cs := #[.int .i64 0, .string (⟨#[]⟩ : ByteArray), .string (⟨#[]⟩ : ByteArray), .int .i64 0]) ?_ 0 _ rfl; (with_reducible repeat first | apply blk_drewN | apply blk_drew | apply blk_alloc); exact BK215.out) hb); have n2_ := Aside0.mk (below_step (HBc GE211 GE215) hb); clear BK211; clear BK215; clear HB; have BK211 := n0_; have BK215 := n1_; have HB := n2_; clear n0_ n1_ n2_; (try clear hb); (try clear hb2); (try clear hk); (try clear hi); have hcz10_0 := C1z BK215; have hcz10_1 := C2z BK215; have hcz10_2 := C3z BK215; have hcz10_3 := C4z BK215; have hfz10_0 := blk_frozen BK215.out 0; have hfz10_1 := blk_frozen BK215.out 1; have hfz10_2 := blk_frozen BK215.out 2; have hfz10_3 := blk_frozen BK215.out 3; have hcz11_0 := C1z BK211; have hcz11_1 := C2z BK211; have hcz11_2 := C3z BK211; have hcz11_3 := C4z BK211; have hfz11_0 := blk_frozen BK211.out 0; have hfz11_1 := blk_frozen BK211.out 1; have hfz11_2 := blk_frozen BK211.out 2; have hfz11_3 := blk_frozen BK211.out 3))
  refine bodyPost_ret (results_cell_row rfl _ _ gb211 64 #[.int .i64 5, .string t212, .string t216, .int .i64 0] (0, 0) _ rfl (by (with_reducible repeat first | apply blk_drewN | apply blk_drew | apply blk_alloc); refine blk_put (cs := #[.int .i64 5, .string t212, .string t216, .int .i64 0]) ?_ 3 _ rfl; (with_reducible repeat first | apply blk_drewN | apply blk_drew | apply blk_alloc); refine blk_put (cs := #[.int .i64 5, .string t212, .string (⟨#[]⟩ : ByteArray), .int .i64 0]) ?_ 2 _ rfl; (with_reducible repeat first | apply blk_drewN | apply blk_drew | apply blk_alloc); refine blk_put (cs := #[.int .i64 5, .string (⟨#[]⟩ : ByteArray), .string (⟨#[]⟩ : ByteArray), .int .i64 0]) ?_ 1 _ rfl; (with_reducible repeat first | apply blk_drewN | apply blk_drew | apply blk_alloc); refine blk_put (cs := #[.int .i64 0, .string (⟨#[]⟩ : ByteArray), .string (⟨#[]⟩ : ByteArray), .int .i64 0]) ?_ 0 _ rfl; (with_reducible repeat first | apply blk_drewN | apply blk_drew | apply blk_alloc); refine blk_far ?_ NB211_215.out _; (with_reducible repeat first | apply blk_drewN | apply blk_drew | apply blk_alloc); exact BK211.out) Tryz.underlying64 rfl (by kernel_rfl)) rfl ?_
  exact ⟨EZa, HBc GE211 GE215⟩
 rw [if_neg c3] at H
 obtain ⟨c3b0, c3b1⟩ := QFz c3
 replace H := Option.bind_eq_some_iff.mp H
 obtain ⟨t217, A120, H⟩ := H
 replace H : (if t217 = true then ((Qz.f t212 (⟨#[62]⟩ : ByteArray)).bind fun t218 => ((Gs.f t213).bind fun t219 => (some (7, t218, t219, 0)))) else ((Qv.f t212 (⟨#[60]⟩ : ByteArray)).bind fun t220 => (if t220 = true then ((Qz.f t212 (⟨#[60]⟩ : ByteArray)).bind fun t221 => ((Gs.f t213).bind fun t222 => (some (8, t221, t222, 0)))) else ((Qv.f t213 (⟨#[42]⟩ : ByteArray)).bind fun t223 => (if t223 = true then ((Qz.f t213 (⟨#[42]⟩ : ByteArray)).bind fun t224 => ((Gs.f t224).bind fun t225 => (some (6, t212, t225, 0)))) else ((Gs.f t213).bind fun t226 => (some (4, t212, t226, 0)))))))) = some (r1, r2, r3, r4) := H
 have A12 := Aside0.mk A120
 clear A120
 by_cases c13 : t217 = true
 ·subst c13
  have H1 : ((Qz.f t212 (⟨#[62]⟩ : ByteArray)).bind fun t218 => ((Gs.f t213).bind fun t219 => (some (7, t218, t219, 0)))) = some (r1, r2, r3, r4) := by rw [if_pos rfl] at H; exact H
  clear H
  have H := H1
  clear H1
  replace H := Option.bind_eq_some_iff.mp H
  obtain ⟨t218, A140, H⟩ := H
  replace H : ((Gs.f t213).bind fun t219 => (some (7, t218, t219, 0))) = some (r1, r2, r3, r4) := H
  have A14 := Aside0.mk A140
  clear A140
  replace H := Option.bind_eq_some_iff.mp H
  obtain ⟨t219, A150, H⟩ := H
  replace H : (some (7, t218, t219, 0)) = some (r1, r2, r3, r4) := H
  have A15 := Aside0.mk A150
  clear A150
  obtain ⟨rfl, rfl, rfl, rfl⟩ := SQz H
  go_enter Tryz.func83, Tryz.ntmps83
  go_wp2_with (first | ((with_reducible refine gate_dst (N := 2) rfl ?_); refine box_event ?hg (N := 2) ?hd (cs := #[.int .i64 0, .string (⟨#[]⟩ : ByteArray), .string (⟨#[]⟩ : ByteArray), .int .i64 0]) (t := 64) ?hr ?_; (case hd => rfl); (case hg => rfl); (case hr => first | (go_simp; done) | (go_simp; rfl)); intro gb211 hg w16 hbox hb; have n0_ := Aside0.mk (below_step HBa hb); have n1_ := Aside0.mk (hbox); have n2_ := BSz w hg HBa; have n3_ := BSz w hg HBa; clear HB; have HB := n0_; have BK211 := n1_; have GW211 := n2_; have GE211 := n3_; clear n0_ n1_ n2_ n3_; clear hb hbox hg) | ((with_reducible refine gate_callee (f := 82) rfl ?_); refine goesL_ (some 9) rfl rfl Tryz.func82 (by kernel_rfl) rfl #[.string a0, .string (⟨#[61]⟩ : ByteArray)] rfl MPz ?_; (with_reducible refine (Qt.calls a0 (⟨#[61]⟩ : ByteArray) t212 t213 t214 _ A2.out).mono ?_); rintro e w' ⟨rfl, ⟨nd, rfl⟩⟩; refine ⟨_, rfl, ?_⟩; (try (rw [drewN_self w16]; generalize hq_ : World.drewN w16 _ = w16; have n0_ : Aside0 (w16.heap[gb211]? = some (.cells #[.int .i64 0, .string (⟨#[]⟩ : ByteArray), .string (⟨#[]⟩ : ByteArray), .int .i64 0] 64 (0, 0))) := ⟨by rw [← hq_]; exact (BKz BK211)⟩; have n1_ : Aside0 (Below w.heap.size w w16) := ⟨by rw [← hq_]; exact (HBb GE211)⟩; clear BK211 HB hq_; have BK211 := n0_; have HB := n1_; clear n0_ n1_))) | ((with_reducible refine gate_dst (N := 6) rfl ?_); refine box_event ?hg (N := 6) ?hd (cs := #[.int .i64 0, .string (⟨#[]⟩ : ByteArray), .string (⟨#[]⟩ : ByteArray), .int .i64 0]) (t := 64) ?hr ?_; (case hd => rfl); (case hg => rfl); (case hr => first | (go_simp; done) | (go_simp; rfl)); intro gb215 hg w17 hbox hb; have n0_ := BBz BK211 hb; have n1_ := Aside0.mk (below_step (HBb GE211) hb); have n2_ := Aside0.mk (hbox); have n3_ := BSz w hg (HBb GE211); have n4_ := BSz w hg (HBb GE211); have n5_ := BNz BK211 hg; have n6_ := BMz BK211 hg; clear BK211; clear HB; have BK211 := n0_; have HB := n1_; have BK215 := n2_; have GW215 := n3_; have GE215 := n4_; have NB211_215 := n5_; have NB215_211 := n6_; clear n0_ n1_ n2_ n3_ n4_ n5_ n6_; clear hb hbox hg; have hnb18 := NB215_211.out; have hnc18 := NB211_215.out; have hcz19_0 := C1z BK215; have hcz19_1 := C2z BK215; have hcz19_2 := C3z BK215; have hcz19_3 := C4z BK215; have hfz19_0 := blk_frozen BK215.out 0; have hfz19_1 := blk_frozen BK215.out 1; have hfz19_2 := blk_frozen BK215.out 2; have hfz19_3 := blk_frozen BK215.out 3) | ((with_reducible refine gate_callee (f := 118) rfl ?_); refine goesL_ (some 21) rfl rfl Tryz.func118 (by kernel_rfl) rfl #[.string t212, .string (⟨#[62]⟩ : ByteArray)] rfl MPz ?_; (with_reducible refine (Qv.calls t212 (⟨#[62]⟩ : ByteArray) true _ A12.out).mono ?_); rintro e w' ⟨rfl, ⟨nd, rfl⟩⟩; refine ⟨_, rfl, ?_⟩) | ((with_reducible refine gate_callee (f := 119) rfl ?_); refine goesL_ (some 23) rfl rfl Tryz.func119 (by kernel_rfl) rfl #[.string t212, .string (⟨#[62]⟩ : ByteArray)] rfl MPz ?_; (with_reducible refine (Qz.calls t212 (⟨#[62]⟩ : ByteArray) t218 _ A14.out).mono ?_); rintro e w' ⟨rfl, ⟨nd, rfl⟩⟩; refine ⟨_, rfl, ?_⟩) | ((with_reducible refine gate_callee (f := 120) rfl ?_); refine goesL_ (some 40) rfl rfl Tryz.func120 (by kernel_rfl) rfl #[.string t213] rfl MPz ?_; (with_reducible refine (Gs.calls t213 t219 _ A15.out).mono ?_); rintro e w20 ⟨rfl, hb⟩; refine ⟨_, rfl, ?_⟩; have n0_ := Aside0.mk (blk_below (g := gb211) (o := .cells #[.int .i64 0, .string (⟨#[]⟩ : ByteArray), .string (⟨#[]⟩ : ByteArray), .int .i64 0] 64 (0, 0)) (by (with_reducible repeat first | apply blk_drewN | apply blk_drew | apply blk_alloc); refine blk_far ?_ NB211_215.out _; (with_reducible repeat first | apply blk_drewN | apply blk_drew | apply blk_alloc); refine blk_far ?_ NB211_215.out _; (with_reducible repeat first | apply blk_drewN | apply blk_drew | apply blk_alloc); refine blk_far ?_ NB211_215.out _; (with_reducible repeat first | apply blk_drewN | apply blk_drew | apply blk_alloc); refine blk_far ?_ NB211_215.out _; (with_reducible repeat first | apply blk_drewN | apply blk_drew | apply blk_alloc); refine blk_far ?_ NB211_215.out _; (with_reducible repeat first | apply blk_drewN | apply blk_drew | apply blk_alloc); refine blk_far ?_ NB211_215.out _; (with_reducible repeat first | apply blk_drewN | apply blk_drew | apply blk_alloc); exact BK211.out) hb); have n1_ := Aside0.mk (blk_below (g := gb215) (o := .cells #[.int .i64 7, .string t218, .string (⟨#[]⟩ : ByteArray), .int .i64 0] 64 (0, 0)) (by (with_reducible repeat first | apply blk_drewN | apply blk_drew | apply blk_alloc); refine blk_put (cs := #[.int .i64 7, .string t212, .string (⟨#[]⟩ : ByteArray), .int .i64 0]) ?_ 1 _ rfl; (with_reducible repeat first | apply blk_drewN | apply blk_drew | apply blk_alloc); refine blk_put (cs := #[.int .i64 4, .string t212, .string (⟨#[]⟩ : ByteArray), .int .i64 0]) ?_ 0 _ rfl; (with_reducible repeat first | apply blk_drewN | apply blk_drew | apply blk_alloc); refine blk_put (cs := #[.int .i64 4, .string t212, .string (⟨#[]⟩ : ByteArray), .int .i64 0]) ?_ 3 _ rfl; (with_reducible repeat first | apply blk_drewN | apply blk_drew | apply blk_alloc); refine blk_put (cs := #[.int .i64 4, .string t212, .string (⟨#[]⟩ : ByteArray), .int .i64 0]) ?_ 2 _ rfl; (with_reducible repeat first | apply blk_drewN | apply blk_drew | apply blk_alloc); refine blk_put (cs := #[.int .i64 4, .string (⟨#[]⟩ : ByteArray), .string (⟨#[]⟩ : ByteArray), .int .i64 0]) ?_ 1 _ rfl; (with_reducible repeat first | apply blk_drewN | apply blk_drew | apply blk_alloc); refine blk_put (cs := #[.int .i64 0, .string (⟨#[]⟩ : ByteArray), .string (⟨#[]⟩ : ByteArray), .int .i64 0]) ?_ 0 _ rfl; (with_reducible repeat first | apply blk_drewN | apply blk_drew | apply blk_alloc); exact BK215.out) hb); have n2_ := Aside0.mk (below_step (HBc GE211 GE215) hb); clear BK211; clear BK215; clear HB; have BK211 := n0_; have BK215 := n1_; have HB := n2_; clear n0_ n1_ n2_; (try clear hb); (try clear hb2); (try clear hk); (try clear hi); have hcz21_0 := C1z BK215; have hcz21_1 := C2z BK215; have hcz21_2 := C3z BK215; have hcz21_3 := C4z BK215; have hfz21_0 := blk_frozen BK215.out 0; have hfz21_1 := blk_frozen BK215.out 1; have hfz21_2 := blk_frozen BK215.out 2; have hfz21_3 := blk_frozen BK215.out 3; have hcz22_0 := C1z BK211; have hcz22_1 := C2z BK211; have hcz22_2 := C3z BK211; have hcz22_3 := C4z BK211; have hfz22_0 := blk_frozen BK211.out 0; have hfz22_1 := blk_frozen BK211.out 1; have hfz22_2 := blk_frozen BK211.out 2; have hfz22_3 := blk_frozen BK211.out 3))
  refine bodyPost_ret (results_cell_row rfl _ _ gb211 64 #[.int .i64 7, .string t218, .string t219, .int .i64 0] (0, 0) _ rfl (by (with_reducible repeat first | apply blk_drewN | apply blk_drew | apply blk_alloc); refine blk_put (cs := #[.int .i64 7, .string t218, .string t219, .int .i64 0]) ?_ 3 _ rfl; (with_reducible repeat first | apply blk_drewN | apply blk_drew | apply blk_alloc); refine blk_put (cs := #[.int .i64 7, .string t218, .string (⟨#[]⟩ : ByteArray), .int .i64 0]) ?_ 2 _ rfl; (with_reducible repeat first | apply blk_drewN | apply blk_drew | apply blk_alloc); refine blk_put (cs := #[.int .i64 7, .string (⟨#[]⟩ : ByteArray), .string (⟨#[]⟩ : ByteArray), .int .i64 0]) ?_ 1 _ rfl; (with_reducible repeat first | apply blk_drewN | apply blk_drew | apply blk_alloc); refine blk_put (cs := #[.int .i64 0, .string (⟨#[]⟩ : ByteArray), .string (⟨#[]⟩ : ByteArray), .int .i64 0]) ?_ 0 _ rfl; (with_reducible repeat first | apply blk_drewN | apply blk_drew | apply blk_alloc); refine blk_far ?_ NB211_215.out _; (with_reducible repeat first | apply blk_drewN | apply blk_drew | apply blk_alloc); exact BK211.out) Tryz.underlying64 rfl (by kernel_rfl)) rfl ?_
  exact ⟨EZa, HBc GE211 GE215⟩
 replace c13 := Bool.eq_false_iff.mpr c13
 subst c13
 have H1 : ((Qv.f t212 (⟨#[60]⟩ : ByteArray)).bind fun t220 => (if t220 = true then ((Qz.f t212 (⟨#[60]⟩ : ByteArray)).bind fun t221 => ((Gs.f t213).bind fun t222 => (some (8, t221, t222, 0)))) else ((Qv.f t213 (⟨#[42]⟩ : ByteArray)).bind fun t223 => (if t223 = true then ((Qz.f t213 (⟨#[42]⟩ : ByteArray)).bind fun t224 => ((Gs.f t224).bind fun t225 => (some (6, t212, t225, 0)))) else ((Gs.f t213).bind fun t226 => (some (4, t212, t226, 0))))))) = some (r1, r2, r3, r4) := by rw [if_neg (show ¬ (false = true) by decide)] at H; exact H
 clear H
 have H := H1
 clear H1
 replace H := Option.bind_eq_some_iff.mp H
 obtain ⟨t220, A230, H⟩ := H
 replace H : (if t220 = true then ((Qz.f t212 (⟨#[60]⟩ : ByteArray)).bind fun t221 => ((Gs.f t213).bind fun t222 => (some (8, t221, t222, 0)))) else ((Qv.f t213 (⟨#[42]⟩ : ByteArray)).bind fun t223 => (if t223 = true then ((Qz.f t213 (⟨#[42]⟩ : ByteArray)).bind fun t224 => ((Gs.f t224).bind fun t225 => (some (6, t212, t225, 0)))) else ((Gs.f t213).bind fun t226 => (some (4, t212, t226, 0)))))) = some (r1, r2, r3, r4) := H
 have A23 := Aside0.mk A230
 clear A230
 by_cases c24 : t220 = true
 ·subst c24
  have H1 : ((Qz.f t212 (⟨#[60]⟩ : ByteArray)).bind fun t221 => ((Gs.f t213).bind fun t222 => (some (8, t221, t222, 0)))) = some (r1, r2, r3, r4) := by rw [if_pos rfl] at H; exact H
  clear H
  have H := H1
  clear H1
  replace H := Option.bind_eq_some_iff.mp H
  obtain ⟨t221, A250, H⟩ := H
  replace H : ((Gs.f t213).bind fun t222 => (some (8, t221, t222, 0))) = some (r1, r2, r3, r4) := H
  have A25 := Aside0.mk A250
  clear A250
  replace H := Option.bind_eq_some_iff.mp H
  obtain ⟨t222, A260, H⟩ := H
  replace H : (some (8, t221, t222, 0)) = some (r1, r2, r3, r4) := H
  have A26 := Aside0.mk A260
  clear A260
  obtain ⟨rfl, rfl, rfl, rfl⟩ := SQz H
  go_enter Tryz.func83, Tryz.ntmps83
  go_wp2_with (first | ((with_reducible refine gate_dst (N := 2) rfl ?_); refine box_event ?hg (N := 2) ?hd (cs := #[.int .i64 0, .string (⟨#[]⟩ : ByteArray), .string (⟨#[]⟩ : ByteArray), .int .i64 0]) (t := 64) ?hr ?_; (case hd => rfl); (case hg => rfl); (case hr => first | (go_simp; done) | (go_simp; rfl)); intro gb211 hg w27 hbox hb; have n0_ := Aside0.mk (below_step HBa hb); have n1_ := Aside0.mk (hbox); have n2_ := BSz w hg HBa; have n3_ := BSz w hg HBa; clear HB; have HB := n0_; have BK211 := n1_; have GW211 := n2_; have GE211 := n3_; clear n0_ n1_ n2_ n3_; clear hb hbox hg) | ((with_reducible refine gate_callee (f := 82) rfl ?_); refine goesL_ (some 9) rfl rfl Tryz.func82 (by kernel_rfl) rfl #[.string a0, .string (⟨#[61]⟩ : ByteArray)] rfl MPz ?_; (with_reducible refine (Qt.calls a0 (⟨#[61]⟩ : ByteArray) t212 t213 t214 _ A2.out).mono ?_); rintro e w' ⟨rfl, ⟨nd, rfl⟩⟩; refine ⟨_, rfl, ?_⟩; (try (rw [drewN_self w27]; generalize hq_ : World.drewN w27 _ = w27; have n0_ : Aside0 (w27.heap[gb211]? = some (.cells #[.int .i64 0, .string (⟨#[]⟩ : ByteArray), .string (⟨#[]⟩ : ByteArray), .int .i64 0] 64 (0, 0))) := ⟨by rw [← hq_]; exact (BKz BK211)⟩; have n1_ : Aside0 (Below w.heap.size w w27) := ⟨by rw [← hq_]; exact (HBb GE211)⟩; clear BK211 HB hq_; have BK211 := n0_; have HB := n1_; clear n0_ n1_))) | ((with_reducible refine gate_dst (N := 6) rfl ?_); refine box_event ?hg (N := 6) ?hd (cs := #[.int .i64 0, .string (⟨#[]⟩ : ByteArray), .string (⟨#[]⟩ : ByteArray), .int .i64 0]) (t := 64) ?hr ?_; (case hd => rfl); (case hg => rfl); (case hr => first | (go_simp; done) | (go_simp; rfl)); intro gb215 hg w28 hbox hb; have n0_ := BBz BK211 hb; have n1_ := Aside0.mk (below_step (HBb GE211) hb); have n2_ := Aside0.mk (hbox); have n3_ := BSz w hg (HBb GE211); have n4_ := BSz w hg (HBb GE211); have n5_ := BNz BK211 hg; have n6_ := BMz BK211 hg; clear BK211; clear HB; have BK211 := n0_; have HB := n1_; have BK215 := n2_; have GW215 := n3_; have GE215 := n4_; have NB211_215 := n5_; have NB215_211 := n6_; clear n0_ n1_ n2_ n3_ n4_ n5_ n6_; clear hb hbox hg; have hnb29 := NB215_211.out; have hnc29 := NB211_215.out; have hcz30_0 := C1z BK215; have hcz30_1 := C2z BK215; have hcz30_2 := C3z BK215; have hcz30_3 := C4z BK215; have hfz30_0 := blk_frozen BK215.out 0; have hfz30_1 := blk_frozen BK215.out 1; have hfz30_2 := blk_frozen BK215.out 2; have hfz30_3 := blk_frozen BK215.out 3) | ((with_reducible refine gate_callee (f := 118) rfl ?_); refine goesL_ (some 21) rfl rfl Tryz.func118 (by kernel_rfl) rfl #[.string t212, .string (⟨#[62]⟩ : ByteArray)] rfl MPz ?_; (with_reducible refine (Qv.calls t212 (⟨#[62]⟩ : ByteArray) false _ A12.out).mono ?_); rintro e w' ⟨rfl, ⟨nd, rfl⟩⟩; refine ⟨_, rfl, ?_⟩) | ((with_reducible refine gate_callee (f := 118) rfl ?_); refine goesL_ (some 28) rfl rfl Tryz.func118 (by kernel_rfl) rfl #[.string t212, .string (⟨#[60]⟩ : ByteArray)] rfl MPz ?_; (with_reducible refine (Qv.calls t212 (⟨#[60]⟩ : ByteArray) true _ A23.out).mono ?_); rintro e w' ⟨rfl, ⟨nd, rfl⟩⟩; refine ⟨_, rfl, ?_⟩) | ((with_reducible refine gate_callee (f := 119) rfl ?_); refine goesL_ (some 30) rfl rfl Tryz.func119 (by kernel_rfl) rfl #[.string t212, .string (⟨#[60]⟩ : ByteArray)] rfl MPz ?_; (with_reducible refine (Qz.calls t212 (⟨#[60]⟩ : ByteArray) t221 _ A25.out).mono ?_); rintro e w' ⟨rfl, ⟨nd, rfl⟩⟩; refine ⟨_, rfl, ?_⟩) | ((with_reducible refine gate_callee (f := 120) rfl ?_); refine goesL_ (some 40) rfl rfl Tryz.func120 (by kernel_rfl) rfl #[.string t213] rfl MPz ?_; (with_reducible refine (Gs.calls t213 t222 _ A26.out).mono ?_); rintro e w31 ⟨rfl, hb⟩; refine ⟨_, rfl, ?_⟩; have n0_ := Aside0.mk (blk_below (g := gb211) (o := .cells #[.int .i64 0, .string (⟨#[]⟩ : ByteArray), .string (⟨#[]⟩ : ByteArray), .int .i64 0] 64 (0, 0)) (by (with_reducible repeat first | apply blk_drewN | apply blk_drew | apply blk_alloc); refine blk_far ?_ NB211_215.out _; (with_reducible repeat first | apply blk_drewN | apply blk_drew | apply blk_alloc); refine blk_far ?_ NB211_215.out _; (with_reducible repeat first | apply blk_drewN | apply blk_drew | apply blk_alloc); refine blk_far ?_ NB211_215.out _; (with_reducible repeat first | apply blk_drewN | apply blk_drew | apply blk_alloc); refine blk_far ?_ NB211_215.out _; (with_reducible repeat first | apply blk_drewN | apply blk_drew | apply blk_alloc); refine blk_far ?_ NB211_215.out _; (with_reducible repeat first | apply blk_drewN | apply blk_drew | apply blk_alloc); refine blk_far ?_ NB211_215.out _; (with_reducible repeat first | apply blk_drewN | apply blk_drew | apply blk_alloc); exact BK211.out) hb); have n1_ := Aside0.mk (blk_below (g := gb215) (o := .cells #[.int .i64 8, .string t221, .string (⟨#[]⟩ : ByteArray), .int .i64 0] 64 (0, 0)) (by (with_reducible repeat first | apply blk_drewN | apply blk_drew | apply blk_alloc); refine blk_put (cs := #[.int .i64 8, .string t212, .string (⟨#[]⟩ : ByteArray), .int .i64 0]) ?_ 1 _ rfl; (with_reducible repeat first | apply blk_drewN | apply blk_drew | apply blk_alloc); refine blk_put (cs := #[.int .i64 4, .string t212, .string (⟨#[]⟩ : ByteArray), .int .i64 0]) ?_ 0 _ rfl; (with_reducible repeat first | apply blk_drewN | apply blk_drew | apply blk_alloc); refine blk_put (cs := #[.int .i64 4, .string t212, .string (⟨#[]⟩ : ByteArray), .int .i64 0]) ?_ 3 _ rfl; (with_reducible repeat first | apply blk_drewN | apply blk_drew | apply blk_alloc); refine blk_put (cs := #[.int .i64 4, .string t212, .string (⟨#[]⟩ : ByteArray), .int .i64 0]) ?_ 2 _ rfl; (with_reducible repeat first | apply blk_drewN | apply blk_drew | apply blk_alloc); refine blk_put (cs := #[.int .i64 4, .string (⟨#[]⟩ : ByteArray), .string (⟨#[]⟩ : ByteArray), .int .i64 0]) ?_ 1 _ rfl; (with_reducible repeat first | apply blk_drewN | apply blk_drew | apply blk_alloc); refine blk_put (cs := #[.int .i64 0, .string (⟨#[]⟩ : ByteArray), .string (⟨#[]⟩ : ByteArray), .int .i64 0]) ?_ 0 _ rfl; (with_reducible repeat first | apply blk_drewN | apply blk_drew | apply blk_alloc); exact BK215.out) hb); have n2_ := Aside0.mk (below_step (HBc GE211 GE215) hb); clear BK211; clear BK215; clear HB; have BK211 := n0_; have BK215 := n1_; have HB := n2_; clear n0_ n1_ n2_; (try clear hb); (try clear hb2); (try clear hk); (try clear hi); have hcz32_0 := C1z BK215; have hcz32_1 := C2z BK215; have hcz32_2 := C3z BK215; have hcz32_3 := C4z BK215; have hfz32_0 := blk_frozen BK215.out 0; have hfz32_1 := blk_frozen BK215.out 1; have hfz32_2 := blk_frozen BK215.out 2; have hfz32_3 := blk_frozen BK215.out 3; have hcz33_0 := C1z BK211; have hcz33_1 := C2z BK211; have hcz33_2 := C3z BK211; have hcz33_3 := C4z BK211; have hfz33_0 := blk_frozen BK211.out 0; have hfz33_1 := blk_frozen BK211.out 1; have hfz33_2 := blk_frozen BK211.out 2; have hfz33_3 := blk_frozen BK211.out 3))
  refine bodyPost_ret (results_cell_row rfl _ _ gb211 64 #[.int .i64 8, .string t221, .string t222, .int .i64 0] (0, 0) _ rfl (by (with_reducible repeat first | apply blk_drewN | apply blk_drew | apply blk_alloc); refine blk_put (cs := #[.int .i64 8, .string t221, .string t222, .int .i64 0]) ?_ 3 _ rfl; (with_reducible repeat first | apply blk_drewN | apply blk_drew | apply blk_alloc); refine blk_put (cs := #[.int .i64 8, .string t221, .string (⟨#[]⟩ : ByteArray), .int .i64 0]) ?_ 2 _ rfl; (with_reducible repeat first | apply blk_drewN | apply blk_drew | apply blk_alloc); refine blk_put (cs := #[.int .i64 8, .string (⟨#[]⟩ : ByteArray), .string (⟨#[]⟩ : ByteArray), .int .i64 0]) ?_ 1 _ rfl; (with_reducible repeat first | apply blk_drewN | apply blk_drew | apply blk_alloc); refine blk_put (cs := #[.int .i64 0, .string (⟨#[]⟩ : ByteArray), .string (⟨#[]⟩ : ByteArray), .int .i64 0]) ?_ 0 _ rfl; (with_reducible repeat first | apply blk_drewN | apply blk_drew | apply blk_alloc); refine blk_far ?_ NB211_215.out _; (with_reducible repeat first | apply blk_drewN | apply blk_drew | apply blk_alloc); exact BK211.out) Tryz.underlying64 rfl (by kernel_rfl)) rfl ?_
  exact ⟨EZa, HBc GE211 GE215⟩
 replace c24 := Bool.eq_false_iff.mpr c24
 subst c24
 have H1 : ((Qv.f t213 (⟨#[42]⟩ : ByteArray)).bind fun t223 => (if t223 = true then ((Qz.f t213 (⟨#[42]⟩ : ByteArray)).bind fun t224 => ((Gs.f t224).bind fun t225 => (some (6, t212, t225, 0)))) else ((Gs.f t213).bind fun t226 => (some (4, t212, t226, 0))))) = some (r1, r2, r3, r4) := by rw [if_neg (show ¬ (false = true) by decide)] at H; exact H
 clear H
 have H := H1
 clear H1
 replace H := Option.bind_eq_some_iff.mp H
 obtain ⟨t223, A340, H⟩ := H
 replace H : (if t223 = true then ((Qz.f t213 (⟨#[42]⟩ : ByteArray)).bind fun t224 => ((Gs.f t224).bind fun t225 => (some (6, t212, t225, 0)))) else ((Gs.f t213).bind fun t226 => (some (4, t212, t226, 0)))) = some (r1, r2, r3, r4) := H
 have A34 := Aside0.mk A340
 clear A340
 by_cases c35 : t223 = true
 rotate_left
 ·replace c35 := Bool.eq_false_iff.mpr c35
  subst c35
  have H1 : ((Gs.f t213).bind fun t226 => (some (4, t212, t226, 0))) = some (r1, r2, r3, r4) := by rw [if_neg (show ¬ (false = true) by decide)] at H; exact H
  clear H
  have H := H1
  clear H1
  replace H := Option.bind_eq_some_iff.mp H
  obtain ⟨t226, A450, H⟩ := H
  replace H : (some (4, t212, t226, 0)) = some (r1, r2, r3, r4) := H
  have A45 := Aside0.mk A450
  clear A450
  obtain ⟨rfl, rfl, rfl, rfl⟩ := SQz H
  go_enter Tryz.func83, Tryz.ntmps83
  go_wp2_with (first | ((with_reducible refine gate_dst (N := 2) rfl ?_); refine box_event ?hg (N := 2) ?hd (cs := #[.int .i64 0, .string (⟨#[]⟩ : ByteArray), .string (⟨#[]⟩ : ByteArray), .int .i64 0]) (t := 64) ?hr ?_; (case hd => rfl); (case hg => rfl); (case hr => first | (go_simp; done) | (go_simp; rfl)); intro gb211 hg w46 hbox hb; have n0_ := Aside0.mk (below_step HBa hb); have n1_ := Aside0.mk (hbox); have n2_ := BSz w hg HBa; have n3_ := BSz w hg HBa; clear HB; have HB := n0_; have BK211 := n1_; have GW211 := n2_; have GE211 := n3_; clear n0_ n1_ n2_ n3_; clear hb hbox hg) | ((with_reducible refine gate_callee (f := 82) rfl ?_); refine goesL_ (some 9) rfl rfl Tryz.func82 (by kernel_rfl) rfl #[.string a0, .string (⟨#[61]⟩ : ByteArray)] rfl MPz ?_; (with_reducible refine (Qt.calls a0 (⟨#[61]⟩ : ByteArray) t212 t213 t214 _ A2.out).mono ?_); rintro e w' ⟨rfl, ⟨nd, rfl⟩⟩; refine ⟨_, rfl, ?_⟩; (try (rw [drewN_self w46]; generalize hq_ : World.drewN w46 _ = w46; have n0_ : Aside0 (w46.heap[gb211]? = some (.cells #[.int .i64 0, .string (⟨#[]⟩ : ByteArray), .string (⟨#[]⟩ : ByteArray), .int .i64 0] 64 (0, 0))) := ⟨by rw [← hq_]; exact (BKz BK211)⟩; have n1_ : Aside0 (Below w.heap.size w w46) := ⟨by rw [← hq_]; exact (HBb GE211)⟩; clear BK211 HB hq_; have BK211 := n0_; have HB := n1_; clear n0_ n1_))) | ((with_reducible refine gate_dst (N := 6) rfl ?_); refine box_event ?hg (N := 6) ?hd (cs := #[.int .i64 0, .string (⟨#[]⟩ : ByteArray), .string (⟨#[]⟩ : ByteArray), .int .i64 0]) (t := 64) ?hr ?_; (case hd => rfl); (case hg => rfl); (case hr => first | (go_simp; done) | (go_simp; rfl)); intro gb215 hg w47 hbox hb; have n0_ := BBz BK211 hb; have n1_ := Aside0.mk (below_step (HBb GE211) hb); have n2_ := Aside0.mk (hbox); have n3_ := BSz w hg (HBb GE211); have n4_ := BSz w hg (HBb GE211); have n5_ := BNz BK211 hg; have n6_ := BMz BK211 hg; clear BK211; clear HB; have BK211 := n0_; have HB := n1_; have BK215 := n2_; have GW215 := n3_; have GE215 := n4_; have NB211_215 := n5_; have NB215_211 := n6_; clear n0_ n1_ n2_ n3_ n4_ n5_ n6_; clear hb hbox hg; have hnb48 := NB215_211.out; have hnc48 := NB211_215.out; have hcz49_0 := C1z BK215; have hcz49_1 := C2z BK215; have hcz49_2 := C3z BK215; have hcz49_3 := C4z BK215; have hfz49_0 := blk_frozen BK215.out 0; have hfz49_1 := blk_frozen BK215.out 1; have hfz49_2 := blk_frozen BK215.out 2; have hfz49_3 := blk_frozen BK215.out 3) | ((with_reducible refine gate_callee (f := 118) rfl ?_); refine goesL_ (some 21) rfl rfl Tryz.func118 (by kernel_rfl) rfl #[.string t212, .string (⟨#[62]⟩ : ByteArray)] rfl MPz ?_; (with_reducible refine (Qv.calls t212 (⟨#[62]⟩ : ByteArray) false _ A12.out).mono ?_); rintro e w' ⟨rfl, ⟨nd, rfl⟩⟩; refine ⟨_, rfl, ?_⟩) | ((with_reducible refine gate_callee (f := 118) rfl ?_); refine goesL_ (some 28) rfl rfl Tryz.func118 (by kernel_rfl) rfl #[.string t212, .string (⟨#[60]⟩ : ByteArray)] rfl MPz ?_; (with_reducible refine (Qv.calls t212 (⟨#[60]⟩ : ByteArray) false _ A23.out).mono ?_); rintro e w' ⟨rfl, ⟨nd, rfl⟩⟩; refine ⟨_, rfl, ?_⟩) | ((with_reducible refine gate_callee (f := 118) rfl ?_); refine goesL_ (some 35) rfl rfl Tryz.func118 (by kernel_rfl) rfl #[.string t213, .string (⟨#[42]⟩ : ByteArray)] rfl MPz ?_; (with_reducible refine (Qv.calls t213 (⟨#[42]⟩ : ByteArray) false _ A34.out).mono ?_); rintro e w' ⟨rfl, ⟨nd, rfl⟩⟩; refine ⟨_, rfl, ?_⟩) | ((with_reducible refine gate_callee (f := 120) rfl ?_); refine goesL_ (some 40) rfl rfl Tryz.func120 (by kernel_rfl) rfl #[.string t213] rfl MPz ?_; (with_reducible refine (Gs.calls t213 t226 _ A45.out).mono ?_); rintro e w50 ⟨rfl, hb⟩; refine ⟨_, rfl, ?_⟩; have n0_ := Aside0.mk (blk_below (g := gb211) (o := .cells #[.int .i64 0, .string (⟨#[]⟩ : ByteArray), .string (⟨#[]⟩ : ByteArray), .int .i64 0] 64 (0, 0)) (by (with_reducible repeat first | apply blk_drewN | apply blk_drew | apply blk_alloc); refine blk_far ?_ NB211_215.out _; (with_reducible repeat first | apply blk_drewN | apply blk_drew | apply blk_alloc); refine blk_far ?_ NB211_215.out _; (with_reducible repeat first | apply blk_drewN | apply blk_drew | apply blk_alloc); refine blk_far ?_ NB211_215.out _; (with_reducible repeat first | apply blk_drewN | apply blk_drew | apply blk_alloc); refine blk_far ?_ NB211_215.out _; (with_reducible repeat first | apply blk_drewN | apply blk_drew | apply blk_alloc); exact BK211.out) hb); have n1_ := Aside0.mk (blk_below (g := gb215) (o := .cells #[.int .i64 4, .string t212, .string (⟨#[]⟩ : ByteArray), .int .i64 0] 64 (0, 0)) (by (with_reducible repeat first | apply blk_drewN | apply blk_drew | apply blk_alloc); refine blk_put (cs := #[.int .i64 4, .string t212, .string (⟨#[]⟩ : ByteArray), .int .i64 0]) ?_ 3 _ rfl; (with_reducible repeat first | apply blk_drewN | apply blk_drew | apply blk_alloc); refine blk_put (cs := #[.int .i64 4, .string t212, .string (⟨#[]⟩ : ByteArray), .int .i64 0]) ?_ 2 _ rfl; (with_reducible repeat first | apply blk_drewN | apply blk_drew | apply blk_alloc); refine blk_put (cs := #[.int .i64 4, .string (⟨#[]⟩ : ByteArray), .string (⟨#[]⟩ : ByteArray), .int .i64 0]) ?_ 1 _ rfl; (with_reducible repeat first | apply blk_drewN | apply blk_drew | apply blk_alloc); refine blk_put (cs := #[.int .i64 0, .string (⟨#[]⟩ : ByteArray), .string (⟨#[]⟩ : ByteArray), .int .i64 0]) ?_ 0 _ rfl; (with_reducible repeat first | apply blk_drewN | apply blk_drew | apply blk_alloc); exact BK215.out) hb); have n2_ := Aside0.mk (below_step (HBc GE211 GE215) hb); clear BK211; clear BK215; clear HB; have BK211 := n0_; have BK215 := n1_; have HB := n2_; clear n0_ n1_ n2_; (try clear hb); (try clear hb2); (try clear hk); (try clear hi); have hcz51_0 := C1z BK215; have hcz51_1 := C2z BK215; have hcz51_2 := C3z BK215; have hcz51_3 := C4z BK215; have hfz51_0 := blk_frozen BK215.out 0; have hfz51_1 := blk_frozen BK215.out 1; have hfz51_2 := blk_frozen BK215.out 2; have hfz51_3 := blk_frozen BK215.out 3; have hcz52_0 := C1z BK211; have hcz52_1 := C2z BK211; have hcz52_2 := C3z BK211; have hcz52_3 := C4z BK211; have hfz52_0 := blk_frozen BK211.out 0; have hfz52_1 := blk_frozen BK211.out 1; have hfz52_2 := blk_frozen BK211.out 2; have hfz52_3 := blk_frozen BK211.out 3))
  refine bodyPost_ret (results_cell_row rfl _ _ gb211 64 #[.int .i64 4, .string t212, .string t226, .int .i64 0] (0, 0) _ rfl (by (with_reducible repeat first | apply blk_drewN | apply blk_drew | apply blk_alloc); refine blk_put (cs := #[.int .i64 4, .string t212, .string t226, .int .i64 0]) ?_ 3 _ rfl; (with_reducible repeat first | apply blk_drewN | apply blk_drew | apply blk_alloc); refine blk_put (cs := #[.int .i64 4, .string t212, .string (⟨#[]⟩ : ByteArray), .int .i64 0]) ?_ 2 _ rfl; (with_reducible repeat first | apply blk_drewN | apply blk_drew | apply blk_alloc); refine blk_put (cs := #[.int .i64 4, .string (⟨#[]⟩ : ByteArray), .string (⟨#[]⟩ : ByteArray), .int .i64 0]) ?_ 1 _ rfl; (with_reducible repeat first | apply blk_drewN | apply blk_drew | apply blk_alloc); refine blk_put (cs := #[.int .i64 0, .string (⟨#[]⟩ : ByteArray), .string (⟨#[]⟩ : ByteArray), .int .i64 0]) ?_ 0 _ rfl; (with_reducible repeat first | apply blk_drewN | apply blk_drew | apply blk_alloc); refine blk_far ?_ NB211_215.out _; (with_reducible repeat first | apply blk_drewN | apply blk_drew | apply blk_alloc); exact BK211.out) Tryz.underlying64 rfl (by kernel_rfl)) rfl ?_
  exact ⟨EZa, HBc GE211 GE215⟩
 subst c35
 have H1 : ((Qz.f t213 (⟨#[42]⟩ : ByteArray)).bind fun t224 => ((Gs.f t224).bind fun t225 => (some (6, t212, t225, 0)))) = some (r1, r2, r3, r4) := by rw [if_pos rfl] at H; exact H
 clear H
 have H := H1
 clear H1
 replace H := Option.bind_eq_some_iff.mp H
 obtain ⟨t224, A360, H⟩ := H
 replace H : ((Gs.f t224).bind fun t225 => (some (6, t212, t225, 0))) = some (r1, r2, r3, r4) := H
 have A36 := Aside0.mk A360
 clear A360
 replace H := Option.bind_eq_some_iff.mp H
 obtain ⟨t225, A370, H⟩ := H
 replace H : (some (6, t212, t225, 0)) = some (r1, r2, r3, r4) := H
 have A37 := Aside0.mk A370
 clear A370
 obtain ⟨rfl, rfl, rfl, rfl⟩ := SQz H
 go_enter Tryz.func83, Tryz.ntmps83
 go_wp2_with (first | ((with_reducible refine gate_dst (N := 2) rfl ?_); refine box_event ?hg (N := 2) ?hd (cs := #[.int .i64 0, .string (⟨#[]⟩ : ByteArray), .string (⟨#[]⟩ : ByteArray), .int .i64 0]) (t := 64) ?hr ?_; (case hd => rfl); (case hg => rfl); (case hr => first | (go_simp; done) | (go_simp; rfl)); intro gb211 hg w38 hbox hb; have n0_ := Aside0.mk (below_step HBa hb); have n1_ := Aside0.mk (hbox); have n2_ := BSz w hg HBa; have n3_ := BSz w hg HBa; clear HB; have HB := n0_; have BK211 := n1_; have GW211 := n2_; have GE211 := n3_; clear n0_ n1_ n2_ n3_; clear hb hbox hg) | ((with_reducible refine gate_callee (f := 82) rfl ?_); refine goesL_ (some 9) rfl rfl Tryz.func82 (by kernel_rfl) rfl #[.string a0, .string (⟨#[61]⟩ : ByteArray)] rfl MPz ?_; (with_reducible refine (Qt.calls a0 (⟨#[61]⟩ : ByteArray) t212 t213 t214 _ A2.out).mono ?_); rintro e w' ⟨rfl, ⟨nd, rfl⟩⟩; refine ⟨_, rfl, ?_⟩; (try (rw [drewN_self w38]; generalize hq_ : World.drewN w38 _ = w38; have n0_ : Aside0 (w38.heap[gb211]? = some (.cells #[.int .i64 0, .string (⟨#[]⟩ : ByteArray), .string (⟨#[]⟩ : ByteArray), .int .i64 0] 64 (0, 0))) := ⟨by rw [← hq_]; exact (BKz BK211)⟩; have n1_ : Aside0 (Below w.heap.size w w38) := ⟨by rw [← hq_]; exact (HBb GE211)⟩; clear BK211 HB hq_; have BK211 := n0_; have HB := n1_; clear n0_ n1_))) | ((with_reducible refine gate_dst (N := 6) rfl ?_); refine box_event ?hg (N := 6) ?hd (cs := #[.int .i64 0, .string (⟨#[]⟩ : ByteArray), .string (⟨#[]⟩ : ByteArray), .int .i64 0]) (t := 64) ?hr ?_; (case hd => rfl); (case hg => rfl); (case hr => first | (go_simp; done) | (go_simp; rfl)); intro gb215 hg w39 hbox hb; have n0_ := BBz BK211 hb; have n1_ := Aside0.mk (below_step (HBb GE211) hb); have n2_ := Aside0.mk (hbox); have n3_ := BSz w hg (HBb GE211); have n4_ := BSz w hg (HBb GE211); have n5_ := BNz BK211 hg; have n6_ := BMz BK211 hg; clear BK211; clear HB; have BK211 := n0_; have HB := n1_; have BK215 := n2_; have GW215 := n3_; have GE215 := n4_; have NB211_215 := n5_; have NB215_211 := n6_; clear n0_ n1_ n2_ n3_ n4_ n5_ n6_; clear hb hbox hg; have hnb40 := NB215_211.out; have hnc40 := NB211_215.out; have hcz41_0 := C1z BK215; have hcz41_1 := C2z BK215; have hcz41_2 := C3z BK215; have hcz41_3 := C4z BK215; have hfz41_0 := blk_frozen BK215.out 0; have hfz41_1 := blk_frozen BK215.out 1; have hfz41_2 := blk_frozen BK215.out 2; have hfz41_3 := blk_frozen BK215.out 3) | ((with_reducible refine gate_callee (f := 118) rfl ?_); refine goesL_ (some 21) rfl rfl Tryz.func118 (by kernel_rfl) rfl #[.string t212, .string (⟨#[62]⟩ : ByteArray)] rfl MPz ?_; (with_reducible refine (Qv.calls t212 (⟨#[62]⟩ : ByteArray) false _ A12.out).mono ?_); rintro e w' ⟨rfl, ⟨nd, rfl⟩⟩; refine ⟨_, rfl, ?_⟩) | ((with_reducible refine gate_callee (f := 118) rfl ?_); refine goesL_ (some 28) rfl rfl Tryz.func118 (by kernel_rfl) rfl #[.string t212, .string (⟨#[60]⟩ : ByteArray)] rfl MPz ?_; (with_reducible refine (Qv.calls t212 (⟨#[60]⟩ : ByteArray) false _ A23.out).mono ?_); rintro e w' ⟨rfl, ⟨nd, rfl⟩⟩; refine ⟨_, rfl, ?_⟩) | ((with_reducible refine gate_callee (f := 118) rfl ?_); refine goesL_ (some 35) rfl rfl Tryz.func118 (by kernel_rfl) rfl #[.string t213, .string (⟨#[42]⟩ : ByteArray)] rfl MPz ?_; (with_reducible refine (Qv.calls t213 (⟨#[42]⟩ : ByteArray) true _ A34.out).mono ?_); rintro e w' ⟨rfl, ⟨nd, rfl⟩⟩; refine ⟨_, rfl, ?_⟩) | ((with_reducible refine gate_callee (f := 119) rfl ?_); refine goesL_ (some 37) rfl rfl Tryz.func119 (by kernel_rfl) rfl #[.string t213, .string (⟨#[42]⟩ : ByteArray)] rfl MPz ?_; (with_reducible refine (Qz.calls t213 (⟨#[42]⟩ : ByteArray) t224 _ A36.out).mono ?_); rintro e w' ⟨rfl, ⟨nd, rfl⟩⟩; refine ⟨_, rfl, ?_⟩) | ((with_reducible refine gate_callee (f := 120) rfl ?_); refine goesL_ (some 40) rfl rfl Tryz.func120 (by kernel_rfl) rfl #[.string t224] rfl MPz ?_; (with_reducible refine (Gs.calls t224 t225 _ A37.out).mono ?_); rintro e w42 ⟨rfl, hb⟩; refine ⟨_, rfl, ?_⟩; have n0_ := Aside0.mk (blk_below (g := gb211) (o := .cells #[.int .i64 0, .string (⟨#[]⟩ : ByteArray), .string (⟨#[]⟩ : ByteArray), .int .i64 0] 64 (0, 0)) (by (with_reducible repeat first | apply blk_drewN | apply blk_drew | apply blk_alloc); refine blk_far ?_ NB211_215.out _; (with_reducible repeat first | apply blk_drewN | apply blk_drew | apply blk_alloc); refine blk_far ?_ NB211_215.out _; (with_reducible repeat first | apply blk_drewN | apply blk_drew | apply blk_alloc); refine blk_far ?_ NB211_215.out _; (with_reducible repeat first | apply blk_drewN | apply blk_drew | apply blk_alloc); refine blk_far ?_ NB211_215.out _; (with_reducible repeat first | apply blk_drewN | apply blk_drew | apply blk_alloc); refine blk_far ?_ NB211_215.out _; (with_reducible repeat first | apply blk_drewN | apply blk_drew | apply blk_alloc); exact BK211.out) hb); have n1_ := Aside0.mk (blk_below (g := gb215) (o := .cells #[.int .i64 6, .string t212, .string (⟨#[]⟩ : ByteArray), .int .i64 0] 64 (0, 0)) (by (with_reducible repeat first | apply blk_drewN | apply blk_drew | apply blk_alloc); refine blk_put (cs := #[.int .i64 4, .string t212, .string (⟨#[]⟩ : ByteArray), .int .i64 0]) ?_ 0 _ rfl; (with_reducible repeat first | apply blk_drewN | apply blk_drew | apply blk_alloc); refine blk_put (cs := #[.int .i64 4, .string t212, .string (⟨#[]⟩ : ByteArray), .int .i64 0]) ?_ 3 _ rfl; (with_reducible repeat first | apply blk_drewN | apply blk_drew | apply blk_alloc); refine blk_put (cs := #[.int .i64 4, .string t212, .string (⟨#[]⟩ : ByteArray), .int .i64 0]) ?_ 2 _ rfl; (with_reducible repeat first | apply blk_drewN | apply blk_drew | apply blk_alloc); refine blk_put (cs := #[.int .i64 4, .string (⟨#[]⟩ : ByteArray), .string (⟨#[]⟩ : ByteArray), .int .i64 0]) ?_ 1 _ rfl; (with_reducible repeat first | apply blk_drewN | apply blk_drew | apply blk_alloc); refine blk_put (cs := #[.int .i64 0, .string (⟨#[]⟩ : ByteArray), .string (⟨#[]⟩ : ByteArray), .int .i64 0]) ?_ 0 _ rfl; (with_reducible repeat first | apply blk_drewN | apply blk_drew | apply blk_alloc); exact BK215.out) hb); have n2_ := Aside0.mk (below_step (HBc GE211 GE215) hb); clear BK211; clear BK215; clear HB; have BK211 := n0_; have BK215 := n1_; have HB := n2_; clear n0_ n1_ n2_; (try clear hb); (try clear hb2); (try clear hk); (try clear hi); have hcz43_0 := C1z BK215; have hcz43_1 := C2z BK215; have hcz43_2 := C3z BK215; have hcz43_3 := C4z BK215; have hfz43_0 := blk_frozen BK215.out 0; have hfz43_1 := blk_frozen BK215.out 1; have hfz43_2 := blk_frozen BK215.out 2; have hfz43_3 := blk_frozen BK215.out 3; have hcz44_0 := C1z BK211; have hcz44_1 := C2z BK211; have hcz44_2 := C3z BK211; have hcz44_3 := C4z BK211; have hfz44_0 := blk_frozen BK211.out 0; have hfz44_1 := blk_frozen BK211.out 1; have hfz44_2 := blk_frozen BK211.out 2; have hfz44_3 := blk_frozen BK211.out 3))
 refine bodyPost_ret (results_cell_row rfl _ _ gb211 64 #[.int .i64 6, .string t212, .string t225, .int .i64 0] (0, 0) _ rfl (by (with_reducible repeat first | apply blk_drewN | apply blk_drew | apply blk_alloc); refine blk_put (cs := #[.int .i64 6, .string t212, .string t225, .int .i64 0]) ?_ 3 _ rfl; (with_reducible repeat first | apply blk_drewN | apply blk_drew | apply blk_alloc); refine blk_put (cs := #[.int .i64 6, .string t212, .string (⟨#[]⟩ : ByteArray), .int .i64 0]) ?_ 2 _ rfl; (with_reducible repeat first | apply blk_drewN | apply blk_drew | apply blk_alloc); refine blk_put (cs := #[.int .i64 6, .string (⟨#[]⟩ : ByteArray), .string (⟨#[]⟩ : ByteArray), .int .i64 0]) ?_ 1 _ rfl; (with_reducible repeat first | apply blk_drewN | apply blk_drew | apply blk_alloc); refine blk_put (cs := #[.int .i64 0, .string (⟨#[]⟩ : ByteArray), .string (⟨#[]⟩ : ByteArray), .int .i64 0]) ?_ 0 _ rfl; (with_reducible repeat first | apply blk_drewN | apply blk_drew | apply blk_alloc); refine blk_far ?_ NB211_215.out _; (with_reducible repeat first | apply blk_drewN | apply blk_drew | apply blk_alloc); exact BK211.out) Tryz.underlying64 rfl (by kernel_rfl)) rfl ?_
 exact ⟨EZa, HBc GE211 GE215⟩
def Vc.f (a0 : ByteArray) (a1 : ByteArray) : Option (ByteArray) := (Va.f a0 a1).bind fun t227 => (if t227 = true then (if 0 ≤ (a1.size : Int) then (if (a1.size : Int) ≤ (a0.size : Int) then (some (a0.extract ((a1.size : Int) : Int).toNat a0.size)) else (none)) else (none)) else (some a0))
set_option maxHeartbeats 8000000 in
set_option maxRecDepth 100000 in
theorem Vc.calls (a0 : ByteArray) (a1 : ByteArray) (r : ByteArray) (w : World) (h : Vc.f a0 a1 = some r) :
  Calls Tryz.prog 121 #[.string a0, .string a1] w fun e w' => e = .returned (.string r) ∧ Drawn0 w w' := by
 have H : ((Va.f a0 a1).bind fun t227 => (if t227 = true then (if 0 ≤ (a1.size : Int) then (if (a1.size : Int) ≤ (a0.size : Int) then (some (a0.extract ((a1.size : Int) : Int).toNat a0.size)) else (none)) else (none)) else (some a0))) = some r := h
 clear h
 replace H := Option.bind_eq_some_iff.mp H
 obtain ⟨t227, A30, H⟩ := H
 replace H : (if t227 = true then (if 0 ≤ (a1.size : Int) then (if (a1.size : Int) ≤ (a0.size : Int) then (some (a0.extract ((a1.size : Int) : Int).toNat a0.size)) else (none)) else (none)) else (some a0)) = some r := H
 have A3 := Aside0.mk A30
 clear A30
 by_cases c4 : t227 = true
 rotate_left
 ·replace c4 := Bool.eq_false_iff.mpr c4
  subst c4
  have H1 : (some a0) = some r := by rw [if_neg (show ¬ (false = true) by decide)] at H; exact H
  clear H
  have H := H1
  clear H1
  obtain rfl := Option.some.inj H
  clear H
  go_enter Tryz.func121, Tryz.ntmps121
  go_wp2_with (first | ((with_reducible refine gate_callee (f := 115) rfl ?_); refine goesL_ (some 7) rfl rfl Tryz.func115 (by kernel_rfl) rfl #[.string a0, .string a1] rfl MPz ?_; (with_reducible refine (Va.calls a0 a1 false _ A3.out).mono ?_); rintro e w' ⟨rfl, ⟨nd, rfl⟩⟩; refine ⟨_, rfl, ?_⟩))
  go_ret
  exact ⟨EZb, DRz⟩
 subst c4
 have H1 : (if 0 ≤ (a1.size : Int) then (if (a1.size : Int) ≤ (a0.size : Int) then (some (a0.extract ((a1.size : Int) : Int).toNat a0.size)) else (none)) else (none)) = some r := by rw [if_pos rfl] at H; exact H
 clear H
 have H := H1
 clear H1
 by_cases c5 : 0 ≤ (a1.size : Int)
 rotate_left
 ·rw [if_neg c5] at H
  exact absurd H (by simp)
 rw [if_pos c5] at H
 have c5b0 := eq_true c5
 have c5b1 := decide_eq_true c5
 clear c5
 by_cases c6 : (a1.size : Int) ≤ (a0.size : Int)
 ·rw [if_pos c6] at H
  have c6b0 := eq_true c6
  have c6b1 := decide_eq_true c6
  clear c6
  obtain rfl := Option.some.inj H
  clear H
  go_enter Tryz.func121, Tryz.ntmps121
  go_wp2_with (first | ((with_reducible refine gate_callee (f := 115) rfl ?_); refine goesL_ (some 7) rfl rfl Tryz.func115 (by kernel_rfl) rfl #[.string a0, .string a1] rfl MPz ?_; (with_reducible refine (Va.calls a0 a1 true _ A3.out).mono ?_); rintro e w' ⟨rfl, ⟨nd, rfl⟩⟩; refine ⟨_, rfl, ?_⟩))
  go_ret
  exact ⟨EZb, DRz⟩
 rw [if_neg c6] at H
 exact absurd H (by simp)
def Qy.f (a0 : ByteArray) (a1 : ByteArray) : Option (ByteArray) := (Vc.f a0 a1).bind fun t228 => (some t228)
set_option maxHeartbeats 8000000 in
set_option maxRecDepth 100000 in
theorem Qy.calls (a0 : ByteArray) (a1 : ByteArray) (r : ByteArray) (w : World) (h : Qy.f a0 a1 = some r) :
  Calls Tryz.prog 84 #[.string a0, .string a1] w fun e w' => e = .returned (.string r) ∧ Drawn0 w w' := by
 have H : ((Vc.f a0 a1).bind fun t228 => (some t228)) = some r := h
 clear h
 replace H := Option.bind_eq_some_iff.mp H
 obtain ⟨t228, A30, H⟩ := H
 replace H : (some t228) = some r := H
 have A3 := Aside0.mk A30
 clear A30
 obtain rfl := Option.some.inj H
 clear H
 go_enter Tryz.func84, Tryz.ntmps84
 go_wp2_with (first | ((with_reducible refine gate_callee (f := 121) rfl ?_); refine goesL_ (some 7) rfl rfl Tryz.func121 (by kernel_rfl) rfl #[.string a0, .string a1] rfl MPz ?_; (with_reducible refine (Vc.calls a0 a1 t228 _ A3.out).mono ?_); rintro e w' ⟨rfl, ⟨nd, rfl⟩⟩; refine ⟨_, rfl, ?_⟩))
 go_ret
 exact ⟨EZb, DRz⟩
mutual
def Gn.j0 : Nat → ByteArray → Int → Bool → Option ((List (S64)) × ByteArray)
 | 0, _, _, _ => none
 | k + 1, x0, x1, x25 => if x25 = true then (some (([] : List (S64)), x0)) else (if 1 < (x0.size : Int) then ((Qw.f (⟨#[38, 124, 33]⟩ : ByteArray) (bt x0 1)).bind fun t230 => (if (wrap64 (t230 + 1)) = 0 then (if 1 ≤ (x0.size : Int) then ((Qt.f (x0.extract 1 x0.size) (⟨#[41]⟩ : ByteArray)).bind fun bt231 => ((Gp.f bt231.1).bind fun bt234 => (some ((([(⟨bt234.1, bt234.2.1, bt234.2.2.1, bt234.2.2.2⟩ : S64)] : List (S64))), bt231.2.1)))) else (none)) else (if 2 ≤ (x0.size : Int) then (Gn.l0 k x0 x1 (([(⟨wrap64 (t230 + 1), (⟨#[]⟩ : ByteArray), (⟨#[]⟩ : ByteArray), 0⟩ : S64)] : List (S64))) (x0.extract 2 x0.size)) else (none)))) else (none))
def Gn.l0 : Nat → ByteArray → Int → List (S64) → ByteArray → Option ((List (S64)) × ByteArray)
 | 0, _, _, _, _ => none
 | k + 1, x0, x1, x10, x11 => (Qu.f x11 (⟨#[40]⟩ : ByteArray)).bind fun t244 => (if t244 = true then (Gn.j2 k x0 x1 x10 x11 (decide ((x10.length : Int) ≤ 20))) else (Gn.j2 k x0 x1 x10 x11 false))
def Gn.j2 : Nat → ByteArray → Int → List (S64) → ByteArray → Bool → Option ((List (S64)) × ByteArray)
 | 0, _, _, _, _, _ => none
 | k + 1, x0, x1, x10, x11, x55 => if x55 = true then ((Gn.f k x11 (wrap64 (x1 + 1))).bind fun bt245 => (if (bt245.1.length : Int) = 0 then (some (([] : List (S64)), x0)) else (if x10.length + bt245.1.length < 2932031007402 then ((some (x10 ++ bt245.1 : List (S64))).bind fun y249 => (if 0 < (y249.length : Int) then (Gn.l0 k x0 x1 (y249.set (0 : Int).toNat (⟨(rd_T64 y249 0).f0, (rd_T64 y249 0).f1, (rd_T64 y249 0).f2, wrap64 (((rd_T64 y249 0).f3) + 1)⟩ : S64)) bt245.2) else (none))) else (none)))) else ((Qy.f x11 (⟨#[41]⟩ : ByteArray)).bind fun t254 => (some (x10, t254)))
def Gn.f : Nat → ByteArray → Int → Option ((List (S64)) × ByteArray)
 | 0, _, _ => none
 | k + 1, a0, a1 => if a1 > 5 then (Gn.j0 k a0 a1 true) else ((Qu.f a0 (⟨#[40]⟩ : ByteArray)).bind fun t229 => (if t229 = true then (Gn.j0 k a0 a1 (decide ((a0.size : Int) < 2))) else (Gn.j0 k a0 a1 true)))
end
theorem Gn.mono_l : ∀ k, (∀ y0 y1, LeO (Gn.f k y0 y1) (Gn.f (k + 1) y0 y1)) ∧ (∀ y0 y1 y2, LeO (Gn.j0 k y0 y1 y2) (Gn.j0 (k + 1) y0 y1 y2)) ∧ (∀ y0 y1 y2 y3, LeO (Gn.l0 k y0 y1 y2 y3) (Gn.l0 (k + 1) y0 y1 y2 y3)) ∧ (∀ y0 y1 y2 y3 y4, LeO (Gn.j2 k y0 y1 y2 y3 y4) (Gn.j2 (k + 1) y0 y1 y2 y3 y4))
 | 0 => ⟨fun _ _ r h => by simp [Gn.f] at h, fun _ _ _ r h => by simp [Gn.j0] at h, fun _ _ _ _ r h => by simp [Gn.l0] at h, fun _ _ _ _ _ r h => by simp [Gn.j2] at h⟩
 | k + 1 => by
  obtain ⟨ih0, ih1, ih2, ih3⟩ := Gn.mono_l k
  refine ⟨?_, ?_, ?_, ?_⟩
  ·intro y0 y1
   unfold Gn.f
   with_reducible repeat' first | exact ih0 _ _ | exact ih1 _ _ _ | exact ih2 _ _ _ _ | exact ih3 _ _ _ _ _ | exact LeO.refl _ | exact LeO.none _ | refine LeO.ite ?_ ?_ | refine LeO.bind ?_ (fun _ => ?_)
  ·intro y0 y1 y2
   unfold Gn.j0
   with_reducible repeat' first | exact ih0 _ _ | exact ih1 _ _ _ | exact ih2 _ _ _ _ | exact ih3 _ _ _ _ _ | exact LeO.refl _ | exact LeO.none _ | refine LeO.ite ?_ ?_ | refine LeO.bind ?_ (fun _ => ?_)
  ·intro y0 y1 y2 y3
   unfold Gn.l0
   with_reducible repeat' first | exact ih0 _ _ | exact ih1 _ _ _ | exact ih2 _ _ _ _ | exact ih3 _ _ _ _ _ | exact LeO.refl _ | exact LeO.none _ | refine LeO.ite ?_ ?_ | refine LeO.bind ?_ (fun _ => ?_)
  ·intro y0 y1 y2 y3 y4
   unfold Gn.j2
   with_reducible repeat' first | exact ih0 _ _ | exact ih1 _ _ _ | exact ih2 _ _ _ _ | exact ih3 _ _ _ _ _ | exact LeO.refl _ | exact LeO.none _ | refine LeO.ite ?_ ?_ | refine LeO.bind ?_ (fun _ => ?_)
theorem Gn.mono : ∀ a0 a1 k, LeO (Gn.f k a0 a1) (Gn.f (k + 1) a0 a1) := by
 intro a0 a1 k
 obtain ⟨ih0, ih1, ih2, ih3⟩ := Gn.mono_l k
 exact ih0 a0 a1
set_option maxHeartbeats 8000000 in
set_option maxRecDepth 100000 in
theorem Gn.calls (k : Nat) : ∀ (a0 : ByteArray) (a1 : Int) (r1 : List (S64)) (r2 : ByteArray) (w : World) (h : Gn.f k a0 a1 = some (r1, r2)),
  Calls Tryz.prog 44 #[.string a0, .int .i64 a1] w fun e w' => ∃ v0_ : Value, e = .returned (.tuple #[v0_, .string r2]) ∧ Kd.R k64 64 w' w.heap.size (fun _ => True) v0_ r1 ∧ Below w.heap.size w w' := by
 induction k using Nat.strongRecOn with
 | _ k ih =>
 intro a0 a1 r1 r2 w h
 cases k with
 | zero => exact absurd h (by simp [Gn.f])
 | succ k =>
 simp only [Gn.f] at h
 have hu64 := Tryz.underlying64
 have HB := Aside0.mk (Below.refl w.heap.size w)
 have H : (if a1 > 5 then (Gn.j0 k a0 a1 true) else ((Qu.f a0 (⟨#[40]⟩ : ByteArray)).bind fun t229 => (if t229 = true then (Gn.j0 k a0 a1 (decide ((a0.size : Int) < 2))) else (Gn.j0 k a0 a1 true)))) = some (r1, r2) := h
 clear h
 have HC3 := Aside0.mk H
 clear H
 go_enter Tryz.func44, Tryz.ntmps44
 go_upto_region 1 with (fail)
 go_cut [25] (fun v25 wc => ∃ (kq : Nat) (x25_2 : Bool), v25 = .bool x25_2 ∧ Aside0 (Gn.j0 kq a0 a1 x25_2 = some (r1, r2)) ∧ Aside0 (kq ≤ k) ∧ Aside0 (Below w.heap.size w wc))
 case first =>
  have H := HC3.out
  clear HC3
  by_cases c4 : a1 > 5
  ·rw [if_pos c4] at H
   have c4b0 : decide (5 < a1) = true := decide_eq_true c4
   clear c4
   (first | rw [c4b0] | rw [c4v0] | (simp only [i64_w, i32_w]; rw [c4b0]) | (simp only [i64_w, i32_w]; rw [c4v0]) | skip)
   have H' := Aside0.mk H
   clear H
   go_wp2
   go_meet
   case rel => exact ⟨_, (true), EZc, H', ⟨by first | omega | exact Nat.le_refl _⟩, ⟨HBa⟩⟩
  rw [if_neg c4] at H
  have c4b0 : decide (5 < a1) = false := decide_eq_false c4
  clear c4
  (first | rw [c4b0] | rw [c4v0] | (simp only [i64_w, i32_w]; rw [c4b0]) | (simp only [i64_w, i32_w]; rw [c4v0]) | skip)
  replace H := Option.bind_eq_some_iff.mp H
  obtain ⟨t229, A50, H⟩ := H
  replace H : (if t229 = true then (Gn.j0 k a0 a1 (decide ((a0.size : Int) < 2))) else (Gn.j0 k a0 a1 true)) = some (r1, r2) := H
  have A5 := Aside0.mk A50
  clear A50
  by_cases c6 : t229 = true
  ·subst c6
   have H1 : (Gn.j0 k a0 a1 (decide ((a0.size : Int) < 2))) = some (r1, r2) := by rw [if_pos rfl] at H; exact H
   clear H
   have H := H1
   clear H1
   have H' := Aside0.mk H
   clear H
   go_wp2_with (first | (go_at_call 80; (with_reducible refine (Qu.calls a0 (⟨#[40]⟩ : ByteArray) true _ A5.out).mono ?_); rintro e w' ⟨rfl, ⟨nd, rfl⟩⟩))
   go_meet
   case rel => exact ⟨_, (decide ((a0.size : Int) < 2)), EZc, H', ⟨by first | omega | exact Nat.le_refl _⟩, ⟨HBa⟩⟩
  replace c6 := Bool.eq_false_iff.mpr c6
  subst c6
  have H1 : (Gn.j0 k a0 a1 true) = some (r1, r2) := by rw [if_neg (show ¬ (false = true) by decide)] at H; exact H
  clear H
  have H := H1
  clear H1
  have H' := Aside0.mk H
  clear H
  go_wp2_with (first | (go_at_call 80; (with_reducible refine (Qu.calls a0 (⟨#[40]⟩ : ByteArray) false _ A5.out).mono ?_); rintro e w' ⟨rfl, ⟨nd, rfl⟩⟩))
  go_meet
  case rel => exact ⟨_, (true), EZc, H', ⟨by first | omega | exact Nat.le_refl _⟩, ⟨HBa⟩⟩
 case rest =>
  clear HC3
  obtain ⟨kq, x25_2, rfl, HA, HJ2, HB⟩ := hcut
  cases kq with
  | zero => exact absurd HA.out (by simp [Gn.j0])
  | succ kj2 =>
   have H := HA.out
   clear HA
   simp only [Gn.j0] at H
   by_cases c7 : x25_2 = true
   ·subst c7
    have H1 : (some (([] : List (S64)), a0)) = some (r1, r2) := by rw [if_pos rfl] at H; exact H
    clear H
    have H := H1
    clear H1
    obtain ⟨rfl, rfl⟩ := SPz H
    go_wp2
    go_ret2
    exact ⟨_, EZa, by first | exact Kd.R_nil _ _ _ _ _ | exact Kd.N_nil _ _ _ _ _ | exact Kd.V_nil _ _ _ _ _ | exact Kd.Q_nil _ _ _ _ _ | exact Kd.S_nil _ _ _ _ _, HBa⟩
   replace c7 := Bool.eq_false_iff.mpr c7
   subst c7
   have H1 : (if 1 < (a0.size : Int) then ((Qw.f (⟨#[38, 124, 33]⟩ : ByteArray) (bt a0 1)).bind fun t230 => (if (wrap64 (t230 + 1)) = 0 then (if 1 ≤ (a0.size : Int) then ((Qt.f (a0.extract 1 a0.size) (⟨#[41]⟩ : ByteArray)).bind fun bt231 => ((Gp.f bt231.1).bind fun bt234 => (some ((([(⟨bt234.1, bt234.2.1, bt234.2.2.1, bt234.2.2.2⟩ : S64)] : List (S64))), bt231.2.1)))) else (none)) else (if 2 ≤ (a0.size : Int) then (Gn.l0 kj2 a0 a1 (([(⟨wrap64 (t230 + 1), (⟨#[]⟩ : ByteArray), (⟨#[]⟩ : ByteArray), 0⟩ : S64)] : List (S64))) (a0.extract 2 a0.size)) else (none)))) else (none)) = some (r1, r2) := by rw [if_neg (show ¬ (false = true) by decide)] at H; exact H
   clear H
   have H := H1
   clear H1
   by_cases c8 : 1 < (a0.size : Int)
   rotate_left
   ·rw [if_neg c8] at H
    exact absurd H (by simp)
   rw [if_pos c8] at H
   have c8b0 := decide_eq_true c8
   have c8b1 : decide (1 < a0.size) = true := decide_eq_true (by omega)
   clear c8
   replace H := Option.bind_eq_some_iff.mp H
   obtain ⟨t230, A100, H⟩ := H
   replace H : (if (wrap64 (t230 + 1)) = 0 then (if 1 ≤ (a0.size : Int) then ((Qt.f (a0.extract 1 a0.size) (⟨#[41]⟩ : ByteArray)).bind fun bt231 => ((Gp.f bt231.1).bind fun bt234 => (some ((([(⟨bt234.1, bt234.2.1, bt234.2.2.1, bt234.2.2.2⟩ : S64)] : List (S64))), bt231.2.1)))) else (none)) else (if 2 ≤ (a0.size : Int) then (Gn.l0 kj2 a0 a1 (([(⟨wrap64 (t230 + 1), (⟨#[]⟩ : ByteArray), (⟨#[]⟩ : ByteArray), 0⟩ : S64)] : List (S64))) (a0.extract 2 a0.size)) else (none))) = some (r1, r2) := H
   have A10 := Aside0.mk A100
   clear A100
   by_cases c11 : (wrap64 (t230 + 1)) = 0
   ·rw [if_pos c11] at H
    have c11b0 : ((wrap64 (t230 + 1)) == 0) = true := beq_iff_eq.mpr c11
    (try (have c11v0 := c11b0; (try rw [show wrap64 (t230 + 1) = t230 + 1 from by unfold wrap64; omega] at c11v0)))
    have c11b1 : ((wrap64 (t230 + 1)) != 0) = false := bne_eq_false_iff_eq.mpr c11
    (try (have c11v1 := c11b1; (try rw [show wrap64 (t230 + 1) = t230 + 1 from by unfold wrap64; omega] at c11v1)))
    clear c11
    by_cases c12 : 1 ≤ (a0.size : Int)
    rotate_left
    ·rw [if_neg c12] at H
     exact absurd H (by simp)
    rw [if_pos c12] at H
    have c12b0 := eq_true c12
    have c12b1 := decide_eq_true c12
    clear c12
    replace H := Option.bind_eq_some_iff.mp H
    obtain ⟨⟨t231, t232, t233⟩, A130, H⟩ := H
    replace H : ((Gp.f t231).bind fun bt234 => (some ((([(⟨bt234.1, bt234.2.1, bt234.2.2.1, bt234.2.2.2⟩ : S64)] : List (S64))), t232))) = some (r1, r2) := H
    have A13 := Aside0.mk A130
    clear A130
    replace H := Option.bind_eq_some_iff.mp H
    obtain ⟨⟨t234, t235, t236, t237⟩, A140, H⟩ := H
    replace H : (some ((([(⟨t234, t235, t236, t237⟩ : S64)] : List (S64))), t232)) = some (r1, r2) := H
    have A14 := Aside0.mk A140
    clear A140
    obtain ⟨y238, hy238⟩ : ∃ y_ : List (S64), y_ = (([(⟨t234, t235, t236, t237⟩ : S64)] : List (S64))) := ⟨_, rfl⟩
    replace H : (some (y238, t232)) = some (r1, r2) := by first | (rw [hy238]; with_reducible exact H) | (have H2_ := (Option.bind_some _ _).symm.trans H; rw [hy238]; with_reducible exact H2_) | (have H2_ := (Option.bind_some _ _).symm.trans H; with_reducible exact H2_) | with_reducible exact H | (rw [hy238]; exact H) | exact H
    have Ny238 := Aside0.mk hy238
    clear hy238
    obtain ⟨rfl, rfl⟩ := SPz H
    have p9 : 0 ≤ (1 : Int) := (by omega)
    have q9 : 1 < a0.size := (by have : (1 : Int) < (a0.size : Int) := ODz; omega)
    have hx9 : ∀ h : 1 < a0.size, ((a0[1]'h).toNat : Int) = bt a0 1 := bt_at a0 1
    clear p9
    have qi9 : (1 < (a0.size : Int)) = True := eq_true (ODz)
    replace q9 := eq_true q9
    go_wp2_with (first | ((with_reducible refine gate_callee (f := 81) rfl ?_); refine goesL_ (some 29) rfl rfl Tryz.func81 (by kernel_rfl) rfl #[.string (⟨#[38, 124, 33]⟩ : ByteArray), .int .u8 (bt a0 1)] rfl MPz ?_; (with_reducible refine (Qw.calls (⟨#[38, 124, 33]⟩ : ByteArray) (bt a0 1) t230 _ A10.out).mono ?_); rintro e w' ⟨rfl, ⟨nd, rfl⟩⟩; refine ⟨_, rfl, ?_⟩) | ((with_reducible refine gate_callee (f := 82) rfl ?_); refine goesL_ (some 36) rfl rfl Tryz.func82 (by kernel_rfl) rfl #[.string (a0.extract 1 a0.size), .string (⟨#[41]⟩ : ByteArray)] rfl MPz ?_; (with_reducible refine (Qt.calls (a0.extract 1 a0.size) (⟨#[41]⟩ : ByteArray) t231 t232 t233 _ A13.out).mono ?_); rintro e w' ⟨rfl, ⟨nd, rfl⟩⟩; refine ⟨_, rfl, ?_⟩) | ((with_reducible refine gate_callee (f := 83) rfl ?_); refine goesL_ (some 41) rfl rfl Tryz.func83 (by kernel_rfl) rfl #[.string t231] rfl MPz ?_; (with_reducible refine (Gp.calls t231 t234 t235 t236 t237 _ A14.out).mono ?_); rintro e w15 ⟨rfl, hb⟩; refine ⟨_, rfl, ?_⟩; have n0_ := Aside0.mk (below_step HBa hb); clear HB; have HB := n0_; clear n0_; (try clear hb); (try clear hb2); (try clear hk); (try clear hi)) | ((with_reducible refine gate_dst (N := 42) rfl ?_); (try (refine gate_guard (by rfl) ?_; dsimp only)); refine Kd.R_lit k64 _ 64 ?hg (N := 42) ?hd (xs := ([(⟨t234, t235, t236, t237⟩ : S64)] : List (S64))) (inner := [.int .i64 t234, .string t235, .string t236, .int .i64 t237]) (ok := fun _ => True) (okp := fun _ => True) ?hr ?hp (fun _ hk => hk) trivial (Below.refl _ _) (Nat.le_refl _) (by simp) ?_; (case hd => rfl); (case hg => rfl); (case hr => first | (go_simp; done) | (go_simp; rfl)); (case hp => exact (Reps.c4 (show Kd.M k64 _ _ _ (⟨t234, t235, t236, t237⟩ : S64) [.int .i64 t234, .string t235, .string t236, .int .i64 t237] from (k64_mkM _ _ _ (⟨t234, t235, t236, t237⟩ : S64) )) (Reps.none _ _))); intro v239 w16 ho17 hb hg_ hnew_; clear hg_ hnew_; (first | rw [← Ny238.out] at ho17 | (simp only [Int.reduceToNat] at ho17; rw [← Ny238.out] at ho17)); have n0_ := Aside0.mk (Kd.R_lower ho17 (below_size HBa)); have n1_ := Aside0.mk (below_step HBa hb); clear HB; have HO240 := n0_; have HB := n1_; clear n0_ n1_; clear hb ho17))
    go_ret2
    exact ⟨_, EZa, by (with_reducible repeat (first | apply Kd.R_alloc | apply Kd.R_drewN | apply Kd.R_drew)); exact HO240.out, HBa⟩
   rw [if_neg c11] at H
   have c11b0 : ((wrap64 (t230 + 1)) == 0) = false := beq_eq_false_iff_ne.mpr c11
   (try (have c11v0 := c11b0; (try rw [show wrap64 (t230 + 1) = t230 + 1 from by unfold wrap64; omega] at c11v0)))
   have c11b1 : ((wrap64 (t230 + 1)) != 0) = true := bne_iff_ne.mpr c11
   (try (have c11v1 := c11b1; (try rw [show wrap64 (t230 + 1) = t230 + 1 from by unfold wrap64; omega] at c11v1)))
   obtain ⟨y241, hy241⟩ : ∃ y_ : List (S64), y_ = (([(⟨wrap64 (t230 + 1), (⟨#[]⟩ : ByteArray), (⟨#[]⟩ : ByteArray), 0⟩ : S64)] : List (S64))) := ⟨_, rfl⟩
   replace H : (if 2 ≤ (a0.size : Int) then (Gn.l0 kj2 a0 a1 y241 (a0.extract 2 a0.size)) else (none)) = some (r1, r2) := by first | (rw [hy241]; with_reducible exact H) | (have H2_ := (Option.bind_some _ _).symm.trans H; rw [hy241]; with_reducible exact H2_) | (have H2_ := (Option.bind_some _ _).symm.trans H; with_reducible exact H2_) | with_reducible exact H | (rw [hy241]; exact H) | exact H
   have Ny241 := Aside0.mk hy241
   clear hy241
   by_cases c18 : 2 ≤ (a0.size : Int)
   rotate_left
   ·rw [if_neg c18] at H
    exact absurd H (by simp)
   rw [if_pos c18] at H
   have c18b0 := eq_true c18
   have c18b1 := decide_eq_true c18
   clear c18
   have H' := Aside0.mk H
   clear H
   have p9 : 0 ≤ (1 : Int) := (by omega)
   have q9 : 1 < a0.size := (by have : (1 : Int) < (a0.size : Int) := ODz; omega)
   have hx9 : ∀ h : 1 < a0.size, ((a0[1]'h).toNat : Int) = bt a0 1 := bt_at a0 1
   clear p9
   have qi9 : (1 < (a0.size : Int)) = True := eq_true (ODz)
   replace q9 := eq_true q9
   try go_wp2_with (first | ((with_reducible refine gate_callee (f := 81) rfl ?_); refine goesL_ (some 29) rfl rfl Tryz.func81 (by kernel_rfl) rfl #[.string (⟨#[38, 124, 33]⟩ : ByteArray), .int .u8 (bt a0 1)] rfl MPz ?_; (with_reducible refine (Qw.calls (⟨#[38, 124, 33]⟩ : ByteArray) (bt a0 1) t230 _ A10.out).mono ?_); rintro e w' ⟨rfl, ⟨nd, rfl⟩⟩; refine ⟨_, rfl, ?_⟩))
   (try (rw [drewN_self wc]; generalize hq_ : World.drewN wc _ = wc; have n0_ : Aside0 (Below w.heap.size w wc) := ⟨by rw [← hq_]; exact HBa⟩; clear HB hq_; have HB := n0_; clear n0_))
   have n0_ := Aside0.mk (below_drew1 HB.out)
   clear HB
   have HB := n0_
   clear n0_
   refine start_ (n := 7) (S := fun w' => True) (ds := []) (bz 7 0) (by kernel_rfl) rfl (by kernel_rfl) trivial (fun hHeld => ?_)
   generalize wc.drew = w19 at HB hHeld ⊢
   refine PYz 0 44 (bz 7 1) rfl rfl (by kernel_rfl) ?_
   refine PYz 1 45 (bz 7 3) rfl rfl (by kernel_rfl) ?_
   refine PYz 3 47 (bz 7 11) rfl rfl (by kernel_rfl) ?_
   refine PYz 4 48 (bz 7 27) rfl rfl (by kernel_rfl) ?_
   refine one_ (i := 2) (N := some 46) (bz 7 31) rfl rfl (by kernel_rfl) (by decide) (fun K hK => ?_)
   refine Kd.R_lit_step k64 _ 64 ?hg (N := 46) ?hd (xs := ([(⟨wrap64 (t230 + 1), (⟨#[]⟩ : ByteArray), (⟨#[]⟩ : ByteArray), 0⟩ : S64)] : List (S64))) (inner := [.int .i64 (wrap64 (t230 + 1)), .string (⟨#[]⟩ : ByteArray), .string (⟨#[]⟩ : ByteArray), .int .i64 0]) (ok := fun _ => True) (okp := fun _ => True) ?hr ?hp (fun _ hk => hk) trivial (Below.refl _ _) (Nat.le_refl _) (by simp) ?_; (case hd => rfl); (case hg => rfl); (case hr => first | (go_simp; done) | (go_simp; rfl)); (case hp => exact (Reps.c4 (show Kd.M k64 _ _ _ (⟨wrap64 (t230 + 1), (⟨#[]⟩ : ByteArray), (⟨#[]⟩ : ByteArray), 0⟩ : S64) [.int .i64 (wrap64 (t230 + 1)), .string (⟨#[]⟩ : ByteArray), .string (⟨#[]⟩ : ByteArray), .int .i64 0] from (k64_mkM _ _ _ (⟨wrap64 (t230 + 1), (⟨#[]⟩ : ByteArray), (⟨#[]⟩ : ByteArray), 0⟩ : S64) )) (Reps.none _ _)))
   intro v242 w20 ho21 hb hg_ hnew_
   clear hg_ hnew_
   (first | rw [← Ny241.out] at ho21 | (simp only [Int.reduceToNat] at ho21; rw [← Ny241.out] at ho21))
   have n0_ := Aside0.mk (Kd.R_lower ho21 (below_size HBa))
   have n1_ := Aside0.mk (below_step HBa hb)
   clear HB
   have HO243 := n0_
   have HB := n1_
   clear n0_ n1_
   clear hb ho21
   refine hK.out _ _ trivial (fun hHeld => ?_)
   clear hK K
   refine norm_ (a' := ?_) ?_ ?_
   rotate_left
   ·show Act.put _ (some 46) _ = _
    simp only [PUz]
    rfl
   refine PYz 5 10 (bz 7 63) rfl rfl (by kernel_rfl) ?_
   refine PYz 6 11 (bz 7 127) rfl rfl (by kernel_rfl) ?_
   refine done_ (by kernel_rfl) ?_
   try go_wp2
   go_loopg [10, 11] kj2 (fun kq v10 v11 w' => ∃ (x10_2 : List (S64)) (x11_2 : ByteArray), v11 = .string x11_2 ∧ Aside0 (Gn.l0 kq a0 a1 x10_2 x11_2 = some (r1, r2)) ∧ Aside0 (kq ≤ kj2) ∧ Aside0 (Kd.R k64 64 w' w.heap.size (fun _ => True) v10 x10_2) ∧ Aside0 (Below w.heap.size w w'))
   case atStart => exact ⟨(y241), (a0.extract 2 a0.size), EZc, H', ⟨Nat.le_refl _⟩, ⟨by (with_reducible repeat (first | apply Kd.R_alloc | apply Kd.R_drewN | apply Kd.R_drew)); exact HO243.out⟩, ⟨HBa⟩⟩
   case round =>
    clear H'
    try clear c4
    try clear c7
    try clear c8
    try clear c8b0
    try clear c8b1
    try clear p9
    try clear q9
    try clear hx9
    try clear qi9
    try clear c11
    try clear c11b0
    try clear c11b1
    try clear c18
    try clear c18b0
    try clear c18b1
    try clear p9
    try clear q9
    obtain ⟨x10_2, x11_2, rfl, HA, HK2, HO_10, HB⟩ := hrel
    cases gk with
    | zero => exact absurd HA.out (by simp [Gn.l0])
    | succ k2 =>
     have H := HA.out
     clear HA
     simp only [Gn.l0] at H
     have HC22 := Aside0.mk H
     clear H
     go_upto_region 8 with (fail)
     go_cut [55] (fun v55 wc => ∃ (kq : Nat) (x55_21 : Bool), v55 = .bool x55_21 ∧ Aside0 (Gn.j2 kq a0 a1 x10_2 x11_2 x55_21 = some (r1, r2)) ∧ Aside0 (kq ≤ k2) ∧ Aside0 (Kd.R k64 64 wc w.heap.size (fun _ => True) u10 x10_2) ∧ Aside0 (Below w.heap.size w wc))
     case first =>
      have H := HC22.out
      clear HC22
      replace H := Option.bind_eq_some_iff.mp H
      obtain ⟨t244, A230, H⟩ := H
      replace H : (if t244 = true then (Gn.j2 k2 a0 a1 x10_2 x11_2 (decide ((x10_2.length : Int) ≤ 20))) else (Gn.j2 k2 a0 a1 x10_2 x11_2 false)) = some (r1, r2) := H
      have A23 := Aside0.mk A230
      clear A230
      by_cases c24 : t244 = true
      ·subst c24
       have H1 : (Gn.j2 k2 a0 a1 x10_2 x11_2 (decide ((x10_2.length : Int) ≤ 20))) = some (r1, r2) := by rw [if_pos rfl] at H; exact H
       clear H
       have H := H1
       clear H1
       have H' := Aside0.mk H
       clear H
       go_wp2_with (first | ((with_reducible refine gate_callee (f := 80) rfl ?_); refine goesL_ (some 50) rfl rfl Tryz.func80 (by kernel_rfl) rfl #[.string x11_2, .string (⟨#[40]⟩ : ByteArray)] rfl MPz ?_; (with_reducible refine (Qu.calls x11_2 (⟨#[40]⟩ : ByteArray) true _ A23.out).mono ?_); rintro e w' ⟨rfl, ⟨nd, rfl⟩⟩; refine ⟨_, rfl, ?_⟩; obtain ⟨Ao25, co25, eo25⟩ := Kd.R_slice HO_10.out; subst eo25))
       go_meet
       case rel => exact ⟨_, (decide ((x10_2.length : Int) ≤ 20)), EZc, H', ⟨by have := HJ2.out; have := HK2.out; first | omega | exact Nat.le_refl _⟩, ⟨by (with_reducible repeat (first | apply Kd.R_alloc | apply Kd.R_drewN | apply Kd.R_drew)); exact HO_10.out⟩, ⟨HBa⟩⟩
      replace c24 := Bool.eq_false_iff.mpr c24
      subst c24
      have H1 : (Gn.j2 k2 a0 a1 x10_2 x11_2 false) = some (r1, r2) := by rw [if_neg (show ¬ (false = true) by decide)] at H; exact H
      clear H
      have H := H1
      clear H1
      have H' := Aside0.mk H
      clear H
      go_wp2_with (first | ((with_reducible refine gate_callee (f := 80) rfl ?_); refine goesL_ (some 50) rfl rfl Tryz.func80 (by kernel_rfl) rfl #[.string x11_2, .string (⟨#[40]⟩ : ByteArray)] rfl MPz ?_; (with_reducible refine (Qu.calls x11_2 (⟨#[40]⟩ : ByteArray) false _ A23.out).mono ?_); rintro e w' ⟨rfl, ⟨nd, rfl⟩⟩; refine ⟨_, rfl, ?_⟩))
      go_meet
      case rel => exact ⟨_, (false), EZc, H', ⟨by have := HJ2.out; have := HK2.out; first | omega | exact Nat.le_refl _⟩, ⟨by (with_reducible repeat (first | apply Kd.R_alloc | apply Kd.R_drewN | apply Kd.R_drew)); exact HO_10.out⟩, ⟨HBa⟩⟩
     case rest =>
      clear HC22
      try clear c4
      try clear c7
      try clear c8
      try clear c8b0
      try clear c8b1
      try clear p9
      try clear q9
      try clear hx9
      try clear qi9
      try clear c11
      try clear c11b0
      try clear c11b1
      try clear c18
      try clear c18b0
      try clear c18b1
      try clear p9
      try clear q9
      obtain ⟨kq, x55_21, rfl, HA, HJ21, HO_10, HB⟩ := hcut
      cases kq with
      | zero => exact absurd HA.out (by simp [Gn.j2])
      | succ kj21 =>
       have H := HA.out
       clear HA
       simp only [Gn.j2] at H
       by_cases c26 : x55_21 = true
       rotate_left
       ·replace c26 := Bool.eq_false_iff.mpr c26
        subst c26
        have H1 : ((Qy.f x11_2 (⟨#[41]⟩ : ByteArray)).bind fun t254 => (some (x10_2, t254))) = some (r1, r2) := by rw [if_neg (show ¬ (false = true) by decide)] at H; exact H
        clear H
        have H := H1
        clear H1
        replace H := Option.bind_eq_some_iff.mp H
        obtain ⟨t254, A400, H⟩ := H
        replace H : (some (x10_2, t254)) = some (r1, r2) := H
        have A40 := Aside0.mk A400
        clear A400
        obtain ⟨rfl, rfl⟩ := SPz H
        go_wp2_with (first | ((with_reducible refine gate_callee (f := 84) rfl ?_); refine goesL_ (some 80) rfl rfl Tryz.func84 (by kernel_rfl) rfl #[.string x11_2, .string (⟨#[41]⟩ : ByteArray)] rfl MPz ?_; (with_reducible refine (Qy.calls x11_2 (⟨#[41]⟩ : ByteArray) t254 _ A40.out).mono ?_); rintro e w' ⟨rfl, ⟨nd, rfl⟩⟩; refine ⟨_, rfl, ?_⟩))
        go_ret2
        exact ⟨_, EZa, by (with_reducible repeat (first | apply Kd.R_alloc | apply Kd.R_drewN | apply Kd.R_drew)); exact HO_10.out, HBa⟩
       subst c26
       have H1 : ((Gn.f kj21 x11_2 (wrap64 (a1 + 1))).bind fun bt245 => (if (bt245.1.length : Int) = 0 then (some (([] : List (S64)), a0)) else (if x10_2.length + bt245.1.length < 2932031007402 then ((some (x10_2 ++ bt245.1 : List (S64))).bind fun y249 => (if 0 < (y249.length : Int) then (Gn.l0 kj21 a0 a1 (y249.set (0 : Int).toNat (⟨(rd_T64 y249 0).f0, (rd_T64 y249 0).f1, (rd_T64 y249 0).f2, wrap64 (((rd_T64 y249 0).f3) + 1)⟩ : S64)) bt245.2) else (none))) else (none)))) = some (r1, r2) := by rw [if_pos rfl] at H; exact H
       clear H
       have H := H1
       clear H1
       replace H := Option.bind_eq_some_iff.mp H
       obtain ⟨⟨t245, t246⟩, A270, H⟩ := H
       replace H : (if (t245.length : Int) = 0 then (some (([] : List (S64)), a0)) else (if x10_2.length + t245.length < 2932031007402 then ((some (x10_2 ++ t245 : List (S64))).bind fun y249 => (if 0 < (y249.length : Int) then (Gn.l0 kj21 a0 a1 (y249.set (0 : Int).toNat (⟨(rd_T64 y249 0).f0, (rd_T64 y249 0).f1, (rd_T64 y249 0).f2, wrap64 (((rd_T64 y249 0).f3) + 1)⟩ : S64)) t246) else (none))) else (none))) = some (r1, r2) := H
       have A27 := Aside0.mk A270
       clear A270
       by_cases c28 : (t245.length : Int) = 0
       ·rw [if_pos c28] at H
        obtain ⟨c28b0, c28b1⟩ := QTz c28
        clear c28
        obtain ⟨rfl, rfl⟩ := SPz H
        go_wp2_with (first | ((with_reducible refine gate_callee (f := 44) rfl ?_); refine goesL_ (some 60) rfl rfl Tryz.func44 (by kernel_rfl) rfl #[.string x11_2, .int .i64 (wrap64 (a1 + 1))] rfl MPz ?_; (with_reducible refine (ih kj21 (by have := HJ2.out; have := HK2.out; have := HJ21.out; omega) x11_2 (wrap64 (a1 + 1)) t245 t246 _ A27.out).mono ?_); rintro e w29 ⟨v247, rfl, ho0, hb⟩; refine ⟨_, rfl, ?_⟩; have n0_ := Aside0.mk (Kd.R_elder' (KRz HO_10) (Kd.R_base ho0) hb); have n1_ := Aside0.mk (Kd.R_lower (Kd.R_new' ho0 (Kd.R_lt (KRz HO_10))) (below_size HBa)); have n2_ := Aside0.mk (below_step HBa hb); clear HO_10; clear HB; have HO_10 := n0_; have HO248 := n1_; have HB := n2_; clear n0_ n1_ n2_; (try clear hb); (try clear hb2); (try clear hk); (try clear hi); (try clear ho0); obtain ⟨Ao30, co30, eo30⟩ := Kd.R_slice HO248.out; subst eo30))
        go_ret2
        exact ⟨_, EZa, by first | exact Kd.R_nil _ _ _ _ _ | exact Kd.N_nil _ _ _ _ _ | exact Kd.V_nil _ _ _ _ _ | exact Kd.Q_nil _ _ _ _ _ | exact Kd.S_nil _ _ _ _ _, HBa⟩
       rw [if_neg c28] at H
       obtain ⟨c28b0, c28b1⟩ := QFz c28
       have c28b2 : ¬ (t245 = []) := fun h_ => c28 (by rw [h_]; rfl)
       by_cases c31 : x10_2.length + t245.length < 2932031007402
       ·rw [if_pos c31] at H
        have LMc31 := Aside0.mk c31
        clear c31
        obtain ⟨y249, hy249⟩ : ∃ y_ : List (S64), y_ = (x10_2 ++ t245) := ⟨_, rfl⟩
        replace H : (if 0 < (y249.length : Int) then (Gn.l0 kj21 a0 a1 (y249.set (0 : Int).toNat (⟨(rd_T64 y249 0).f0, (rd_T64 y249 0).f1, (rd_T64 y249 0).f2, wrap64 (((rd_T64 y249 0).f3) + 1)⟩ : S64)) t246) else (none)) = some (r1, r2) := by first | (rw [hy249]; with_reducible exact H) | (have H2_ := (Option.bind_some _ _).symm.trans H; rw [hy249]; with_reducible exact H2_) | (have H2_ := (Option.bind_some _ _).symm.trans H; with_reducible exact H2_) | with_reducible exact H | (rw [hy249]; exact H) | exact H
        have Ny249 := Aside0.mk hy249
        clear hy249
        by_cases c32 : 0 < (y249.length : Int)
        ·rw [if_pos c32] at H
         have c32b0 := decide_eq_true c32
         have c32b1 : decide (0 < y249.length) = true := decide_eq_true (by omega)
         clear c32
         obtain ⟨y253, hy253⟩ : ∃ y_ : List (S64), y_ = (y249.set (0 : Int).toNat (⟨(rd_T64 y249 0).f0, (rd_T64 y249 0).f1, (rd_T64 y249 0).f2, wrap64 (((rd_T64 y249 0).f3) + 1)⟩ : S64)) := ⟨_, rfl⟩
         replace H : (Gn.l0 kj21 a0 a1 y253 t246) = some (r1, r2) := by first | (rw [hy253]; with_reducible exact H) | (have H2_ := (Option.bind_some _ _).symm.trans H; rw [hy253]; with_reducible exact H2_) | (have H2_ := (Option.bind_some _ _).symm.trans H; with_reducible exact H2_) | with_reducible exact H | (rw [hy253]; exact H) | exact H
         have Ny253 := Aside0.mk hy253
         clear hy253
         have H' := Aside0.mk H
         clear H
         go_wp2_with (first | ((with_reducible refine gate_callee (f := 44) rfl ?_); refine goesL_ (some 60) rfl rfl Tryz.func44 (by kernel_rfl) rfl #[.string x11_2, .int .i64 (wrap64 (a1 + 1))] rfl MPz ?_; (with_reducible refine (ih kj21 (by have := HJ2.out; have := HK2.out; have := HJ21.out; omega) x11_2 (wrap64 (a1 + 1)) t245 t246 _ A27.out).mono ?_); rintro e w34 ⟨v247, rfl, ho0, hb⟩; refine ⟨_, rfl, ?_⟩; have n0_ := Aside0.mk (Kd.R_elder' (KRz HO_10) (Kd.R_base ho0) hb); have n1_ := Aside0.mk (Kd.R_lower (Kd.R_new' ho0 (Kd.R_lt (KRz HO_10))) (below_size HBa)); have n2_ := Aside0.mk (below_step HBa hb); clear HO_10; clear HB; have HO_10 := n0_; have HO248 := n1_; have HB := n2_; clear n0_ n1_ n2_; (try clear hb); (try clear hb2); (try clear hk); (try clear hi); (try clear ho0); obtain ⟨Ao35, co35, eo35⟩ := Kd.R_slice HO248.out; subst eo35) | ((with_reducible refine gate_builtin (b := .append) (xs := #[.tmp 67, .tmp 68]) rfl ?_); (try (refine gate_guard (by rfl) ?_; dsimp only)); at_builtin; refine Kd.R_append_rows k64 (w0 := w) w.heap.size rfl (.tmp 67) (.tmp 68) 25 64 (.agg #[(.int .i64 0), (.string ⟨#[]⟩), (.string ⟨#[]⟩), (.int .i64 0)]) 48 rfl Tryz.underlying25 info64 rfl (by decide) (by omega) u10 x10_2 t245 _ _ _ (fun k_ => some k_ ≠ (.slice Ao35 t245.length co35 : Value).ownBlock) (fun _ => False) rfl rfl ?aO ?aR (fun _ _ h => h) (fun _ h => h.elim) ?aF ?aB ?aS ?aL ?_; (case aR => repeat (first | exact (Kd.R_reads' HO248.out).2.2 | (with_reducible refine Kd.C_alloc ?_ _) | (with_reducible refine Kd.C_drewN ?_ _) | (with_reducible refine Kd.C_drew ?_))); (case aB => exact HBa); (case aF => exact (fun k_ hk => Kd.fresh' (Kd.R_lt (KRz HO248)) k_ hk)); (case aO => exact (by (with_reducible repeat (first | apply Kd.R_alloc | apply Kd.R_drewN | apply Kd.R_drew)); exact Kd.R_mono HO_10.out (fun _ hk => hk.2))); (case aS => exact (below_size HBa)); (case aL => have := LMc31.out; omega); intro v250 w36 ho hb hg hat; rw [← Ny249.out] at ho; have n0_ := Aside0.mk (Kd.R_after (ok := (fun _ => True)) (KRz HO248) hg hat); have n1_ := Aside0.mk (hb); have n2_ := Aside0.mk (ho); clear HO248; clear HB; clear HO_10; have HO248 := n0_; have HB := n1_; have HO251 := n2_; clear n0_ n1_ n2_; clear ho hb hg hat; obtain ⟨Ao37, co37, eo37⟩ := Kd.R_slice HO251.out; subst eo37; have p252 : 0 ≤ (0 : Int) := (by omega); have q252 : 0 < (y249.length : Int) := ODz; obtain ⟨ad252, e252, hx252_0, hx252_1, hx252_2, hx252_3⟩ := at_T64 (Kd.R_reads' HO251.out).2.2 0 p252 q252; cases e252; have qi252 : (0 < y249.length) = True := eq_true (by omega); (try rw [show ((0 : Int)).toNat = 0 from rfl] at hx252_0); (try rw [show 0 * 4 = 0 from rfl] at hx252_0); (try rw [Addr.add_zero'] at hx252_0); (try rw [show ((0 : Int)).toNat = 0 from rfl] at hx252_1); (try rw [show 0 * 4 = 0 from rfl] at hx252_1); (try rw [Addr.add_zero'] at hx252_1); (try rw [show ((0 : Int)).toNat = 0 from rfl] at hx252_2); (try rw [show 0 * 4 = 0 from rfl] at hx252_2); (try rw [Addr.add_zero'] at hx252_2); (try rw [show ((0 : Int)).toNat = 0 from rfl] at hx252_3); (try rw [show 0 * 4 = 0 from rfl] at hx252_3); (try rw [Addr.add_zero'] at hx252_3); replace p252 := eq_true p252; replace q252 := eq_true q252; have p33 : 0 ≤ (0 : Int) := (by omega); have q33 : (0 : Int) < ((y249.length : Int) : Int) := ODz; have qi33 : (0 < y249.length) = True := eq_true (by omega); obtain ⟨go33, co33, eo33, gb33, gl33, cl33, HG33⟩ := Kd.R_form HO251.out (by omega); (first | cases eo33 | (injection eo33 with ea_ en_ ec_; (first | subst ea_ | (injection ea_ with ea_; subst ea_)); subst ec_; clear en_)); have GB33 := Aside0.mk gb33; have GG33 := Aside0.mk HG33; clear gb33 gl33 HG33; (first | simp only [add_plain] at hx252_0 | skip); (first | simp only [add_plain] at hx252_1 | skip); (first | simp only [add_plain] at hx252_2 | skip); (first | simp only [add_plain] at hx252_3 | skip); obtain ⟨ce33, hcl33, hM33, hcc33, hfr33⟩ := Kd.R_elem HO251.out z64 (0 : Int) p33 q33; obtain rfl := k64_openM hM33; have hx33_0 : w36.cell? ⟨go33, (0 : Int).toNat * 4, none⟩ = some (.int .i64 ((rd_T64 y249 0).f0)) := hcc33 0 _ rfl; have hx33_1 : w36.cell? ⟨go33, (0 : Int).toNat * 4 + 1, none⟩ = some (.string ((rd_T64 y249 0).f1)) := hcc33 1 _ rfl; have hx33_2 : w36.cell? ⟨go33, (0 : Int).toNat * 4 + 2, none⟩ = some (.string ((rd_T64 y249 0).f2)) := hcc33 2 _ rfl; have hx33_3 : w36.cell? ⟨go33, (0 : Int).toNat * 4 + 3, none⟩ = some (.int .i64 ((rd_T64 y249 0).f3)) := hcc33 3 _ rfl; have hf33_0 : w36.frozen? ⟨go33, (0 : Int).toNat * 4, none⟩ = false := hfr33 0; have hf33_1 : w36.frozen? ⟨go33, (0 : Int).toNat * 4 + 1, none⟩ = false := hfr33 1; have hf33_2 : w36.frozen? ⟨go33, (0 : Int).toNat * 4 + 2, none⟩ = false := hfr33 2; have hf33_3 : w36.frozen? ⟨go33, (0 : Int).toNat * 4 + 3, none⟩ = false := hfr33 3; clear hcl33 hcc33 hfr33 hM33; (try rw [show ((0 : Int)).toNat = 0 from rfl] at hx33_0); (try simp only [Nat.reduceMul, Nat.zero_mul, Nat.zero_add, Nat.reduceAdd] at hx33_0); (try rw [show ((0 : Int)).toNat = 0 from rfl] at hf33_0); (try simp only [Nat.reduceMul, Nat.zero_mul, Nat.zero_add, Nat.reduceAdd] at hf33_0); (try rw [show ((0 : Int)).toNat = 0 from rfl] at hx33_1); (try simp only [Nat.reduceMul, Nat.zero_mul, Nat.zero_add, Nat.reduceAdd] at hx33_1); (try rw [show ((0 : Int)).toNat = 0 from rfl] at hf33_1); (try simp only [Nat.reduceMul, Nat.zero_mul, Nat.zero_add, Nat.reduceAdd] at hf33_1); (try rw [show ((0 : Int)).toNat = 0 from rfl] at hx33_2); (try simp only [Nat.reduceMul, Nat.zero_mul, Nat.zero_add, Nat.reduceAdd] at hx33_2); (try rw [show ((0 : Int)).toNat = 0 from rfl] at hf33_2); (try simp only [Nat.reduceMul, Nat.zero_mul, Nat.zero_add, Nat.reduceAdd] at hf33_2); (try rw [show ((0 : Int)).toNat = 0 from rfl] at hx33_3); (try simp only [Nat.reduceMul, Nat.zero_mul, Nat.zero_add, Nat.reduceAdd] at hx33_3); (try rw [show ((0 : Int)).toNat = 0 from rfl] at hf33_3); (try simp only [Nat.reduceMul, Nat.zero_mul, Nat.zero_add, Nat.reduceAdd] at hf33_3); replace p33 := eq_true p33; replace q33 := eq_true q33; have HX38 := Aside0.mk (show Kd.R k64 64 w36 w.heap.size (fun k_ => some k_ ≠ (.slice Ao35 t245.length co35 : Value).ownBlock) (.slice (some ⟨go33, 0, none⟩) y249.length co37) y249 from (KRz HO251)); obtain ⟨ce38, hcl38, hM38, hcc38, hfr38⟩ := Kd.R_elem HX38.out z64 (0 : Int) (by omega) (by have h_ : (0 : Int) < ((y249.length : Int) : Int) := ODz; first | exact h_ | (have e_ := (Kd.R_reads' HO251.out).1; omega) | simpa using h_); obtain rfl := k64_openM hM38; have HP38 := Kd.R_seg HX38.out (0 : Int) (by omega) (by have h_ : (0 : Int) < ((y249.length : Int) : Int) := ODz; first | exact h_ | (have e_ := (Kd.R_reads' HO251.out).1; omega) | simpa using h_) (seg := [.int .i64 (wrap64 (((rd_T64 y249 0).f3) + 1))]) (j := 3) hcl38 hcc38 (show 4 ≤ 4 from by decide) (x' := (⟨(rd_T64 y249 0).f0, (rd_T64 y249 0).f1, (rd_T64 y249 0).f2, wrap64 (((rd_T64 y249 0).f3) + 1)⟩ : S64)) (k64_mkM _ _ _ (⟨(rd_T64 y249 0).f0, (rd_T64 y249 0).f1, (rd_T64 y249 0).f2, wrap64 (((rd_T64 y249 0).f3) + 1)⟩ : S64) ) (fun _ hk => hk); have hx38_3 := hcc38 3 _ rfl; (try simp only [show (k64).sz = 4 from rfl, Nat.mul_one, Nat.add_zero] at hx38_3); (try rw [show ((0 : Int)).toNat = 0 from rfl] at hx38_3); (try simp only [Nat.reduceMul, Nat.zero_mul, Nat.zero_add, Nat.reduceAdd] at hx38_3); have hf38_3 := hfr38 3; (try simp only [show (k64).sz = 4 from rfl, Nat.mul_one, Nat.add_zero] at hf38_3); (try rw [show ((0 : Int)).toNat = 0 from rfl] at hf38_3); (try simp only [Nat.reduceMul, Nat.zero_mul, Nat.zero_add, Nat.reduceAdd] at hf38_3); clear hcl38 hcc38 hfr38 hM38) | ((with_reducible refine gate_store (t := 2) (p := 77) rfl ?_); refine store_event (t := 2) (p := 77) (v := ?vo_w39) (w1 := (w36.setCell ⟨go33, 3, none⟩ (.int .i64 (wrap64 (((rd_T64 y249 0).f3) + 1))))) ?hg ?ho ?hn ?hr ?_; (case ho => rfl); (case hg => rfl); (case hn => rfl); (case hr => first | (go_simp; done) | (go_simp; rfl)); intro w39 hw; have hg : w36.grownBy w39 (some go33) := (by rw [hw]; exact HP38.2); have hp_ : Kd.R k64 64 w39 w.heap.size (fun k_ => some k_ ≠ (.slice Ao35 t245.length co35 : Value).ownBlock) (.slice (some ⟨go33, 0, none⟩) y249.length co37) y253 := (by rw [hw, Ny253.out]; exact HP38.1); clear HP38; have n0_ := Aside0.mk (Kd.R_after (v := (.slice (some ⟨go33, 0, none⟩) y249.length co37)) (v1 := (.slice (some ⟨go33, 0, none⟩) y249.length co37)) (ok := (fun _ => True)) (KRz HO248) hg (.inl rfl)); have n1_ := Aside0.mk (hp_); have n2_ := Aside0.mk ((by rw [hw]; exact below_set (HB.out) GB33.out : Below w.heap.size w w39)); clear HO248; clear HO251; clear HB; have HO248 := n0_; have HO251 := n1_; have HB := n2_; clear n0_ n1_ n2_; clear hg hw hp_))
         go_roundg kj21
         case measure => have := HJ2.out; have := HK2.out; have := HJ21.out; omega
         case rel => exact ⟨(y253), (t246), EZc, H', ⟨by have := HJ2.out; have := HK2.out; have := HJ21.out; omega⟩, ⟨by (with_reducible repeat (first | apply Kd.R_alloc | apply Kd.R_drewN | apply Kd.R_drew)); exact Kd.R_mono HO251.out (fun _ hk => trivial)⟩, ⟨HBa⟩⟩
        rw [if_neg c32] at H
        exact absurd H (by simp)
       rw [if_neg c31] at H
       exact absurd H (by simp)
def Gb.f (k : Nat) (a0 : ByteArray) : Option ((List (S64)) × Int) := (Gj.f k (([a0] : List ByteArray))).bind fun t259 => (if t259 = true then (some (([] : List (S64)), 2)) else ((Gn.f k a0 1).bind fun bt260 => ((Gc.f k bt260.1).bind fun t264 => (if t264 = true then ((Gd.f k bt260.1).bind fun t265 => (if t265.toList = a0.toList then (some (bt260.1, 0)) else (some (([] : List (S64)), 3)))) else (some (([] : List (S64)), 3))))))
theorem Gb.mono : ∀ a0 k, LeO (Gb.f k a0) (Gb.f (k + 1) a0) := by
 intro a0 k
 unfold Gb.f
 with_reducible repeat' first | exact Gc.mono _ _ | exact Gd.mono _ _ | exact Gj.mono _ _ | exact Gn.mono _ _ _ | exact LeO.refl _ | exact LeO.none _ | refine LeO.ite ?_ ?_ | refine LeO.bind ?_ (fun _ => ?_)
set_option maxHeartbeats 8000000 in
set_option maxRecDepth 100000 in
theorem Gb.calls (k : Nat) (a0 : ByteArray) (r1 : List (S64)) (r2 : Int) (w : World) (h : Gb.f k a0 = some (r1, r2)) :
  Calls Tryz.prog 13 #[.string a0] w fun e w' => ∃ v0_ : Value, e = .returned (.agg #[v0_, .int .i64 r2]) ∧ Kd.R k64 64 w' w.heap.size (fun _ => True) v0_ r1 ∧ Below w.heap.size w w' := by
 have hu30 := Tryz.underlying30
 have HB := Aside0.mk (Below.refl w.heap.size w)
 have H : ((Gj.f k (([a0] : List ByteArray))).bind fun t259 => (if t259 = true then (some (([] : List (S64)), 2)) else ((Gn.f k a0 1).bind fun bt260 => ((Gc.f k bt260.1).bind fun t264 => (if t264 = true then ((Gd.f k bt260.1).bind fun t265 => (if t265.toList = a0.toList then (some (bt260.1, 0)) else (some (([] : List (S64)), 3)))) else (some (([] : List (S64)), 3))))))) = some (r1, r2) := h
 clear h
 obtain ⟨y256, hy256⟩ : ∃ y_ : List ByteArray, y_ = (([a0] : List ByteArray)) := ⟨_, rfl⟩
 replace H : ((Gj.f k y256).bind fun t259 => (if t259 = true then (some (([] : List (S64)), 2)) else ((Gn.f k a0 1).bind fun bt260 => ((Gc.f k bt260.1).bind fun t264 => (if t264 = true then ((Gd.f k bt260.1).bind fun t265 => (if t265.toList = a0.toList then (some (bt260.1, 0)) else (some (([] : List (S64)), 3)))) else (some (([] : List (S64)), 3))))))) = some (r1, r2) := by first | (rw [hy256]; with_reducible exact H) | (have H2_ := (Option.bind_some _ _).symm.trans H; rw [hy256]; with_reducible exact H2_) | (have H2_ := (Option.bind_some _ _).symm.trans H; with_reducible exact H2_) | with_reducible exact H | (rw [hy256]; exact H) | exact H
 have Ny256 := Aside0.mk hy256
 clear hy256
 replace H := Option.bind_eq_some_iff.mp H
 obtain ⟨t259, A20, H⟩ := H
 replace H : (if t259 = true then (some (([] : List (S64)), 2)) else ((Gn.f k a0 1).bind fun bt260 => ((Gc.f k bt260.1).bind fun t264 => (if t264 = true then ((Gd.f k bt260.1).bind fun t265 => (if t265.toList = a0.toList then (some (bt260.1, 0)) else (some (([] : List (S64)), 3)))) else (some (([] : List (S64)), 3)))))) = some (r1, r2) := H
 have A2 := Aside0.mk A20
 clear A20
 by_cases c3 : t259 = true
 ·subst c3
  have H1 : (some (([] : List (S64)), 2)) = some (r1, r2) := by rw [if_pos rfl] at H; exact H
  clear H
  have H := H1
  clear H1
  obtain ⟨rfl, rfl⟩ := SPz H
  go_enter Tryz.func13, Tryz.ntmps13
  go_wp2_with (first | ((with_reducible refine gate_dst (N := 2) rfl ?_); refine box_event ?hg (N := 2) ?hd (cs := #[.slice none 0 0, .int .i64 0]) (t := 30) ?hr ?_; (case hd => rfl); (case hg => rfl); (case hr => first | (go_simp; done) | (go_simp; rfl)); intro gb255 hg w4 hbox hb; have n0_ := Aside0.mk (below_step HBa hb); have n1_ := Aside0.mk (hbox); have n2_ := BSz w hg HBa; have n3_ := BSz w hg HBa; clear HB; have HB := n0_; have BK255 := n1_; have GW255 := n2_; have GE255 := n3_; clear n0_ n1_ n2_ n3_; clear hb hbox hg) | ((with_reducible refine gate_dst (N := 6) rfl ?_); refine Kd.R_lit Kd.string _ 9 ?hg (N := 6) ?hd (xs := ([a0] : List ByteArray)) (inner := [.string a0]) (ok := fun _ => True) (okp := fun _ => True) ?hr ?hp (fun _ hk => hk) trivial (Below.refl _ _) (Nat.le_refl _) (by simp) ?_; (case hd => rfl); (case hg => rfl); (case hr => first | (go_simp; done) | (go_simp; rfl)); (case hp => exact (Reps.one (show Kd.M Kd.string _ _ _ a0 [.string a0] from rfl) (Reps.none _ _))); intro v257 w5 ho6 hb hg_ hnew_; clear hg_ hnew_; (first | rw [← Ny256.out] at ho6 | (simp only [Int.reduceToNat] at ho6; rw [← Ny256.out] at ho6)); have n0_ := Aside0.mk (Kd.R_lower ho6 (below_size (HBb GE255))); have n1_ := BBz BK255 hb; have n2_ := Aside0.mk (below_step (HBb GE255) hb); clear BK255; clear HB; have HO258 := n0_; have BK255 := n1_; have HB := n2_; clear n0_ n1_ n2_; clear hb ho6; obtain ⟨Ao7, co7, eo7⟩ := Kd.R_slice HO258.out; subst eo7) | ((with_reducible refine gate_callee (f := 43) rfl ?_); refine goesL_ (some 7) rfl rfl Tryz.func43 (by kernel_rfl) rfl #[.slice Ao7 y256.length co7] rfl MPz ?_; (with_reducible refine (Gj.calls k _ _ y256 true _ ?side1 ?side2 A2.out).mono ?_); (case side1 => repeat (first | exact (Kd.R_reads' HO258.out).2.2 | (with_reducible refine Kd.C_alloc ?_ _) | (with_reducible refine Kd.C_drewN ?_ _) | (with_reducible refine Kd.C_drew ?_))); (case side2 => exact (Kd.R_reads' HO258.out).2.1); rintro e w' ⟨rfl, ⟨nd, rfl⟩⟩; refine ⟨_, rfl, ?_⟩; (try (rw [drewN_self w5]; generalize hq_ : World.drewN w5 _ = w5; have n0_ : Aside0 (Kd.R Kd.string 9 w5 w.heap.size (fun _ => True) (.slice Ao7 y256.length co7) y256) := ⟨by rw [← hq_]; exact (KRz HO258)⟩; have n1_ : Aside0 (w5.heap[gb255]? = some (.cells #[.slice none 0 0, .int .i64 0] 30 (0, 0))) := ⟨by rw [← hq_]; exact (BKz BK255)⟩; have n2_ : Aside0 (Below w.heap.size w w5) := ⟨by rw [← hq_]; exact (HBb GE255)⟩; clear HO258 BK255 HB hq_; have HO258 := n0_; have BK255 := n1_; have HB := n2_; clear n0_ n1_ n2_)); have hcz8_0 := C1z BK255; have hcz8_1 := C2z BK255; have hfz8_0 := blk_frozen BK255.out 0; have hfz8_1 := blk_frozen BK255.out 1))
  refine bodyPost_ret (results_cell_row rfl _ _ gb255 30 #[.slice none 0 0, .int .i64 2] (0, 0) _ rfl (by (with_reducible repeat first | apply blk_drewN | apply blk_drew | apply blk_alloc); refine blk_put (cs := #[.slice none 0 0, .int .i64 0]) ?_ 1 _ rfl; (with_reducible repeat first | apply blk_drewN | apply blk_drew | apply blk_alloc); refine blk_put (cs := #[.slice none 0 0, .int .i64 0]) ?_ 0 _ rfl; (with_reducible repeat first | apply blk_drewN | apply blk_drew | apply blk_alloc); exact BK255.out) Tryz.underlying30 rfl (by kernel_rfl)) rfl ?_
  exact ⟨_, EZa, by first | exact Kd.R_nil _ _ _ _ _ | exact Kd.N_nil _ _ _ _ _ | exact Kd.V_nil _ _ _ _ _ | exact Kd.Q_nil _ _ _ _ _ | exact Kd.S_nil _ _ _ _ _, HBb GE255⟩
 replace c3 := Bool.eq_false_iff.mpr c3
 subst c3
 have H1 : ((Gn.f k a0 1).bind fun bt260 => ((Gc.f k bt260.1).bind fun t264 => (if t264 = true then ((Gd.f k bt260.1).bind fun t265 => (if t265.toList = a0.toList then (some (bt260.1, 0)) else (some (([] : List (S64)), 3)))) else (some (([] : List (S64)), 3))))) = some (r1, r2) := by rw [if_neg (show ¬ (false = true) by decide)] at H; exact H
 clear H
 have H := H1
 clear H1
 replace H := Option.bind_eq_some_iff.mp H
 obtain ⟨⟨t260, t261⟩, A90, H⟩ := H
 replace H : ((Gc.f k t260).bind fun t264 => (if t264 = true then ((Gd.f k t260).bind fun t265 => (if t265.toList = a0.toList then (some (t260, 0)) else (some (([] : List (S64)), 3)))) else (some (([] : List (S64)), 3)))) = some (r1, r2) := H
 have A9 := Aside0.mk A90
 clear A90
 replace H := Option.bind_eq_some_iff.mp H
 obtain ⟨t264, A100, H⟩ := H
 replace H : (if t264 = true then ((Gd.f k t260).bind fun t265 => (if t265.toList = a0.toList then (some (t260, 0)) else (some (([] : List (S64)), 3)))) else (some (([] : List (S64)), 3))) = some (r1, r2) := H
 have A10 := Aside0.mk A100
 clear A100
 by_cases c11 : t264 = true
 rotate_left
 ·replace c11 := Bool.eq_false_iff.mpr c11
  subst c11
  have H1 : (some (([] : List (S64)), 3)) = some (r1, r2) := by rw [if_neg (show ¬ (false = true) by decide)] at H; exact H
  clear H
  have H := H1
  clear H1
  obtain ⟨rfl, rfl⟩ := SPz H
  go_enter Tryz.func13, Tryz.ntmps13
  go_wp2_with (first | ((with_reducible refine gate_dst (N := 2) rfl ?_); refine box_event ?hg (N := 2) ?hd (cs := #[.slice none 0 0, .int .i64 0]) (t := 30) ?hr ?_; (case hd => rfl); (case hg => rfl); (case hr => first | (go_simp; done) | (go_simp; rfl)); intro gb255 hg w32 hbox hb; have n0_ := Aside0.mk (below_step HBa hb); have n1_ := Aside0.mk (hbox); have n2_ := BSz w hg HBa; have n3_ := BSz w hg HBa; clear HB; have HB := n0_; have BK255 := n1_; have GW255 := n2_; have GE255 := n3_; clear n0_ n1_ n2_ n3_; clear hb hbox hg) | ((with_reducible refine gate_dst (N := 6) rfl ?_); refine Kd.R_lit Kd.string _ 9 ?hg (N := 6) ?hd (xs := ([a0] : List ByteArray)) (inner := [.string a0]) (ok := fun _ => True) (okp := fun _ => True) ?hr ?hp (fun _ hk => hk) trivial (Below.refl _ _) (Nat.le_refl _) (by simp) ?_; (case hd => rfl); (case hg => rfl); (case hr => first | (go_simp; done) | (go_simp; rfl)); (case hp => exact (Reps.one (show Kd.M Kd.string _ _ _ a0 [.string a0] from rfl) (Reps.none _ _))); intro v257 w33 ho34 hb hg_ hnew_; clear hg_ hnew_; (first | rw [← Ny256.out] at ho34 | (simp only [Int.reduceToNat] at ho34; rw [← Ny256.out] at ho34)); have n0_ := Aside0.mk (Kd.R_lower ho34 (below_size (HBb GE255))); have n1_ := BBz BK255 hb; have n2_ := Aside0.mk (below_step (HBb GE255) hb); clear BK255; clear HB; have HO258 := n0_; have BK255 := n1_; have HB := n2_; clear n0_ n1_ n2_; clear hb ho34; obtain ⟨Ao35, co35, eo35⟩ := Kd.R_slice HO258.out; subst eo35) | ((with_reducible refine gate_callee (f := 43) rfl ?_); refine goesL_ (some 7) rfl rfl Tryz.func43 (by kernel_rfl) rfl #[.slice Ao35 y256.length co35] rfl MPz ?_; (with_reducible refine (Gj.calls k _ _ y256 false _ ?side1 ?side2 A2.out).mono ?_); (case side1 => repeat (first | exact (Kd.R_reads' HO258.out).2.2 | (with_reducible refine Kd.C_alloc ?_ _) | (with_reducible refine Kd.C_drewN ?_ _) | (with_reducible refine Kd.C_drew ?_))); (case side2 => exact (Kd.R_reads' HO258.out).2.1); rintro e w' ⟨rfl, ⟨nd, rfl⟩⟩; refine ⟨_, rfl, ?_⟩; (try (rw [drewN_self w33]; generalize hq_ : World.drewN w33 _ = w33; have n0_ : Aside0 (Kd.R Kd.string 9 w33 w.heap.size (fun _ => True) (.slice Ao35 y256.length co35) y256) := ⟨by rw [← hq_]; exact (KRz HO258)⟩; have n1_ : Aside0 (w33.heap[gb255]? = some (.cells #[.slice none 0 0, .int .i64 0] 30 (0, 0))) := ⟨by rw [← hq_]; exact (BKz BK255)⟩; have n2_ : Aside0 (Below w.heap.size w w33) := ⟨by rw [← hq_]; exact (HBb GE255)⟩; clear HO258 BK255 HB hq_; have HO258 := n0_; have BK255 := n1_; have HB := n2_; clear n0_ n1_ n2_))) | ((with_reducible refine gate_callee (f := 44) rfl ?_); refine goesL_ (some 11) rfl rfl Tryz.func44 (by kernel_rfl) rfl #[.string a0, .int .i64 1] rfl MPz ?_; (with_reducible refine (Gn.calls k a0 1 t260 t261 _ A9.out).mono ?_); rintro e w36 ⟨v262, rfl, ho0, hb⟩; refine ⟨_, rfl, ?_⟩; have n0_ := Aside0.mk (Kd.R_below (KRz HO258) hb); have n1_ := Aside0.mk (Kd.R_lower ho0 (below_size (HBb GE255))); have n2_ := BBz BK255 hb; have n3_ := Aside0.mk (below_step (HBb GE255) hb); clear HO258; clear BK255; clear HB; have HO258 := n0_; have HO263 := n1_; have BK255 := n2_; have HB := n3_; clear n0_ n1_ n2_ n3_; (try clear hb); (try clear hb2); (try clear hk); (try clear hi); (try clear ho0); obtain ⟨Ao37, co37, eo37⟩ := Kd.R_slice HO263.out; subst eo37) | ((with_reducible refine gate_callee (f := 18) rfl ?_); refine goesL_ (some 15) rfl rfl Tryz.func18 (by kernel_rfl) rfl #[.slice Ao37 t260.length co37] rfl MPz ?_; (with_reducible refine (Gc.calls k _ _ t260 false _ ?side1 ?side2 A10.out).mono ?_); (case side1 => repeat (first | exact (Kd.R_reads' HO263.out).2.2 | (with_reducible refine Kd.C_alloc ?_ _) | (with_reducible refine Kd.C_drewN ?_ _) | (with_reducible refine Kd.C_drew ?_))); (case side2 => exact (Kd.R_reads' HO263.out).2.1); rintro e w38 ⟨rfl, hb⟩; refine ⟨_, rfl, ?_⟩; have n0_ := Aside0.mk (Kd.R_below (KRz HO258) hb); have n1_ := Aside0.mk (Kd.R_below (KRz HO263) hb); have n2_ := BBz BK255 hb; have n3_ := Aside0.mk (below_step (HBb GE255) hb); clear HO258; clear HO263; clear BK255; clear HB; have HO258 := n0_; have HO263 := n1_; have BK255 := n2_; have HB := n3_; clear n0_ n1_ n2_ n3_; (try clear hb); (try clear hb2); (try clear hk); (try clear hi); have hcz39_0 := C1z BK255; have hcz39_1 := C2z BK255; have hfz39_0 := blk_frozen BK255.out 0; have hfz39_1 := blk_frozen BK255.out 1))
  refine bodyPost_ret (results_cell_row rfl _ _ gb255 30 #[.slice none 0 0, .int .i64 3] (0, 0) _ rfl (by (with_reducible repeat first | apply blk_drewN | apply blk_drew | apply blk_alloc); refine blk_put (cs := #[.slice none 0 0, .int .i64 0]) ?_ 1 _ rfl; (with_reducible repeat first | apply blk_drewN | apply blk_drew | apply blk_alloc); refine blk_put (cs := #[.slice none 0 0, .int .i64 0]) ?_ 0 _ rfl; (with_reducible repeat first | apply blk_drewN | apply blk_drew | apply blk_alloc); exact BK255.out) Tryz.underlying30 rfl (by kernel_rfl)) rfl ?_
  exact ⟨_, EZa, by first | exact Kd.R_nil _ _ _ _ _ | exact Kd.N_nil _ _ _ _ _ | exact Kd.V_nil _ _ _ _ _ | exact Kd.Q_nil _ _ _ _ _ | exact Kd.S_nil _ _ _ _ _, HBb GE255⟩
 subst c11
 have H1 : ((Gd.f k t260).bind fun t265 => (if t265.toList = a0.toList then (some (t260, 0)) else (some (([] : List (S64)), 3)))) = some (r1, r2) := by rw [if_pos rfl] at H; exact H
 clear H
 have H := H1
 clear H1
 replace H := Option.bind_eq_some_iff.mp H
 obtain ⟨t265, A120, H⟩ := H
 replace H : (if t265.toList = a0.toList then (some (t260, 0)) else (some (([] : List (S64)), 3))) = some (r1, r2) := H
 have A12 := Aside0.mk A120
 clear A120
 by_cases c13 : t265.toList = a0.toList
 ·rw [if_pos c13] at H
  obtain ⟨c13b0, c13b1⟩ := QTz c13
  clear c13
  obtain ⟨rfl, rfl⟩ := SPz H
  go_enter Tryz.func13, Tryz.ntmps13
  go_wp2_with (first | ((with_reducible refine gate_dst (N := 2) rfl ?_); refine box_event ?hg (N := 2) ?hd (cs := #[.slice none 0 0, .int .i64 0]) (t := 30) ?hr ?_; (case hd => rfl); (case hg => rfl); (case hr => first | (go_simp; done) | (go_simp; rfl)); intro gb255 hg w14 hbox hb; have n0_ := Aside0.mk (below_step HBa hb); have n1_ := Aside0.mk (hbox); have n2_ := BSz w hg HBa; have n3_ := BSz w hg HBa; clear HB; have HB := n0_; have BK255 := n1_; have GW255 := n2_; have GE255 := n3_; clear n0_ n1_ n2_ n3_; clear hb hbox hg) | ((with_reducible refine gate_dst (N := 6) rfl ?_); refine Kd.R_lit Kd.string _ 9 ?hg (N := 6) ?hd (xs := ([a0] : List ByteArray)) (inner := [.string a0]) (ok := fun _ => True) (okp := fun _ => True) ?hr ?hp (fun _ hk => hk) trivial (Below.refl _ _) (Nat.le_refl _) (by simp) ?_; (case hd => rfl); (case hg => rfl); (case hr => first | (go_simp; done) | (go_simp; rfl)); (case hp => exact (Reps.one (show Kd.M Kd.string _ _ _ a0 [.string a0] from rfl) (Reps.none _ _))); intro v257 w15 ho16 hb hg_ hnew_; clear hg_ hnew_; (first | rw [← Ny256.out] at ho16 | (simp only [Int.reduceToNat] at ho16; rw [← Ny256.out] at ho16)); have n0_ := Aside0.mk (Kd.R_lower ho16 (below_size (HBb GE255))); have n1_ := BBz BK255 hb; have n2_ := Aside0.mk (below_step (HBb GE255) hb); clear BK255; clear HB; have HO258 := n0_; have BK255 := n1_; have HB := n2_; clear n0_ n1_ n2_; clear hb ho16; obtain ⟨Ao17, co17, eo17⟩ := Kd.R_slice HO258.out; subst eo17) | ((with_reducible refine gate_callee (f := 43) rfl ?_); refine goesL_ (some 7) rfl rfl Tryz.func43 (by kernel_rfl) rfl #[.slice Ao17 y256.length co17] rfl MPz ?_; (with_reducible refine (Gj.calls k _ _ y256 false _ ?side1 ?side2 A2.out).mono ?_); (case side1 => repeat (first | exact (Kd.R_reads' HO258.out).2.2 | (with_reducible refine Kd.C_alloc ?_ _) | (with_reducible refine Kd.C_drewN ?_ _) | (with_reducible refine Kd.C_drew ?_))); (case side2 => exact (Kd.R_reads' HO258.out).2.1); rintro e w' ⟨rfl, ⟨nd, rfl⟩⟩; refine ⟨_, rfl, ?_⟩; (try (rw [drewN_self w15]; generalize hq_ : World.drewN w15 _ = w15; have n0_ : Aside0 (Kd.R Kd.string 9 w15 w.heap.size (fun _ => True) (.slice Ao17 y256.length co17) y256) := ⟨by rw [← hq_]; exact (KRz HO258)⟩; have n1_ : Aside0 (w15.heap[gb255]? = some (.cells #[.slice none 0 0, .int .i64 0] 30 (0, 0))) := ⟨by rw [← hq_]; exact (BKz BK255)⟩; have n2_ : Aside0 (Below w.heap.size w w15) := ⟨by rw [← hq_]; exact (HBb GE255)⟩; clear HO258 BK255 HB hq_; have HO258 := n0_; have BK255 := n1_; have HB := n2_; clear n0_ n1_ n2_))) | ((with_reducible refine gate_callee (f := 44) rfl ?_); refine goesL_ (some 11) rfl rfl Tryz.func44 (by kernel_rfl) rfl #[.string a0, .int .i64 1] rfl MPz ?_; (with_reducible refine (Gn.calls k a0 1 t260 t261 _ A9.out).mono ?_); rintro e w18 ⟨v262, rfl, ho0, hb⟩; refine ⟨_, rfl, ?_⟩; have n0_ := Aside0.mk (Kd.R_below (KRz HO258) hb); have n1_ := Aside0.mk (Kd.R_lower ho0 (below_size (HBb GE255))); have n2_ := BBz BK255 hb; have n3_ := Aside0.mk (below_step (HBb GE255) hb); clear HO258; clear BK255; clear HB; have HO258 := n0_; have HO263 := n1_; have BK255 := n2_; have HB := n3_; clear n0_ n1_ n2_ n3_; (try clear hb); (try clear hb2); (try clear hk); (try clear hi); (try clear ho0); obtain ⟨Ao19, co19, eo19⟩ := Kd.R_slice HO263.out; subst eo19) | ((with_reducible refine gate_callee (f := 18) rfl ?_); refine goesL_ (some 15) rfl rfl Tryz.func18 (by kernel_rfl) rfl #[.slice Ao19 t260.length co19] rfl MPz ?_; (with_reducible refine (Gc.calls k _ _ t260 true _ ?side1 ?side2 A10.out).mono ?_); (case side1 => repeat (first | exact (Kd.R_reads' HO263.out).2.2 | (with_reducible refine Kd.C_alloc ?_ _) | (with_reducible refine Kd.C_drewN ?_ _) | (with_reducible refine Kd.C_drew ?_))); (case side2 => exact (Kd.R_reads' HO263.out).2.1); rintro e w20 ⟨rfl, hb⟩; refine ⟨_, rfl, ?_⟩; have n0_ := Aside0.mk (Kd.R_below (KRz HO258) hb); have n1_ := Aside0.mk (Kd.R_below (KRz HO263) hb); have n2_ := BBz BK255 hb; have n3_ := Aside0.mk (below_step (HBb GE255) hb); clear HO258; clear HO263; clear BK255; clear HB; have HO258 := n0_; have HO263 := n1_; have BK255 := n2_; have HB := n3_; clear n0_ n1_ n2_ n3_; (try clear hb); (try clear hb2); (try clear hk); (try clear hi)) | (go_at_call 10; (with_reducible refine (Gd.calls k _ _ t260 t265 _ ?side1 ?side2 A12.out).mono ?_); (case side1 => repeat (first | exact (Kd.R_reads' HO263.out).2.2 | (with_reducible refine Kd.C_alloc ?_ _) | (with_reducible refine Kd.C_drewN ?_ _) | (with_reducible refine Kd.C_drew ?_))); (case side2 => exact (Kd.R_reads' HO263.out).2.1); rintro e w21 ⟨rfl, hb⟩; have n0_ := Aside0.mk (Kd.R_below (KRz HO258) hb); have n1_ := Aside0.mk (Kd.R_below (KRz HO263) hb); have n2_ := BBz BK255 hb; have n3_ := Aside0.mk (below_step (HBb GE255) hb); clear HO258; clear HO263; clear BK255; clear HB; have HO258 := n0_; have HO263 := n1_; have BK255 := n2_; have HB := n3_; clear n0_ n1_ n2_ n3_; (try clear hb); (try clear hb2); (try clear hk); (try clear hi); have hcz22_0 := C1z BK255; have hcz22_1 := C2z BK255; have hfz22_0 := blk_frozen BK255.out 0; have hfz22_1 := blk_frozen BK255.out 1))
  refine bodyPost_ret (results_cell_row rfl _ _ gb255 30 #[.slice Ao19 t260.length co19, .int .i64 0] (0, 0) _ rfl (by (with_reducible repeat first | apply blk_drewN | apply blk_drew | apply blk_alloc); refine blk_put (cs := #[.slice Ao19 t260.length co19, .int .i64 0]) ?_ 1 _ rfl; (with_reducible repeat first | apply blk_drewN | apply blk_drew | apply blk_alloc); refine blk_put (cs := #[.slice none 0 0, .int .i64 0]) ?_ 0 _ rfl; (with_reducible repeat first | apply blk_drewN | apply blk_drew | apply blk_alloc); exact BK255.out) Tryz.underlying30 rfl (by kernel_rfl)) rfl ?_
  exact ⟨_, EZa, by (with_reducible repeat (first | apply Kd.R_alloc | apply Kd.R_drewN | apply Kd.R_drew)); exact Kd.R_mono (Kd.R_far (p := ⟨gb255, 1, none⟩) (Kd.R_far (p := ⟨gb255, 0, none⟩) (Kd.R_types HO263.out BK255.out (by decide)) (fun _ hk => hk.2) (.slice Ao19 t260.length co19)) (fun _ hk => hk.2) (.int .i64 0)) (fun _ hk => trivial), HBb GE255⟩
 rw [if_neg c13] at H
 obtain ⟨c13b0, c13b1⟩ := QFz c13
 obtain ⟨rfl, rfl⟩ := SPz H
 go_enter Tryz.func13, Tryz.ntmps13
 go_wp2_with (first | ((with_reducible refine gate_dst (N := 2) rfl ?_); refine box_event ?hg (N := 2) ?hd (cs := #[.slice none 0 0, .int .i64 0]) (t := 30) ?hr ?_; (case hd => rfl); (case hg => rfl); (case hr => first | (go_simp; done) | (go_simp; rfl)); intro gb255 hg w23 hbox hb; have n0_ := Aside0.mk (below_step HBa hb); have n1_ := Aside0.mk (hbox); have n2_ := BSz w hg HBa; have n3_ := BSz w hg HBa; clear HB; have HB := n0_; have BK255 := n1_; have GW255 := n2_; have GE255 := n3_; clear n0_ n1_ n2_ n3_; clear hb hbox hg) | ((with_reducible refine gate_dst (N := 6) rfl ?_); refine Kd.R_lit Kd.string _ 9 ?hg (N := 6) ?hd (xs := ([a0] : List ByteArray)) (inner := [.string a0]) (ok := fun _ => True) (okp := fun _ => True) ?hr ?hp (fun _ hk => hk) trivial (Below.refl _ _) (Nat.le_refl _) (by simp) ?_; (case hd => rfl); (case hg => rfl); (case hr => first | (go_simp; done) | (go_simp; rfl)); (case hp => exact (Reps.one (show Kd.M Kd.string _ _ _ a0 [.string a0] from rfl) (Reps.none _ _))); intro v257 w24 ho25 hb hg_ hnew_; clear hg_ hnew_; (first | rw [← Ny256.out] at ho25 | (simp only [Int.reduceToNat] at ho25; rw [← Ny256.out] at ho25)); have n0_ := Aside0.mk (Kd.R_lower ho25 (below_size (HBb GE255))); have n1_ := BBz BK255 hb; have n2_ := Aside0.mk (below_step (HBb GE255) hb); clear BK255; clear HB; have HO258 := n0_; have BK255 := n1_; have HB := n2_; clear n0_ n1_ n2_; clear hb ho25; obtain ⟨Ao26, co26, eo26⟩ := Kd.R_slice HO258.out; subst eo26) | ((with_reducible refine gate_callee (f := 43) rfl ?_); refine goesL_ (some 7) rfl rfl Tryz.func43 (by kernel_rfl) rfl #[.slice Ao26 y256.length co26] rfl MPz ?_; (with_reducible refine (Gj.calls k _ _ y256 false _ ?side1 ?side2 A2.out).mono ?_); (case side1 => repeat (first | exact (Kd.R_reads' HO258.out).2.2 | (with_reducible refine Kd.C_alloc ?_ _) | (with_reducible refine Kd.C_drewN ?_ _) | (with_reducible refine Kd.C_drew ?_))); (case side2 => exact (Kd.R_reads' HO258.out).2.1); rintro e w' ⟨rfl, ⟨nd, rfl⟩⟩; refine ⟨_, rfl, ?_⟩; (try (rw [drewN_self w24]; generalize hq_ : World.drewN w24 _ = w24; have n0_ : Aside0 (Kd.R Kd.string 9 w24 w.heap.size (fun _ => True) (.slice Ao26 y256.length co26) y256) := ⟨by rw [← hq_]; exact (KRz HO258)⟩; have n1_ : Aside0 (w24.heap[gb255]? = some (.cells #[.slice none 0 0, .int .i64 0] 30 (0, 0))) := ⟨by rw [← hq_]; exact (BKz BK255)⟩; have n2_ : Aside0 (Below w.heap.size w w24) := ⟨by rw [← hq_]; exact (HBb GE255)⟩; clear HO258 BK255 HB hq_; have HO258 := n0_; have BK255 := n1_; have HB := n2_; clear n0_ n1_ n2_))) | ((with_reducible refine gate_callee (f := 44) rfl ?_); refine goesL_ (some 11) rfl rfl Tryz.func44 (by kernel_rfl) rfl #[.string a0, .int .i64 1] rfl MPz ?_; (with_reducible refine (Gn.calls k a0 1 t260 t261 _ A9.out).mono ?_); rintro e w27 ⟨v262, rfl, ho0, hb⟩; refine ⟨_, rfl, ?_⟩; have n0_ := Aside0.mk (Kd.R_below (KRz HO258) hb); have n1_ := Aside0.mk (Kd.R_lower ho0 (below_size (HBb GE255))); have n2_ := BBz BK255 hb; have n3_ := Aside0.mk (below_step (HBb GE255) hb); clear HO258; clear BK255; clear HB; have HO258 := n0_; have HO263 := n1_; have BK255 := n2_; have HB := n3_; clear n0_ n1_ n2_ n3_; (try clear hb); (try clear hb2); (try clear hk); (try clear hi); (try clear ho0); obtain ⟨Ao28, co28, eo28⟩ := Kd.R_slice HO263.out; subst eo28) | ((with_reducible refine gate_callee (f := 18) rfl ?_); refine goesL_ (some 15) rfl rfl Tryz.func18 (by kernel_rfl) rfl #[.slice Ao28 t260.length co28] rfl MPz ?_; (with_reducible refine (Gc.calls k _ _ t260 true _ ?side1 ?side2 A10.out).mono ?_); (case side1 => repeat (first | exact (Kd.R_reads' HO263.out).2.2 | (with_reducible refine Kd.C_alloc ?_ _) | (with_reducible refine Kd.C_drewN ?_ _) | (with_reducible refine Kd.C_drew ?_))); (case side2 => exact (Kd.R_reads' HO263.out).2.1); rintro e w29 ⟨rfl, hb⟩; refine ⟨_, rfl, ?_⟩; have n0_ := Aside0.mk (Kd.R_below (KRz HO258) hb); have n1_ := Aside0.mk (Kd.R_below (KRz HO263) hb); have n2_ := BBz BK255 hb; have n3_ := Aside0.mk (below_step (HBb GE255) hb); clear HO258; clear HO263; clear BK255; clear HB; have HO258 := n0_; have HO263 := n1_; have BK255 := n2_; have HB := n3_; clear n0_ n1_ n2_ n3_; (try clear hb); (try clear hb2); (try clear hk); (try clear hi)) | (go_at_call 10; (with_reducible refine (Gd.calls k _ _ t260 t265 _ ?side1 ?side2 A12.out).mono ?_); (case side1 => repeat (first | exact (Kd.R_reads' HO263.out).2.2 | (with_reducible refine Kd.C_alloc ?_ _) | (with_reducible refine Kd.C_drewN ?_ _) | (with_reducible refine Kd.C_drew ?_))); (case side2 => exact (Kd.R_reads' HO263.out).2.1); rintro e w30 ⟨rfl, hb⟩; have n0_ := Aside0.mk (Kd.R_below (KRz HO258) hb); have n1_ := Aside0.mk (Kd.R_below (KRz HO263) hb); have n2_ := BBz BK255 hb; have n3_ := Aside0.mk (below_step (HBb GE255) hb); clear HO258; clear HO263; clear BK255; clear HB; have HO258 := n0_; have HO263 := n1_; have BK255 := n2_; have HB := n3_; clear n0_ n1_ n2_ n3_; (try clear hb); (try clear hb2); (try clear hk); (try clear hi); have hcz31_0 := C1z BK255; have hcz31_1 := C2z BK255; have hfz31_0 := blk_frozen BK255.out 0; have hfz31_1 := blk_frozen BK255.out 1))
 refine bodyPost_ret (results_cell_row rfl _ _ gb255 30 #[.slice none 0 0, .int .i64 3] (0, 0) _ rfl (by (with_reducible repeat first | apply blk_drewN | apply blk_drew | apply blk_alloc); refine blk_put (cs := #[.slice none 0 0, .int .i64 0]) ?_ 1 _ rfl; (with_reducible repeat first | apply blk_drewN | apply blk_drew | apply blk_alloc); refine blk_put (cs := #[.slice none 0 0, .int .i64 0]) ?_ 0 _ rfl; (with_reducible repeat first | apply blk_drewN | apply blk_drew | apply blk_alloc); exact BK255.out) Tryz.underlying30 rfl (by kernel_rfl)) rfl ?_
 exact ⟨_, EZa, by first | exact Kd.R_nil _ _ _ _ _ | exact Kd.N_nil _ _ _ _ _ | exact Kd.V_nil _ _ _ _ _ | exact Kd.Q_nil _ _ _ _ _ | exact Kd.S_nil _ _ _ _ _, HBb GE255⟩
end Go.Proofs.YtmkeigielncpjaaGreatDoor.PFnFilter
