-- Laid by this session's own program out of the translation; Lean checks it.
import Derived.Test.YtdlbcamnimdfjaaQFnSealx0
import Derived.Test.YtdlbcamnimdfjaaQFnSealx1
import Derived.Test.YtdlbcamnimdfjaaQFnSealx2
import Derived.Lib.ConvBytes
namespace Go.Proofs.Ytdlbcamnimdfjaa.PFnSeal
open Go.RowKit Go.Proofs.YtdlbcamnimdfjaaW.PrintWords Go.Proofs.YtdlbcamnimdfjaaW.PrintLast Go.Proofs.YtdlbcamnimdfjaaW.PrintMore
attribute [local go_sem] max2_int min2_int max_two min_two max_three min_three max_four min_four   -- for this text's walks alone
set_option linter.unusedVariables false
set_option linter.unusedSimpArgs false
def spec_Crc.f (k : Nat) (a0 : ByteArray) : Option (Int) := if (a0.size : Int) > 8000 then (some 0) else ((spec_l01Crc.f k 0 a0).bind fun t169 => (some t169))
theorem spec_Crc.mono : ∀ a0 k, LeO (spec_Crc.f k a0) (spec_Crc.f (k + 1) a0) := by
 intro a0 k
 unfold spec_Crc.f
 repeat' first
   | (with_reducible exact spec_l01Crc.mono _ _ _)
   | (with_reducible exact LeO.refl _)
   | (with_reducible exact LeO.none _)
   | (with_reducible refine LeO.ite ?_ ?_)
   | (with_reducible refine LeO.bind ?_ (fun _ => ?_))
   | exact spec_l01Crc.mono _ _ _
   | exact LeO.none _
   | refine LeO.ite ?_ ?_
   | refine LeO.bind ?_ (fun _ => ?_)
set_option maxHeartbeats 8000000 in
set_option maxRecDepth 100000 in
theorem spec_Crc.calls (k : Nat) (a0 : ByteArray) (r : Int) (w : World) (h : spec_Crc.f k a0 = some r) :
  Calls Try.prog 22 #[.string a0] w fun e w' => e = .returned (.int .i64 r) ∧ Drawn0 w w' := by
 have H : (if (a0.size : Int) > 8000 then (some 0) else ((spec_l01Crc.f k 0 a0).bind fun t169 => (some t169))) = some r := h
 clear h
 by_cases c2 : (a0.size : Int) > 8000
 ·rw [if_pos c2] at H
  have c2b0 : decide (8000 < (a0.size : Int)) = true := decide_eq_true c2
  have c2b1 : decide (8000 < a0.size) = true := decide_eq_true (by omega)
  clear c2
  obtain rfl := Option.some.inj H
  go_enter Try.func22, Try.ntmps22
  go_wp2
  go_ret
  exact ⟨EZb, DRz⟩
 ·rw [if_neg c2] at H
  have c2b0 : decide (8000 < (a0.size : Int)) = false := decide_eq_false c2
  have c2b1 : decide (8000 < a0.size) = false := decide_eq_false (by omega)
  clear c2
  replace H := Option.bind_eq_some_iff.mp H
  obtain ⟨t169, A30, H⟩ := H
  replace H : (some t169) = some r := H
  have A3 := Aside0.mk A30
  clear A30
  obtain rfl := Option.some.inj H
  go_enter Try.func22, Try.ntmps22
  go_wp2_with (first | ((with_reducible refine gate_callee (f := 19) rfl ?_); refine goesL_ (some 7) rfl rfl Try.func19 (by kernel_rfl) rfl #[.int .i64 0, .string a0] rfl MPz ?_; (with_reducible refine (spec_l01Crc.calls k 0 a0 t169 _ A3.out).mono ?_); rintro e w' ⟨rfl, ⟨nd, rfl⟩⟩; refine ⟨_, rfl, ?_⟩))
  go_ret
  exact ⟨EZb, DRz⟩
def spec_DrawCrcMore.f (k : Nat) (l0 : List Int) : Option (Int × ByteArray) := (spec_l01Source.f k l0).bind fun bt170 => ((spec_l01Src_n.f bt170.1 bt170.2.1 bt170.2.2.1 bt170.2.2.2 9).bind fun bt175 => ((spec_l01Src_bytes.f k bt170.1 bt175.2.1 bt175.2.2.1 bt175.2.2.2 bt175.1).bind fun bt179 => ((spec_l01Src_one.f bt170.1 bt179.2.1 bt179.2.2.1 bt179.2.2.2 5).bind fun bt183 => (if bt183.1 = true then ((spec_l01Src_edge.f bt170.1 bt183.2.1 bt183.2.2.1 bt183.2.2.2).bind fun bt187 => (some (bt187.1, bt179.1))) else ((spec_l01Src_n.f bt170.1 bt183.2.1 bt183.2.2.1 bt183.2.2.2 9).bind fun bt191 => ((spec_l01Src_bytes.f k bt170.1 bt191.2.1 bt191.2.2.1 bt191.2.2.2 bt191.1).bind fun bt195 => ((spec_Crc.f k bt195.1).bind fun t199 => (some (t199, bt179.1)))))))))
theorem spec_DrawCrcMore.mono : ∀ a0 k, LeO (spec_DrawCrcMore.f k a0) (spec_DrawCrcMore.f (k + 1) a0) := by
 intro a0 k
 unfold spec_DrawCrcMore.f
 repeat' first
   | (with_reducible exact spec_Crc.mono _ _)
   | (with_reducible exact spec_l01Source.mono _ _)
   | (with_reducible exact spec_l01Src_bytes.mono _ _ _ _ _ _)
   | (with_reducible exact LeO.refl _)
   | (with_reducible exact LeO.none _)
   | (with_reducible refine LeO.ite ?_ ?_)
   | (with_reducible refine LeO.bind ?_ (fun _ => ?_))
   | exact spec_Crc.mono _ _
   | exact spec_l01Source.mono _ _
   | exact spec_l01Src_bytes.mono _ _ _ _ _ _
   | exact LeO.none _
   | refine LeO.ite ?_ ?_
   | refine LeO.bind ?_ (fun _ => ?_)
set_option maxHeartbeats 8000000 in
set_option maxRecDepth 100000 in
theorem spec_DrawCrcMore.calls (k : Nat) (A0 : Option Addr) (c0 : Nat) (l0 : List Int) (r1 : Int) (r2 : ByteArray) (w : World) (hr0 : Kd.C (Kd.int .u8) w A0 l0.length l0) (hc0 : l0.length ≤ c0) (h : spec_DrawCrcMore.f k l0 = some (r1, r2)) :
  Calls Try.prog 9 #[.slice A0 l0.length c0] w fun e w' => e = .returned (.tuple #[.int .i64 r1, .string r2]) ∧ Below w.heap.size w w' := by
 have HR0 := Aside0.mk hr0
 have HC0 := Aside0.mk hc0
 clear hr0 hc0
 have HB := Aside0.mk (Below.refl w.heap.size w)
 have H : ((spec_l01Source.f k l0).bind fun bt170 => ((spec_l01Src_n.f bt170.1 bt170.2.1 bt170.2.2.1 bt170.2.2.2 9).bind fun bt175 => ((spec_l01Src_bytes.f k bt170.1 bt175.2.1 bt175.2.2.1 bt175.2.2.2 bt175.1).bind fun bt179 => ((spec_l01Src_one.f bt170.1 bt179.2.1 bt179.2.2.1 bt179.2.2.2 5).bind fun bt183 => (if bt183.1 = true then ((spec_l01Src_edge.f bt170.1 bt183.2.1 bt183.2.2.1 bt183.2.2.2).bind fun bt187 => (some (bt187.1, bt179.1))) else ((spec_l01Src_n.f bt170.1 bt183.2.1 bt183.2.2.1 bt183.2.2.2 9).bind fun bt191 => ((spec_l01Src_bytes.f k bt170.1 bt191.2.1 bt191.2.2.1 bt191.2.2.2 bt191.1).bind fun bt195 => ((spec_Crc.f k bt195.1).bind fun t199 => (some (t199, bt179.1)))))))))) = some (r1, r2) := h
 clear h
 replace H := Option.bind_eq_some_iff.mp H
 obtain ⟨⟨t170, t171, t172, t173⟩, A20, H⟩ := H
 replace H : ((spec_l01Src_n.f t170 t171 t172 t173 9).bind fun bt175 => ((spec_l01Src_bytes.f k t170 bt175.2.1 bt175.2.2.1 bt175.2.2.2 bt175.1).bind fun bt179 => ((spec_l01Src_one.f t170 bt179.2.1 bt179.2.2.1 bt179.2.2.2 5).bind fun bt183 => (if bt183.1 = true then ((spec_l01Src_edge.f t170 bt183.2.1 bt183.2.2.1 bt183.2.2.2).bind fun bt187 => (some (bt187.1, bt179.1))) else ((spec_l01Src_n.f t170 bt183.2.1 bt183.2.2.1 bt183.2.2.2 9).bind fun bt191 => ((spec_l01Src_bytes.f k t170 bt191.2.1 bt191.2.2.1 bt191.2.2.2 bt191.1).bind fun bt195 => ((spec_Crc.f k bt195.1).bind fun t199 => (some (t199, bt179.1))))))))) = some (r1, r2) := H
 have A2 := Aside0.mk A20
 clear A20
 replace H := Option.bind_eq_some_iff.mp H
 obtain ⟨⟨t175, t176, t177, t178⟩, A30, H⟩ := H
 replace H : ((spec_l01Src_bytes.f k t170 t176 t177 t178 t175).bind fun bt179 => ((spec_l01Src_one.f t170 bt179.2.1 bt179.2.2.1 bt179.2.2.2 5).bind fun bt183 => (if bt183.1 = true then ((spec_l01Src_edge.f t170 bt183.2.1 bt183.2.2.1 bt183.2.2.2).bind fun bt187 => (some (bt187.1, bt179.1))) else ((spec_l01Src_n.f t170 bt183.2.1 bt183.2.2.1 bt183.2.2.2 9).bind fun bt191 => ((spec_l01Src_bytes.f k t170 bt191.2.1 bt191.2.2.1 bt191.2.2.2 bt191.1).bind fun bt195 => ((spec_Crc.f k bt195.1).bind fun t199 => (some (t199, bt179.1)))))))) = some (r1, r2) := H
 have A3 := Aside0.mk A30
 clear A30
 replace H := Option.bind_eq_some_iff.mp H
 obtain ⟨⟨t179, t180, t181, t182⟩, A40, H⟩ := H
 replace H : ((spec_l01Src_one.f t170 t180 t181 t182 5).bind fun bt183 => (if bt183.1 = true then ((spec_l01Src_edge.f t170 bt183.2.1 bt183.2.2.1 bt183.2.2.2).bind fun bt187 => (some (bt187.1, t179))) else ((spec_l01Src_n.f t170 bt183.2.1 bt183.2.2.1 bt183.2.2.2 9).bind fun bt191 => ((spec_l01Src_bytes.f k t170 bt191.2.1 bt191.2.2.1 bt191.2.2.2 bt191.1).bind fun bt195 => ((spec_Crc.f k bt195.1).bind fun t199 => (some (t199, t179))))))) = some (r1, r2) := H
 have A4 := Aside0.mk A40
 clear A40
 replace H := Option.bind_eq_some_iff.mp H
 obtain ⟨⟨t183, t184, t185, t186⟩, A50, H⟩ := H
 replace H : (if t183 = true then ((spec_l01Src_edge.f t170 t184 t185 t186).bind fun bt187 => (some (bt187.1, t179))) else ((spec_l01Src_n.f t170 t184 t185 t186 9).bind fun bt191 => ((spec_l01Src_bytes.f k t170 bt191.2.1 bt191.2.2.1 bt191.2.2.2 bt191.1).bind fun bt195 => ((spec_Crc.f k bt195.1).bind fun t199 => (some (t199, t179)))))) = some (r1, r2) := H
 have A5 := Aside0.mk A50
 clear A50
 by_cases c6 : t183 = true
 ·subst c6
  have H1 : ((spec_l01Src_edge.f t170 t184 t185 t186).bind fun bt187 => (some (bt187.1, t179))) = some (r1, r2) := by rw [if_pos rfl] at H; exact H
  clear H
  have H := H1
  clear H1
  replace H := Option.bind_eq_some_iff.mp H
  obtain ⟨⟨t187, t188, t189, t190⟩, A70, H⟩ := H
  replace H : (some (t187, t179)) = some (r1, r2) := H
  have A7 := Aside0.mk A70
  clear A70
  simp only [Option.some.injEq, Prod.mk.injEq] at H
  obtain ⟨rfl, rfl⟩ := H
  go_enter Try.func9, Try.ntmps9
  go_wp2_with (first | ((with_reducible refine gate_callee (f := 13) rfl ?_); refine goesL_ (some 7) rfl rfl Try.func13 (by kernel_rfl) rfl #[.slice A0 l0.length c0] rfl MPz ?_; (with_reducible refine (spec_l01Source.calls k _ _ l0 t170 t171 t172 t173 w _ ?side1 ?side2 ?side3 A2.out).mono ?_); (case side1 => repeat (first | (with_reducible first | exact HB.out | apply below_alloc | apply pw_below_drewN | apply below_drew1) | exact HB.out)); (case side2 => exact HR0.out); (case side3 => exact HC0.out); rintro e w8 ⟨g174, rfl, hi, hb, hb2⟩; refine ⟨_, rfl, ?_⟩; have n0_ := Aside0.mk (hb); have n1_ := Aside0.mk (hi); clear HB; have HB := n0_; have HI174 := n1_; clear n0_ n1_; (try clear hb); (try clear hb2); (try clear hk); (try clear hi)) | ((with_reducible refine gate_callee (f := 15) rfl ?_); refine goesL_ (some 10) rfl rfl Try.func15 (by kernel_rfl) rfl #[.pointer (some ⟨g174, 0, none⟩), .int .i64 9] rfl MPz ?_; (with_reducible refine (spec_l01Src_n.calls g174 t170 t171 t172 t173 9 t175 t176 t177 t178 w _ ?side1 ?side2 A3.out).mono ?_); (case side1 => repeat (first | (with_reducible first | exact HI174.out | apply IsS47.alloc | apply IsS47.drewN | apply IsS47.drew | apply IsS47.set_1 | apply IsS47.set_2 | apply IsS47.set_3) | exact HI174.out)); (case side2 => repeat (first | (with_reducible first | exact HB.out | apply below_alloc | apply pw_below_drewN | apply below_drew1 | refine below_set ?_ (IsS47.ge HI174.out)) | exact HB.out)); rintro e w9 ⟨rfl, hi, hb, hk⟩; refine ⟨_, rfl, ?_⟩; have n0_ := Aside0.mk (hb); have n1_ := Aside0.mk (hi); clear HB; clear HI174; have HB := n0_; have HI174 := n1_; clear n0_ n1_; (try clear hb); (try clear hb2); (try clear hk); (try clear hi)) | ((with_reducible refine gate_callee (f := 16) rfl ?_); refine goesL_ (some 11) rfl rfl Try.func16 (by kernel_rfl) rfl #[.pointer (some ⟨g174, 0, none⟩), .int .i64 t175] rfl MPz ?_; (with_reducible refine (spec_l01Src_bytes.calls k g174 t170 t176 t177 t178 t175 t179 t180 t181 t182 w _ ?side1 ?side2 A4.out).mono ?_); (case side1 => repeat (first | (with_reducible first | exact HI174.out | apply IsS47.alloc | apply IsS47.drewN | apply IsS47.drew | apply IsS47.set_1 | apply IsS47.set_2 | apply IsS47.set_3) | exact HI174.out)); (case side2 => repeat (first | (with_reducible first | exact HB.out | apply below_alloc | apply pw_below_drewN | apply below_drew1 | refine below_set ?_ (IsS47.ge HI174.out)) | exact HB.out)); rintro e w10 ⟨rfl, hi, hb, hk⟩; refine ⟨_, rfl, ?_⟩; have n0_ := Aside0.mk (hb); have n1_ := Aside0.mk (hi); clear HB; clear HI174; have HB := n0_; have HI174 := n1_; clear n0_ n1_; (try clear hb); (try clear hb2); (try clear hk); (try clear hi)) | ((with_reducible refine gate_callee (f := 14) rfl ?_); refine goesL_ (some 13) rfl rfl Try.func14 (by kernel_rfl) rfl #[.pointer (some ⟨g174, 0, none⟩), .int .i64 5] rfl MPz ?_; (with_reducible refine (spec_l01Src_one.calls g174 t170 t180 t181 t182 5 true t184 t185 t186 w _ ?side1 ?side2 A5.out).mono ?_); (case side1 => repeat (first | (with_reducible first | exact HI174.out | apply IsS47.alloc | apply IsS47.drewN | apply IsS47.drew | apply IsS47.set_1 | apply IsS47.set_2 | apply IsS47.set_3) | exact HI174.out)); (case side2 => repeat (first | (with_reducible first | exact HB.out | apply below_alloc | apply pw_below_drewN | apply below_drew1 | refine below_set ?_ (IsS47.ge HI174.out)) | exact HB.out)); rintro e w11 ⟨rfl, hi, hb, hk⟩; refine ⟨_, rfl, ?_⟩; have n0_ := Aside0.mk (hb); have n1_ := Aside0.mk (hi); clear HB; clear HI174; have HB := n0_; have HI174 := n1_; clear n0_ n1_; (try clear hb); (try clear hb2); (try clear hk); (try clear hi)) | ((with_reducible refine gate_callee (f := 21) rfl ?_); refine goesL_ (some 15) rfl rfl Try.func21 (by kernel_rfl) rfl #[.pointer (some ⟨g174, 0, none⟩)] rfl MPz ?_; (with_reducible refine (spec_l01Src_edge.calls g174 t170 t184 t185 t186 t187 t188 t189 t190 w _ ?side1 ?side2 A7.out).mono ?_); (case side1 => repeat (first | (with_reducible first | exact HI174.out | apply IsS47.alloc | apply IsS47.drewN | apply IsS47.drew | apply IsS47.set_1 | apply IsS47.set_2 | apply IsS47.set_3) | exact HI174.out)); (case side2 => repeat (first | (with_reducible first | exact HB.out | apply below_alloc | apply pw_below_drewN | apply below_drew1 | refine below_set ?_ (IsS47.ge HI174.out)) | exact HB.out)); rintro e w12 ⟨rfl, hi, hb, hk⟩; refine ⟨_, rfl, ?_⟩; have n0_ := Aside0.mk (hb); have n1_ := Aside0.mk (hi); clear HB; clear HI174; have HB := n0_; have HI174 := n1_; clear n0_ n1_; (try clear hb); (try clear hb2); (try clear hk); (try clear hi)))
  go_ret2
  exact ⟨EZa, by repeat (first | (with_reducible first | exact HB.out | apply below_alloc | apply pw_below_drewN | apply below_drew1 | refine below_set ?_ (IsS47.ge HI174.out)) | exact HB.out)⟩
 ·replace c6 := Bool.eq_false_iff.mpr c6
  subst c6
  have H1 : ((spec_l01Src_n.f t170 t184 t185 t186 9).bind fun bt191 => ((spec_l01Src_bytes.f k t170 bt191.2.1 bt191.2.2.1 bt191.2.2.2 bt191.1).bind fun bt195 => ((spec_Crc.f k bt195.1).bind fun t199 => (some (t199, t179))))) = some (r1, r2) := by rw [if_neg (show ¬ (false = true) by decide)] at H; exact H
  clear H
  have H := H1
  clear H1
  replace H := Option.bind_eq_some_iff.mp H
  obtain ⟨⟨t191, t192, t193, t194⟩, A130, H⟩ := H
  replace H : ((spec_l01Src_bytes.f k t170 t192 t193 t194 t191).bind fun bt195 => ((spec_Crc.f k bt195.1).bind fun t199 => (some (t199, t179)))) = some (r1, r2) := H
  have A13 := Aside0.mk A130
  clear A130
  replace H := Option.bind_eq_some_iff.mp H
  obtain ⟨⟨t195, t196, t197, t198⟩, A140, H⟩ := H
  replace H : ((spec_Crc.f k t195).bind fun t199 => (some (t199, t179))) = some (r1, r2) := H
  have A14 := Aside0.mk A140
  clear A140
  replace H := Option.bind_eq_some_iff.mp H
  obtain ⟨t199, A150, H⟩ := H
  replace H : (some (t199, t179)) = some (r1, r2) := H
  have A15 := Aside0.mk A150
  clear A150
  simp only [Option.some.injEq, Prod.mk.injEq] at H
  obtain ⟨rfl, rfl⟩ := H
  go_enter Try.func9, Try.ntmps9
  go_wp2_with (first | ((with_reducible refine gate_callee (f := 13) rfl ?_); refine goesL_ (some 7) rfl rfl Try.func13 (by kernel_rfl) rfl #[.slice A0 l0.length c0] rfl MPz ?_; (with_reducible refine (spec_l01Source.calls k _ _ l0 t170 t171 t172 t173 w _ ?side1 ?side2 ?side3 A2.out).mono ?_); (case side1 => repeat (first | (with_reducible first | exact HB.out | apply below_alloc | apply pw_below_drewN | apply below_drew1) | exact HB.out)); (case side2 => exact HR0.out); (case side3 => exact HC0.out); rintro e w16 ⟨g174, rfl, hi, hb, hb2⟩; refine ⟨_, rfl, ?_⟩; have n0_ := Aside0.mk (hb); have n1_ := Aside0.mk (hi); clear HB; have HB := n0_; have HI174 := n1_; clear n0_ n1_; (try clear hb); (try clear hb2); (try clear hk); (try clear hi)) | ((with_reducible refine gate_callee (f := 15) rfl ?_); refine goesL_ (some 10) rfl rfl Try.func15 (by kernel_rfl) rfl #[.pointer (some ⟨g174, 0, none⟩), .int .i64 9] rfl MPz ?_; (with_reducible refine (spec_l01Src_n.calls g174 t170 t171 t172 t173 9 t175 t176 t177 t178 w _ ?side1 ?side2 A3.out).mono ?_); (case side1 => repeat (first | (with_reducible first | exact HI174.out | apply IsS47.alloc | apply IsS47.drewN | apply IsS47.drew | apply IsS47.set_1 | apply IsS47.set_2 | apply IsS47.set_3) | exact HI174.out)); (case side2 => repeat (first | (with_reducible first | exact HB.out | apply below_alloc | apply pw_below_drewN | apply below_drew1 | refine below_set ?_ (IsS47.ge HI174.out)) | exact HB.out)); rintro e w17 ⟨rfl, hi, hb, hk⟩; refine ⟨_, rfl, ?_⟩; have n0_ := Aside0.mk (hb); have n1_ := Aside0.mk (hi); clear HB; clear HI174; have HB := n0_; have HI174 := n1_; clear n0_ n1_; (try clear hb); (try clear hb2); (try clear hk); (try clear hi)) | ((with_reducible refine gate_callee (f := 16) rfl ?_); refine goesL_ (some 11) rfl rfl Try.func16 (by kernel_rfl) rfl #[.pointer (some ⟨g174, 0, none⟩), .int .i64 t175] rfl MPz ?_; (with_reducible refine (spec_l01Src_bytes.calls k g174 t170 t176 t177 t178 t175 t179 t180 t181 t182 w _ ?side1 ?side2 A4.out).mono ?_); (case side1 => repeat (first | (with_reducible first | exact HI174.out | apply IsS47.alloc | apply IsS47.drewN | apply IsS47.drew | apply IsS47.set_1 | apply IsS47.set_2 | apply IsS47.set_3) | exact HI174.out)); (case side2 => repeat (first | (with_reducible first | exact HB.out | apply below_alloc | apply pw_below_drewN | apply below_drew1 | refine below_set ?_ (IsS47.ge HI174.out)) | exact HB.out)); rintro e w18 ⟨rfl, hi, hb, hk⟩; refine ⟨_, rfl, ?_⟩; have n0_ := Aside0.mk (hb); have n1_ := Aside0.mk (hi); clear HB; clear HI174; have HB := n0_; have HI174 := n1_; clear n0_ n1_; (try clear hb); (try clear hb2); (try clear hk); (try clear hi)) | ((with_reducible refine gate_callee (f := 14) rfl ?_); refine goesL_ (some 13) rfl rfl Try.func14 (by kernel_rfl) rfl #[.pointer (some ⟨g174, 0, none⟩), .int .i64 5] rfl MPz ?_; (with_reducible refine (spec_l01Src_one.calls g174 t170 t180 t181 t182 5 false t184 t185 t186 w _ ?side1 ?side2 A5.out).mono ?_); (case side1 => repeat (first | (with_reducible first | exact HI174.out | apply IsS47.alloc | apply IsS47.drewN | apply IsS47.drew | apply IsS47.set_1 | apply IsS47.set_2 | apply IsS47.set_3) | exact HI174.out)); (case side2 => repeat (first | (with_reducible first | exact HB.out | apply below_alloc | apply pw_below_drewN | apply below_drew1 | refine below_set ?_ (IsS47.ge HI174.out)) | exact HB.out)); rintro e w19 ⟨rfl, hi, hb, hk⟩; refine ⟨_, rfl, ?_⟩; have n0_ := Aside0.mk (hb); have n1_ := Aside0.mk (hi); clear HB; clear HI174; have HB := n0_; have HI174 := n1_; clear n0_ n1_; (try clear hb); (try clear hb2); (try clear hk); (try clear hi)) | ((with_reducible refine gate_callee (f := 15) rfl ?_); refine goesL_ (some 19) rfl rfl Try.func15 (by kernel_rfl) rfl #[.pointer (some ⟨g174, 0, none⟩), .int .i64 9] rfl MPz ?_; (with_reducible refine (spec_l01Src_n.calls g174 t170 t184 t185 t186 9 t191 t192 t193 t194 w _ ?side1 ?side2 A13.out).mono ?_); (case side1 => repeat (first | (with_reducible first | exact HI174.out | apply IsS47.alloc | apply IsS47.drewN | apply IsS47.drew | apply IsS47.set_1 | apply IsS47.set_2 | apply IsS47.set_3) | exact HI174.out)); (case side2 => repeat (first | (with_reducible first | exact HB.out | apply below_alloc | apply pw_below_drewN | apply below_drew1 | refine below_set ?_ (IsS47.ge HI174.out)) | exact HB.out)); rintro e w20 ⟨rfl, hi, hb, hk⟩; refine ⟨_, rfl, ?_⟩; have n0_ := Aside0.mk (hb); have n1_ := Aside0.mk (hi); clear HB; clear HI174; have HB := n0_; have HI174 := n1_; clear n0_ n1_; (try clear hb); (try clear hb2); (try clear hk); (try clear hi)) | ((with_reducible refine gate_callee (f := 16) rfl ?_); refine goesL_ (some 20) rfl rfl Try.func16 (by kernel_rfl) rfl #[.pointer (some ⟨g174, 0, none⟩), .int .i64 t191] rfl MPz ?_; (with_reducible refine (spec_l01Src_bytes.calls k g174 t170 t192 t193 t194 t191 t195 t196 t197 t198 w _ ?side1 ?side2 A14.out).mono ?_); (case side1 => repeat (first | (with_reducible first | exact HI174.out | apply IsS47.alloc | apply IsS47.drewN | apply IsS47.drew | apply IsS47.set_1 | apply IsS47.set_2 | apply IsS47.set_3) | exact HI174.out)); (case side2 => repeat (first | (with_reducible first | exact HB.out | apply below_alloc | apply pw_below_drewN | apply below_drew1 | refine below_set ?_ (IsS47.ge HI174.out)) | exact HB.out)); rintro e w21 ⟨rfl, hi, hb, hk⟩; refine ⟨_, rfl, ?_⟩; have n0_ := Aside0.mk (hb); have n1_ := Aside0.mk (hi); clear HB; clear HI174; have HB := n0_; have HI174 := n1_; clear n0_ n1_; (try clear hb); (try clear hb2); (try clear hk); (try clear hi)) | ((with_reducible refine gate_callee (f := 22) rfl ?_); refine goesL_ (some 21) rfl rfl Try.func22 (by kernel_rfl) rfl #[.string t195] rfl MPz ?_; (with_reducible refine (spec_Crc.calls k t195 t199 _ A15.out).mono ?_); rintro e w' ⟨rfl, ⟨nd, rfl⟩⟩; refine ⟨_, rfl, ?_⟩))
  go_ret2
  exact ⟨EZa, by repeat (first | (with_reducible first | exact HB.out | apply below_alloc | apply pw_below_drewN | apply below_drew1 | refine below_set ?_ (IsS47.ge HI174.out)) | exact HB.out)⟩
def impl_between.f (a0 : Int) (a1 : Int) (a2 : Int) : Option (Bool) := if a0 ≥ a1 then (some (decide (a0 ≤ a2))) else (some false)
set_option maxHeartbeats 8000000 in
set_option maxRecDepth 100000 in
theorem impl_between.calls (a0 : Int) (a1 : Int) (a2 : Int) (r : Bool) (w : World) (h : impl_between.f a0 a1 a2 = some r) :
  Calls Try.prog 23 #[.int .i64 a0, .int .i64 a1, .int .i64 a2] w fun e w' => e = .returned (.bool r) ∧ Drawn0 w w' := by
 have H : (if a0 ≥ a1 then (some (decide (a0 ≤ a2))) else (some false)) = some r := h
 clear h
 by_cases c4 : a0 ≥ a1
 ·rw [if_pos c4] at H
  have c4b0 : decide (a1 ≤ a0) = true := decide_eq_true c4
  clear c4
  obtain rfl := Option.some.inj H
  go_enter Try.func23, Try.ntmps23
  go_wp2
  go_ret
  exact ⟨EZb, DRz⟩
 ·rw [if_neg c4] at H
  have c4b0 : decide (a1 ≤ a0) = false := decide_eq_false c4
  clear c4
  obtain rfl := Option.some.inj H
  go_enter Try.func23, Try.ntmps23
  go_wp2
  go_ret
  exact ⟨EZb, DRz⟩
def impl_CrcMore.f (k : Nat) (a0 : Int) (a1 : ByteArray) : Option (Int) := (impl_isLong.f k (([a1] : List ByteArray))).bind fun t203 => (if t203 = true then (some 0) else ((impl_between.f a0 0 4294967295).bind fun t204 => (if t204 = true then ((impl_register.f k (Go.bits .xor .u32 4294967295 ((a0) % 4294967296)) a1).bind fun t205 => (some (wrap64 (Go.bits .xor .u32 4294967295 t205)))) else (some 0))))
theorem impl_CrcMore.mono : ∀ a0 a1 k, LeO (impl_CrcMore.f k a0 a1) (impl_CrcMore.f (k + 1) a0 a1) := by
 intro a0 a1 k
 unfold impl_CrcMore.f
 repeat' first
   | (with_reducible exact impl_isLong.mono _ _)
   | (with_reducible exact impl_register.mono _ _ _)
   | (with_reducible exact LeO.refl _)
   | (with_reducible exact LeO.none _)
   | (with_reducible refine LeO.ite ?_ ?_)
   | (with_reducible refine LeO.bind ?_ (fun _ => ?_))
   | exact impl_isLong.mono _ _
   | exact impl_register.mono _ _ _
   | exact LeO.none _
   | refine LeO.ite ?_ ?_
   | refine LeO.bind ?_ (fun _ => ?_)
set_option maxHeartbeats 8000000 in
set_option maxRecDepth 100000 in
theorem impl_CrcMore.calls (k : Nat) (a0 : Int) (a1 : ByteArray) (r : Int) (w : World) (h : impl_CrcMore.f k a0 a1 = some r) :
  Calls Try.prog 10 #[.int .i64 a0, .string a1] w fun e w' => e = .returned (.int .i64 r) ∧ Below w.heap.size w w' := by
 have HB := Aside0.mk (Below.refl w.heap.size w)
 have H : ((impl_isLong.f k (([a1] : List ByteArray))).bind fun t203 => (if t203 = true then (some 0) else ((impl_between.f a0 0 4294967295).bind fun t204 => (if t204 = true then ((impl_register.f k (Go.bits .xor .u32 4294967295 ((a0) % 4294967296)) a1).bind fun t205 => (some (wrap64 (Go.bits .xor .u32 4294967295 t205)))) else (some 0))))) = some r := h
 clear h
 obtain ⟨y200, hy200⟩ : ∃ y_ : List ByteArray, y_ = (([a1] : List ByteArray)) := ⟨_, rfl⟩
 replace H : ((impl_isLong.f k y200).bind fun t203 => (if t203 = true then (some 0) else ((impl_between.f a0 0 4294967295).bind fun t204 => (if t204 = true then ((impl_register.f k (Go.bits .xor .u32 4294967295 ((a0) % 4294967296)) a1).bind fun t205 => (some (wrap64 (Go.bits .xor .u32 4294967295 t205)))) else (some 0))))) = some r := by first | (rw [hy200]; with_reducible exact H) | (have H2_ := (Option.bind_some _ _).symm.trans H; rw [hy200]; with_reducible exact H2_) | (have H2_ := (Option.bind_some _ _).symm.trans H; with_reducible exact H2_) | with_reducible exact H | (rw [hy200]; exact H) | exact H
 have Ny200 := Aside0.mk hy200
 clear hy200
 replace H := Option.bind_eq_some_iff.mp H
 obtain ⟨t203, A30, H⟩ := H
 replace H : (if t203 = true then (some 0) else ((impl_between.f a0 0 4294967295).bind fun t204 => (if t204 = true then ((impl_register.f k (Go.bits .xor .u32 4294967295 ((a0) % 4294967296)) a1).bind fun t205 => (some (wrap64 (Go.bits .xor .u32 4294967295 t205)))) else (some 0)))) = some r := H
 have A3 := Aside0.mk A30
 clear A30
 by_cases c4 : t203 = true
 ·subst c4
  have H1 : (some 0) = some r := by rw [if_pos rfl] at H; exact H
  clear H
  have H := H1
  clear H1
  obtain rfl := Option.some.inj H
  go_enter Try.func10, Try.ntmps10
  go_wp2_with (first | ((with_reducible refine gate_dst (N := 6) rfl ?_); refine Kd.R_lit Kd.string _ 9 ?hg (N := 6) ?hd (xs := ([a1] : List ByteArray)) (inner := [.string a1]) (ok := fun _ => True) (okp := fun _ => True) ?hr ?hp (fun _ hk => hk) trivial (Below.refl _ _) (Nat.le_refl _) (by simp) ?_; (case hd => rfl); (case hg => rfl); (case hr => first | (go_simp; done) | (go_simp; rfl)); (case hp => exact (Reps.one (show Kd.M Kd.string _ _ _ a1 [.string a1] from rfl) (Reps.none _ _))); intro v201 w5 ho6 hb hg_ hnew_; clear hg_ hnew_; (first | rw [← Ny200.out] at ho6 | (simp only [Int.reduceToNat] at ho6; rw [← Ny200.out] at ho6)); have n0_ := Aside0.mk (Kd.R_lower ho6 (below_size HBa)); have n1_ := Aside0.mk (below_step HBa hb); clear HB; have HO202 := n0_; have HB := n1_; clear n0_ n1_; clear hb ho6; obtain ⟨Ao7, co7, eo7⟩ := Kd.R_slice HO202.out; subst eo7) | ((with_reducible refine gate_callee (f := 20) rfl ?_); refine goesL_ (some 7) rfl rfl Try.func20 (by kernel_rfl) rfl #[.slice Ao7 y200.length co7] rfl MPz ?_; (with_reducible refine (impl_isLong.calls k _ _ y200 true _ ?side1 ?side2 A3.out).mono ?_); (case side1 => repeat (first | exact (Kd.R_reads' HO202.out).2.2 | (with_reducible refine Kd.C_alloc ?_ _) | (with_reducible refine Kd.C_drewN ?_ _) | (with_reducible refine Kd.C_drew ?_))); (case side2 => exact (Kd.R_reads' HO202.out).2.1); rintro e w' ⟨rfl, ⟨nd, rfl⟩⟩; refine ⟨_, rfl, ?_⟩))
  go_ret
  exact ⟨EZa, HBa⟩
 ·replace c4 := Bool.eq_false_iff.mpr c4
  subst c4
  have H1 : ((impl_between.f a0 0 4294967295).bind fun t204 => (if t204 = true then ((impl_register.f k (Go.bits .xor .u32 4294967295 ((a0) % 4294967296)) a1).bind fun t205 => (some (wrap64 (Go.bits .xor .u32 4294967295 t205)))) else (some 0))) = some r := by rw [if_neg (show ¬ (false = true) by decide)] at H; exact H
  clear H
  have H := H1
  clear H1
  replace H := Option.bind_eq_some_iff.mp H
  obtain ⟨t204, A80, H⟩ := H
  replace H : (if t204 = true then ((impl_register.f k (Go.bits .xor .u32 4294967295 ((a0) % 4294967296)) a1).bind fun t205 => (some (wrap64 (Go.bits .xor .u32 4294967295 t205)))) else (some 0)) = some r := H
  have A8 := Aside0.mk A80
  clear A80
  by_cases c9 : t204 = true
  ·subst c9
   have H1 : ((impl_register.f k (Go.bits .xor .u32 4294967295 ((a0) % 4294967296)) a1).bind fun t205 => (some (wrap64 (Go.bits .xor .u32 4294967295 t205)))) = some r := by rw [if_pos rfl] at H; exact H
   clear H
   have H := H1
   clear H1
   replace H := Option.bind_eq_some_iff.mp H
   obtain ⟨t205, A100, H⟩ := H
   replace H : (some (wrap64 (Go.bits .xor .u32 4294967295 t205))) = some r := H
   have A10 := Aside0.mk A100
   clear A100
   obtain rfl := Option.some.inj H
   go_enter Try.func10, Try.ntmps10
   go_wp2_with (first | ((with_reducible refine gate_dst (N := 6) rfl ?_); refine Kd.R_lit Kd.string _ 9 ?hg (N := 6) ?hd (xs := ([a1] : List ByteArray)) (inner := [.string a1]) (ok := fun _ => True) (okp := fun _ => True) ?hr ?hp (fun _ hk => hk) trivial (Below.refl _ _) (Nat.le_refl _) (by simp) ?_; (case hd => rfl); (case hg => rfl); (case hr => first | (go_simp; done) | (go_simp; rfl)); (case hp => exact (Reps.one (show Kd.M Kd.string _ _ _ a1 [.string a1] from rfl) (Reps.none _ _))); intro v201 w11 ho12 hb hg_ hnew_; clear hg_ hnew_; (first | rw [← Ny200.out] at ho12 | (simp only [Int.reduceToNat] at ho12; rw [← Ny200.out] at ho12)); have n0_ := Aside0.mk (Kd.R_lower ho12 (below_size HBa)); have n1_ := Aside0.mk (below_step HBa hb); clear HB; have HO202 := n0_; have HB := n1_; clear n0_ n1_; clear hb ho12; obtain ⟨Ao13, co13, eo13⟩ := Kd.R_slice HO202.out; subst eo13) | ((with_reducible refine gate_callee (f := 20) rfl ?_); refine goesL_ (some 7) rfl rfl Try.func20 (by kernel_rfl) rfl #[.slice Ao13 y200.length co13] rfl MPz ?_; (with_reducible refine (impl_isLong.calls k _ _ y200 false _ ?side1 ?side2 A3.out).mono ?_); (case side1 => repeat (first | exact (Kd.R_reads' HO202.out).2.2 | (with_reducible refine Kd.C_alloc ?_ _) | (with_reducible refine Kd.C_drewN ?_ _) | (with_reducible refine Kd.C_drew ?_))); (case side2 => exact (Kd.R_reads' HO202.out).2.1); rintro e w' ⟨rfl, ⟨nd, rfl⟩⟩; refine ⟨_, rfl, ?_⟩) | (go_at_call 23; (with_reducible refine (impl_between.calls a0 0 4294967295 true _ A8.out).mono ?_); rintro e w' ⟨rfl, ⟨nd, rfl⟩⟩) | ((with_reducible refine gate_callee (f := 24) rfl ?_); refine goesL_ (some 17) rfl rfl Try.func24 (by kernel_rfl) rfl #[.int .u32 (Go.bits .xor .u32 4294967295 ((a0) % 4294967296)), .string a1] rfl MPz ?_; (with_reducible refine (impl_register.calls k (Go.bits .xor .u32 4294967295 ((a0) % 4294967296)) a1 t205 _ A10.out).mono ?_); rintro e w' ⟨rfl, ⟨nd, rfl⟩⟩; refine ⟨_, rfl, ?_⟩))
   go_ret
   exact ⟨EZa, HBa⟩
  ·replace c9 := Bool.eq_false_iff.mpr c9
   subst c9
   have H1 : (some 0) = some r := by rw [if_neg (show ¬ (false = true) by decide)] at H; exact H
   clear H
   have H := H1
   clear H1
   obtain rfl := Option.some.inj H
   go_enter Try.func10, Try.ntmps10
   go_wp2_with (first | ((with_reducible refine gate_dst (N := 6) rfl ?_); refine Kd.R_lit Kd.string _ 9 ?hg (N := 6) ?hd (xs := ([a1] : List ByteArray)) (inner := [.string a1]) (ok := fun _ => True) (okp := fun _ => True) ?hr ?hp (fun _ hk => hk) trivial (Below.refl _ _) (Nat.le_refl _) (by simp) ?_; (case hd => rfl); (case hg => rfl); (case hr => first | (go_simp; done) | (go_simp; rfl)); (case hp => exact (Reps.one (show Kd.M Kd.string _ _ _ a1 [.string a1] from rfl) (Reps.none _ _))); intro v201 w14 ho15 hb hg_ hnew_; clear hg_ hnew_; (first | rw [← Ny200.out] at ho15 | (simp only [Int.reduceToNat] at ho15; rw [← Ny200.out] at ho15)); have n0_ := Aside0.mk (Kd.R_lower ho15 (below_size HBa)); have n1_ := Aside0.mk (below_step HBa hb); clear HB; have HO202 := n0_; have HB := n1_; clear n0_ n1_; clear hb ho15; obtain ⟨Ao16, co16, eo16⟩ := Kd.R_slice HO202.out; subst eo16) | ((with_reducible refine gate_callee (f := 20) rfl ?_); refine goesL_ (some 7) rfl rfl Try.func20 (by kernel_rfl) rfl #[.slice Ao16 y200.length co16] rfl MPz ?_; (with_reducible refine (impl_isLong.calls k _ _ y200 false _ ?side1 ?side2 A3.out).mono ?_); (case side1 => repeat (first | exact (Kd.R_reads' HO202.out).2.2 | (with_reducible refine Kd.C_alloc ?_ _) | (with_reducible refine Kd.C_drewN ?_ _) | (with_reducible refine Kd.C_drew ?_))); (case side2 => exact (Kd.R_reads' HO202.out).2.1); rintro e w' ⟨rfl, ⟨nd, rfl⟩⟩; refine ⟨_, rfl, ?_⟩) | (go_at_call 23; (with_reducible refine (impl_between.calls a0 0 4294967295 false _ A8.out).mono ?_); rintro e w' ⟨rfl, ⟨nd, rfl⟩⟩))
   go_ret
   exact ⟨EZa, HBa⟩
def spec_CrcMore.f (k : Nat) (a0 : Int) (a1 : ByteArray) : Option (Int) := if (a1.size : Int) > 8000 then (some 0) else (if a0 < 0 then (some 0) else (if a0 > 4294967295 then (some 0) else ((spec_l01Crc.f k a0 a1).bind fun t206 => (some t206))))
theorem spec_CrcMore.mono : ∀ a0 a1 k, LeO (spec_CrcMore.f k a0 a1) (spec_CrcMore.f (k + 1) a0 a1) := by
 intro a0 a1 k
 unfold spec_CrcMore.f
 repeat' first
   | (with_reducible exact spec_l01Crc.mono _ _ _)
   | (with_reducible exact LeO.refl _)
   | (with_reducible exact LeO.none _)
   | (with_reducible refine LeO.ite ?_ ?_)
   | (with_reducible refine LeO.bind ?_ (fun _ => ?_))
   | exact spec_l01Crc.mono _ _ _
   | exact LeO.none _
   | refine LeO.ite ?_ ?_
   | refine LeO.bind ?_ (fun _ => ?_)
set_option maxHeartbeats 8000000 in
set_option maxRecDepth 100000 in
theorem spec_CrcMore.calls (k : Nat) (a0 : Int) (a1 : ByteArray) (r : Int) (w : World) (h : spec_CrcMore.f k a0 a1 = some r) :
  Calls Try.prog 11 #[.int .i64 a0, .string a1] w fun e w' => e = .returned (.int .i64 r) ∧ Drawn0 w w' := by
 have H : (if (a1.size : Int) > 8000 then (some 0) else (if a0 < 0 then (some 0) else (if a0 > 4294967295 then (some 0) else ((spec_l01Crc.f k a0 a1).bind fun t206 => (some t206))))) = some r := h
 clear h
 by_cases c3 : (a1.size : Int) > 8000
 ·rw [if_pos c3] at H
  have c3b0 : decide (8000 < (a1.size : Int)) = true := decide_eq_true c3
  have c3b1 : decide (8000 < a1.size) = true := decide_eq_true (by omega)
  clear c3
  obtain rfl := Option.some.inj H
  go_enter Try.func11, Try.ntmps11
  go_wp2
  go_ret
  exact ⟨EZb, DRz⟩
 ·rw [if_neg c3] at H
  have c3b0 : decide (8000 < (a1.size : Int)) = false := decide_eq_false c3
  have c3b1 : decide (8000 < a1.size) = false := decide_eq_false (by omega)
  clear c3
  by_cases c4 : a0 < 0
  ·rw [if_pos c4] at H
   have c4b0 : decide (a0 < 0) = true := decide_eq_true c4
   clear c4
   obtain rfl := Option.some.inj H
   go_enter Try.func11, Try.ntmps11
   go_wp2
   go_ret
   exact ⟨EZb, DRz⟩
  ·rw [if_neg c4] at H
   have c4b0 : decide (a0 < 0) = false := decide_eq_false c4
   clear c4
   by_cases c5 : a0 > 4294967295
   ·rw [if_pos c5] at H
    have c5b0 : decide (4294967295 < a0) = true := decide_eq_true c5
    clear c5
    obtain rfl := Option.some.inj H
    go_enter Try.func11, Try.ntmps11
    go_wp2
    go_ret
    exact ⟨EZb, DRz⟩
   ·rw [if_neg c5] at H
    have c5b0 : decide (4294967295 < a0) = false := decide_eq_false c5
    clear c5
    replace H := Option.bind_eq_some_iff.mp H
    obtain ⟨t206, A60, H⟩ := H
    replace H : (some t206) = some r := H
    have A6 := Aside0.mk A60
    clear A60
    obtain rfl := Option.some.inj H
    go_enter Try.func11, Try.ntmps11
    go_wp2_with (first | ((with_reducible refine gate_callee (f := 19) rfl ?_); refine goesL_ (some 18) rfl rfl Try.func19 (by kernel_rfl) rfl #[.int .i64 a0, .string a1] rfl MPz ?_; (with_reducible refine (spec_l01Crc.calls k a0 a1 t206 _ A6.out).mono ?_); rintro e w' ⟨rfl, ⟨nd, rfl⟩⟩; refine ⟨_, rfl, ?_⟩))
    go_ret
    exact ⟨EZb, DRz⟩
def impl_Crc.f (k : Nat) (a0 : ByteArray) : Option (Int) := (impl_isLong.f k (([a0] : List ByteArray))).bind fun t210 => (if t210 = true then (some 0) else ((impl_crc.f k a0).bind fun t211 => (some (wrap64 (t211)))))
theorem impl_Crc.mono : ∀ a0 k, LeO (impl_Crc.f k a0) (impl_Crc.f (k + 1) a0) := by
 intro a0 k
 unfold impl_Crc.f
 repeat' first
   | (with_reducible exact impl_crc.mono _ _)
   | (with_reducible exact impl_isLong.mono _ _)
   | (with_reducible exact LeO.refl _)
   | (with_reducible exact LeO.none _)
   | (with_reducible refine LeO.ite ?_ ?_)
   | (with_reducible refine LeO.bind ?_ (fun _ => ?_))
   | exact impl_crc.mono _ _
   | exact impl_isLong.mono _ _
   | exact LeO.none _
   | refine LeO.ite ?_ ?_
   | refine LeO.bind ?_ (fun _ => ?_)
set_option maxHeartbeats 8000000 in
set_option maxRecDepth 100000 in
theorem impl_Crc.calls (k : Nat) (a0 : ByteArray) (r : Int) (w : World) (h : impl_Crc.f k a0 = some r) :
  Calls Try.prog 12 #[.string a0] w fun e w' => e = .returned (.int .i64 r) ∧ Below w.heap.size w w' := by
 have HB := Aside0.mk (Below.refl w.heap.size w)
 have H : ((impl_isLong.f k (([a0] : List ByteArray))).bind fun t210 => (if t210 = true then (some 0) else ((impl_crc.f k a0).bind fun t211 => (some (wrap64 (t211)))))) = some r := h
 clear h
 obtain ⟨y207, hy207⟩ : ∃ y_ : List ByteArray, y_ = (([a0] : List ByteArray)) := ⟨_, rfl⟩
 replace H : ((impl_isLong.f k y207).bind fun t210 => (if t210 = true then (some 0) else ((impl_crc.f k a0).bind fun t211 => (some (wrap64 (t211)))))) = some r := by first | (rw [hy207]; with_reducible exact H) | (have H2_ := (Option.bind_some _ _).symm.trans H; rw [hy207]; with_reducible exact H2_) | (have H2_ := (Option.bind_some _ _).symm.trans H; with_reducible exact H2_) | with_reducible exact H | (rw [hy207]; exact H) | exact H
 have Ny207 := Aside0.mk hy207
 clear hy207
 replace H := Option.bind_eq_some_iff.mp H
 obtain ⟨t210, A20, H⟩ := H
 replace H : (if t210 = true then (some 0) else ((impl_crc.f k a0).bind fun t211 => (some (wrap64 (t211))))) = some r := H
 have A2 := Aside0.mk A20
 clear A20
 by_cases c3 : t210 = true
 ·subst c3
  have H1 : (some 0) = some r := by rw [if_pos rfl] at H; exact H
  clear H
  have H := H1
  clear H1
  obtain rfl := Option.some.inj H
  go_enter Try.func12, Try.ntmps12
  go_wp2_with (first | ((with_reducible refine gate_dst (N := 4) rfl ?_); refine Kd.R_lit Kd.string _ 9 ?hg (N := 4) ?hd (xs := ([a0] : List ByteArray)) (inner := [.string a0]) (ok := fun _ => True) (okp := fun _ => True) ?hr ?hp (fun _ hk => hk) trivial (Below.refl _ _) (Nat.le_refl _) (by simp) ?_; (case hd => rfl); (case hg => rfl); (case hr => first | (go_simp; done) | (go_simp; rfl)); (case hp => exact (Reps.one (show Kd.M Kd.string _ _ _ a0 [.string a0] from rfl) (Reps.none _ _))); intro v208 w4 ho5 hb hg_ hnew_; clear hg_ hnew_; (first | rw [← Ny207.out] at ho5 | (simp only [Int.reduceToNat] at ho5; rw [← Ny207.out] at ho5)); have n0_ := Aside0.mk (Kd.R_lower ho5 (below_size HBa)); have n1_ := Aside0.mk (below_step HBa hb); clear HB; have HO209 := n0_; have HB := n1_; clear n0_ n1_; clear hb ho5; obtain ⟨Ao6, co6, eo6⟩ := Kd.R_slice HO209.out; subst eo6) | ((with_reducible refine gate_callee (f := 20) rfl ?_); refine goesL_ (some 5) rfl rfl Try.func20 (by kernel_rfl) rfl #[.slice Ao6 y207.length co6] rfl MPz ?_; (with_reducible refine (impl_isLong.calls k _ _ y207 true _ ?side1 ?side2 A2.out).mono ?_); (case side1 => repeat (first | exact (Kd.R_reads' HO209.out).2.2 | (with_reducible refine Kd.C_alloc ?_ _) | (with_reducible refine Kd.C_drewN ?_ _) | (with_reducible refine Kd.C_drew ?_))); (case side2 => exact (Kd.R_reads' HO209.out).2.1); rintro e w' ⟨rfl, ⟨nd, rfl⟩⟩; refine ⟨_, rfl, ?_⟩))
  go_ret
  exact ⟨EZa, HBa⟩
 ·replace c3 := Bool.eq_false_iff.mpr c3
  subst c3
  have H1 : ((impl_crc.f k a0).bind fun t211 => (some (wrap64 (t211)))) = some r := by rw [if_neg (show ¬ (false = true) by decide)] at H; exact H
  clear H
  have H := H1
  clear H1
  replace H := Option.bind_eq_some_iff.mp H
  obtain ⟨t211, A70, H⟩ := H
  replace H : (some (wrap64 (t211))) = some r := H
  have A7 := Aside0.mk A70
  clear A70
  obtain rfl := Option.some.inj H
  go_enter Try.func12, Try.ntmps12
  go_wp2_with (first | ((with_reducible refine gate_dst (N := 4) rfl ?_); refine Kd.R_lit Kd.string _ 9 ?hg (N := 4) ?hd (xs := ([a0] : List ByteArray)) (inner := [.string a0]) (ok := fun _ => True) (okp := fun _ => True) ?hr ?hp (fun _ hk => hk) trivial (Below.refl _ _) (Nat.le_refl _) (by simp) ?_; (case hd => rfl); (case hg => rfl); (case hr => first | (go_simp; done) | (go_simp; rfl)); (case hp => exact (Reps.one (show Kd.M Kd.string _ _ _ a0 [.string a0] from rfl) (Reps.none _ _))); intro v208 w8 ho9 hb hg_ hnew_; clear hg_ hnew_; (first | rw [← Ny207.out] at ho9 | (simp only [Int.reduceToNat] at ho9; rw [← Ny207.out] at ho9)); have n0_ := Aside0.mk (Kd.R_lower ho9 (below_size HBa)); have n1_ := Aside0.mk (below_step HBa hb); clear HB; have HO209 := n0_; have HB := n1_; clear n0_ n1_; clear hb ho9; obtain ⟨Ao10, co10, eo10⟩ := Kd.R_slice HO209.out; subst eo10) | ((with_reducible refine gate_callee (f := 20) rfl ?_); refine goesL_ (some 5) rfl rfl Try.func20 (by kernel_rfl) rfl #[.slice Ao10 y207.length co10] rfl MPz ?_; (with_reducible refine (impl_isLong.calls k _ _ y207 false _ ?side1 ?side2 A2.out).mono ?_); (case side1 => repeat (first | exact (Kd.R_reads' HO209.out).2.2 | (with_reducible refine Kd.C_alloc ?_ _) | (with_reducible refine Kd.C_drewN ?_ _) | (with_reducible refine Kd.C_drew ?_))); (case side2 => exact (Kd.R_reads' HO209.out).2.1); rintro e w' ⟨rfl, ⟨nd, rfl⟩⟩; refine ⟨_, rfl, ?_⟩) | ((with_reducible refine gate_callee (f := 25) rfl ?_); refine goesL_ (some 7) rfl rfl Try.func25 (by kernel_rfl) rfl #[.string a0] rfl MPz ?_; (with_reducible refine (impl_crc.calls k a0 t211 _ A7.out).mono ?_); rintro e w' ⟨rfl, ⟨nd, rfl⟩⟩; refine ⟨_, rfl, ?_⟩))
  go_ret
  exact ⟨EZa, HBa⟩
def laws_FnSeal.Bw (w : World) (ad : Addr) (e : TypeId) (l : List Int) : Prop := ∃ (g : Nat) (cs : Array Value) (q : Nat), ad = ⟨g, 0, none⟩ ∧ w.heap[g]? = some (.cells cs e (q, q + 1)) ∧ l.length ≤ q ∧ ∀ (j : Nat) (x : Int), l[j]? = some x → cs[j]? = some (Value.int .u8 x)
theorem laws_FnSeal.Bw_cell {w : World} {ad : Addr} {e : TypeId} {l : List Int} (h : laws_FnSeal.Bw w ad e l) (i : Int) (h0 : 0 ≤ i) (h1 : i < l.length) : w.cell? (ad.add i.toNat) = some (.int .u8 (l.getD i.toNat 0)) := by
 obtain ⟨g, cs, q, rfl, hb, hq, hc⟩ := h
 have hi : i.toNat < l.length := by omega
 have := hc i.toNat _ (List.getElem?_eq_getElem hi)
 rw [add_plain]
 simp only [World.cell?, hb]
 rw [List.getD_eq_getElem?_getD, List.getElem?_eq_getElem hi]
 simpa using this
theorem laws_FnSeal.Bw_frozen {w : World} {ad : Addr} {e : TypeId} {l : List Int} (h : laws_FnSeal.Bw w ad e l) (i : Int) (h0 : 0 ≤ i) (h1 : i < l.length) : w.frozen? (ad.add i.toNat) = false := by
 obtain ⟨g, cs, q, rfl, hb, hq, hc⟩ := h
 rw [add_plain]
 simp only [World.frozen?, hb]
 have : ¬ (q ≤ i.toNat) := by omega
 simp [this]
theorem laws_FnSeal.Bw_set {w : World} {ad : Addr} {e : TypeId} {l : List Int} (h : laws_FnSeal.Bw w ad e l) (i : Int) (x : Int) : laws_FnSeal.Bw (w.setCell (ad.add i.toNat) (.int .u8 x)) ad e (l.set i.toNat x) := by
 obtain ⟨g, cs, q, rfl, hb, hq, hc⟩ := h
 rw [add_plain]
 refine ⟨g, cs.setIfInBounds i.toNat (.int .u8 x), q, rfl, ?_, by simpa using hq, ?_⟩
 ·have hlt : g < w.heap.size := (Array.getElem?_eq_some_iff.1 hb).1
  simp only [World.setCell, Array.getElem?_modify, hb]
  simp
 ·intro j y hy
  rw [List.getElem?_set] at hy
  rw [Array.getElem?_setIfInBounds]
  by_cases hij : i.toNat = j
  ·subst hij
   rw [if_pos rfl] at hy ⊢
   by_cases hl : i.toNat < l.length
   ·rw [if_pos hl] at hy
    have h2 := hc i.toNat _ (List.getElem?_eq_getElem hl)
    have h3 : i.toNat < cs.size := (Array.getElem?_eq_some_iff.1 h2).1
    rw [if_pos h3]; cases hy; rfl
   ·rw [if_neg hl] at hy; cases hy
  ·rw [if_neg hij] at hy ⊢
   exact hc j y hy
theorem laws_FnSeal.Bw_below {w w1 : World} {ad : Addr} {e : TypeId} {l : List Int} (h : laws_FnSeal.Bw w ad e l) (hb : Below w.heap.size w w1) : laws_FnSeal.Bw w1 ad e l := by
 obtain ⟨g, cs, q, h0, h1, h2, h3⟩ := h
 exact ⟨g, cs, q, h0, (hb.block g (Array.getElem?_eq_some_iff.1 h1).1).trans h1, h2, h3⟩
theorem laws_FnSeal.Bw_C {w : World} {ad : Addr} {e : TypeId} {l : List Int} (h : laws_FnSeal.Bw w ad e l) (hm : l.length ≤ 9223372036854775807) : Kd.C (Kd.int .u8) w (some ad) l.length l := by
 refine ⟨rfl, hm, fun _ => ⟨ad, rfl, fun j p hp => ⟨[.int .u8 p], rfl, rfl, fun i u hu => ?_⟩⟩⟩
 cases i with
 | succ i => simp at hu
 | zero =>
  simp at hu
  subst hu
  have hj : j < l.length := (List.getElem?_eq_some_iff.1 hp).1
  have h2 := laws_FnSeal.Bw_cell h (j : Int) (by omega) (by omega)
  rw [Int.toNat_natCast, List.getD_eq_getElem?_getD, hp] at h2
  have e1 : ad.add (j * (Kd.int .u8).sz + 0) = ad.add j := by
   simp [Kd.int, Kd.scalar]
  rw [e1]; exact h2
theorem laws_FnSeal.Bw_new (w : World) (e : TypeId) (s : ByteArray) : laws_FnSeal.Bw (Lib.bytesWorld w e s) ⟨w.heap.size, 0, none⟩ e (bytesOf s) := by
 refine ⟨w.heap.size, Lib.bytesCells w e s, (Lib.bytesCells w e s).size, rfl, Lib.bytesWorld_at_new w e s, ?_, ?_⟩
 ·simp [Lib.bytesCells, bytesOf]
 ·intro j x hx
  obtain ⟨hj, rfl⟩ := List.getElem?_eq_some_iff.1 hx
  have hj2 : j < s.data.size := by simpa [bytesOf] using hj
  have hj3 : j < s.size := hj2
  simp [Lib.bytesCells, bytesOf, Array.getElem?_append, hj3]
theorem laws_FnSeal.new_below (w : World) (e : TypeId) (s : ByteArray) : Below w.heap.size w (Lib.bytesWorld w e s) := by
 refine ⟨?_, ?_, ?_, by rw [Lib.bytesWorld_size]; omega, fun j hj => Lib.bytesWorld_at_old w e s j hj⟩ <;> simp [Lib.bytesWorld, World.freeze, World.alloc, World.drew, -World.alloc_eq, -World.drew_eq]
theorem laws_FnSeal.event {P : Program} {ops : Array Oper} {rest : List Oper} {o : Oper} {a : Act} {Q : Exit → Act → World → Prop} {W : World} (hgd : o.guard = none) {N : Tmp} (_hd : o.dst = some N) {e : TypeId} {s : ByteArray}
  (hrun : (execOp a.eval o).run P W = .ok (.value (.slice (some ⟨W.heap.size, 0, none⟩) s.size (grownCap W s.size 0 e))) (Lib.bytesWorld W e s))
  (h : ∀ ad : Addr, W.heap.size ≤ ad.block → ∀ c w1, laws_FnSeal.Bw w1 ad e (bytesOf s) → Below W.heap.size W w1 → wpList P ops Q rest (a.put o.dst (.slice (some ad) s.size c)) w1) : wpList P ops Q (o :: rest) a W :=
 Kd.event_run hgd hrun (h _ (Nat.le_refl _) _ _ (laws_FnSeal.Bw_new W e s) (laws_FnSeal.new_below W e s))
theorem laws_FnSeal.set_below {w W : World} {ad : Addr} {v : Value} (h : Below w.heap.size w W) (hg : w.heap.size ≤ ad.block) (n : Nat) : Below w.heap.size w (W.setCell (ad.add n) v) := by
 refine h.setCell (p := ad.add n) ?_ _
 have e : (ad.add n).block = ad.block := by unfold Addr.add; split <;> rfl
 rw [e]; exact hg
theorem eqA27 (d : Nat) (w : World) (x0 y0 : ByteArray) (x1 y1 : Int) (x2 y2 : Int) :
  (Op.equalIn (d + 2) 27 (.agg #[.string x0, .int .i64 x1, .int .i64 x2]) (.agg #[.string y0, .int .i64 y1, .int .i64 y2])).run Try.prog w = .ok (x0.toList == y0.toList && (x1 == y1 && (x2 == y2))) w := by
 refine eqA_of Try.underlying27 (by kernel_rfl) ?_
 refine eqf_cons (by rfl) (by go_simp; rfl) (by go_simp; rfl) (by go_simp) ?_
 refine eqf_cons (by rfl) (by go_simp; rfl) (by go_simp; rfl) (by go_simp) ?_
 exact eqf_last (by rfl) (by go_simp; rfl) (by go_simp; rfl) (by go_simp)
attribute [local go_sem high] eqA27
def laws_FnSeal.turn (s : ByteArray) (i x : Int) : List Int := (bytesOf s).set i.toNat (Go.bits .xor .u8 ((bytesOf s).getD i.toNat 0) ((wrap64 (1 + x)) % 256))
def laws_FnSeal.restc (k : Nat) (t : ByteArray) (c1 : Int) (c2 : ByteArray) : Option Bool := if (wrap64 ((t.size : Int) + (c2.size : Int))) > 8000 then some true else
 if t.size + c2.size ≤ 9223372036854775807 then
 (impl_CrcMore.f k c1 c2).bind fun x => (spec_CrcMore.f k c1 c2).bind fun y => if x = y then (impl_Crc.f k t).bind fun z => (impl_CrcMore.f k z c2).bind fun p => (impl_Crc.f k (t ++ c2)).bind fun q => if p = q then some true else none else none else none
def laws_FnSeal.rest (k : Nat) (t : ByteArray) (l1 : List Int) : Option Bool := (spec_DrawCrcMore.f k l1).bind fun c => laws_FnSeal.restc k t c.1 c.2
def laws_FnSeal.mid (k : Nat) (t s : ByteArray) (l1 : List Int) : Option Bool := if s.size < 4398046511104 then (laws_lwAt.f l1 0 (s.size : Int)).bind fun i => if 0 ≤ i then if i < (s.size : Int) then (laws_lwAt.f l1 1 255).bind fun x => (impl_Unseal.f k s).bind fun u => if u.1.toList = t.toList then if u.2 = (0, 0) then (impl_Unseal.f k (strOfNums (laws_FnSeal.turn s i x))).bind fun v => if v.2.2 = 5 then some true else none else none else none else none else none else none
def laws_FnSeal.f (k : Nat) (l0 l1 : List Int) : Option (Bool) := if (l0.length : Int) > 1048576 then some true else if (l1.length : Int) > 1048576 then some true else
 (spec_DrawSeal.f k l0).bind fun t => (impl_Seal.f k t).bind fun s => (spec_Seal.f k t).bind fun s2 => if s.toList = s2.toList then if s.toList.isEmpty = true then laws_FnSeal.rest k t l1 else (laws_FnSeal.mid k t s l1).bind fun _ => laws_FnSeal.rest k t l1 else none
theorem laws_FnSeal.mono_rest (k : Nat) (t : ByteArray) (l1 : List Int) : LeO (laws_FnSeal.rest k t l1) (laws_FnSeal.rest (k + 1) t l1) :=
 LeO.bind (spec_DrawCrcMore.mono _ _) (fun _ => by unfold laws_FnSeal.restc; exact LeO.ite (LeO.refl _) (LeO.ite (LeO.bind (impl_CrcMore.mono _ _ _) (fun _ => LeO.bind (by first | exact spec_CrcMore.mono _ _ _ | exact LeO.refl _) (fun _ => LeO.ite (LeO.bind (impl_Crc.mono _ _) (fun _ => LeO.bind (impl_CrcMore.mono _ _ _) (fun _ => LeO.bind (impl_Crc.mono _ _) (fun _ => LeO.refl _)))) (LeO.refl _)))) (LeO.refl _)))
theorem laws_FnSeal.mono_mid (k : Nat) (t s : ByteArray) (l1 : List Int) : LeO (laws_FnSeal.mid k t s l1) (laws_FnSeal.mid (k + 1) t s l1) :=
 LeO.ite (LeO.bind (LeO.refl _) (fun _ => LeO.ite (LeO.ite (LeO.bind (LeO.refl _) (fun _ => LeO.bind (impl_Unseal.mono _ _) (fun _ => LeO.ite (LeO.ite (LeO.bind (impl_Unseal.mono _ _) (fun _ => LeO.refl _)) (LeO.refl _)) (LeO.refl _)))) (LeO.refl _)) (LeO.refl _))) (LeO.refl _)
theorem laws_FnSeal.mono : ∀ l0 l1 k, LeO (laws_FnSeal.f k l0 l1) (laws_FnSeal.f (k + 1) l0 l1) := fun _ _ k => LeO.ite (LeO.refl _) (LeO.ite (LeO.refl _) (LeO.bind (spec_DrawSeal.mono _ _) (fun _ => LeO.bind (impl_Seal.mono _ _) (fun _ => LeO.bind (spec_Seal.mono _ _) (fun _ => LeO.ite (LeO.ite (laws_FnSeal.mono_rest _ _ _) (LeO.bind (laws_FnSeal.mono_mid _ _ _ _) (fun _ => laws_FnSeal.mono_rest _ _ _))) (LeO.refl _))))))
def laws_FnSeal.T10 : Bool × List (List Nat × List Nat) := (true, [([], []), ([], []), ([], []), ([], []), ([2, 3], [2, 3]), ([4], [4]), ([], []), ([6], [6]), ([7], [7]), ([8], [8]), ([5, 9], [5, 9]), ([0, 1, 0, 1, 2, 3, 4, 5, 6, 7, 8, 9, 10], [0, 1]), ([11, 10, 7, 0, 1, 2, 3, 4, 5, 6, 7, 8, 9, 10], [10, 11])])
def laws_FnSeal.B10 : List Nat := [0, 0, 0, 0, 12, 28, 0, 64, 192, 448, 1020, 2047, 4095]
theorem laws_FnSeal.tab10 : rtab .any (opsOf Try.f3 10) = laws_FnSeal.T10 := by kernel_rfl
theorem laws_FnSeal.bits10 : waitsOk laws_FnSeal.T10.2 laws_FnSeal.B10 = true := by kernel_rfl
set_option maxHeartbeats 8000000 in
set_option maxRecDepth 100000 in
theorem laws_FnSeal.calls (k : Nat) (A0 : Option Addr) (c0 : Nat) (l0 : List Int) (A1 : Option Addr) (c1 : Nat) (l1 : List Int) (r : Bool) (w : World) (hr0 : Kd.C (Kd.int .u8) w A0 l0.length l0) (hc0 : l0.length ≤ c0) (hr1 : Kd.C (Kd.int .u8) w A1 l1.length l1) (hc1 : l1.length ≤ c1) (h : laws_FnSeal.f k l0 l1 = some r) :
  Calls Try.prog 3 #[.slice A0 l0.length c0, .slice A1 l1.length c1] w fun e w' => e = .returned (.bool r) ∧ Below w.heap.size w w' := by
 have HR0 := Aside0.mk hr0
 have HC0 := Aside0.mk hc0
 have HR1 := Aside0.mk hr1
 have HC1 := Aside0.mk hc1
 clear hr0 hc0 hr1 hc1
 have HB := Aside0.mk (Below.refl w.heap.size w)
 have hu27 := Try.underlying27
 have hfl27_2 : ∀ (x0 x1 x2 : Value) (W : World), (Instr.field 27 (.agg #[x0, x1, x2]) 2).run Try.prog W = .ok (x2) W := fun _ _ _ _ => by kernel_rfl
 unfold laws_FnSeal.f at h
 by_cases b0 : (l0.length : Int) > 1048576
 ·rw [if_pos b0] at h
  obtain rfl := Option.some.inj h
  have b0b0 : decide ((l0.length : Int) > 1048576) = true := decide_eq_true b0
  have b0b1 : decide (1048576 < (l0.length : Int)) = true := decide_eq_true b0
  clear b0 h
  go_enter Try.func3, Try.ntmps3
  go_wp2
  go_ret
  exact ⟨rfl, by repeat (first | (with_reducible first | exact HB.out | apply pw_below_drewN | apply below_drew1) | exact HB.out)⟩
 rw [if_neg b0] at h
 have b0b0 : decide ((l0.length : Int) > 1048576) = false := decide_eq_false b0
 have b0b1 : decide (1048576 < (l0.length : Int)) = false := decide_eq_false b0
 clear b0
 by_cases b1 : (l1.length : Int) > 1048576
 ·rw [if_pos b1] at h
  obtain rfl := Option.some.inj h
  have b1b0 : decide ((l1.length : Int) > 1048576) = true := decide_eq_true b1
  have b1b1 : decide (1048576 < (l1.length : Int)) = true := decide_eq_true b1
  clear b1 h
  go_enter Try.func3, Try.ntmps3
  go_wp2
  go_ret
  exact ⟨rfl, by repeat (first | (with_reducible first | exact HB.out | apply pw_below_drewN | apply below_drew1) | exact HB.out)⟩
 rw [if_neg b1] at h
 have b1b0 : decide ((l1.length : Int) > 1048576) = false := decide_eq_false b1
 have b1b1 : decide (1048576 < (l1.length : Int)) = false := decide_eq_false b1
 clear b1
 obtain ⟨t, AT0, h⟩ := Option.bind_eq_some_iff.1 h
 have AT := Aside0.mk AT0
 clear AT0
 obtain ⟨s, AS0, h⟩ := Option.bind_eq_some_iff.1 h
 have AS := Aside0.mk AS0
 clear AS0
 obtain ⟨s2, AS20, h⟩ := Option.bind_eq_some_iff.1 h
 have AS2 := Aside0.mk AS20
 clear AS20
 by_cases e1 : s.toList = s2.toList
 case neg => rw [if_neg e1] at h; cases h
 rw [if_pos e1] at h
 have e1b0 : (s.toList == s2.toList) = true := beq_iff_eq.mpr e1
 have e1b1 : (s.toList != s2.toList) = false := bne_eq_false_iff_eq.mpr e1
 clear e1
 by_cases e2 : s.toList.isEmpty = true
 ·rw [if_pos e2] at h
  have e2b0 := e2
  clear e2
  go_enter Try.func3, Try.ntmps3
  go_upto_region 13 with (first | (go_at_call 4; (with_reducible refine (spec_DrawSeal.calls k _ _ l0 t _ (Kd.C_below HR0.out HB.out) HC0.out AT.out).mono ?_); rintro e wn ⟨rfl, hb⟩; have n0_ := Aside0.mk (below_step HB.out hb); clear hb HB; have HB := n0_; clear n0_) | (go_at_call 5; (with_reducible refine (impl_Seal.calls k t s _ AS.out).mono ?_); rintro e wn ⟨rfl, hb⟩; have n0_ := Aside0.mk (below_step HB.out hb); clear hb HB; have HB := n0_; clear n0_) | (go_at_call 6; (with_reducible refine (spec_Seal.calls k t s2 _ AS2.out).mono ?_); rintro e wn ⟨rfl, hb⟩; have n0_ := Aside0.mk (below_step HB.out hb); clear hb HB; have HB := n0_; clear n0_))
  unfold laws_FnSeal.rest at h
  obtain ⟨c, AD0, h⟩ := Option.bind_eq_some_iff.1 h
  obtain ⟨c1, c2⟩ := c
  have AD := Aside0.mk AD0
  clear AD0
  unfold laws_FnSeal.restc at h
  by_cases d0 : (wrap64 ((t.size : Int) + (c2.size : Int))) > 8000
  ·rw [if_pos d0] at h
   obtain rfl := Option.some.inj h
   have d0b0 : decide ((wrap64 ((t.size : Int) + (c2.size : Int))) > 8000) = true := decide_eq_true d0
   have d0b1 : decide (8000 < (wrap64 ((t.size : Int) + (c2.size : Int)))) = true := decide_eq_true d0
   clear d0 h
   go_wp2_with (go_at_call 9; (with_reducible refine (spec_DrawCrcMore.calls k _ _ l1 c1 c2 _ (Kd.C_below HR1.out HB.out) HC1.out AD.out).mono ?_); rintro e wn ⟨rfl, hb⟩; have n0_ := Aside0.mk (below_step HB.out hb); clear hb HB; have HB := n0_; clear n0_)
   go_ret
   exact ⟨rfl, HB.out⟩
  rw [if_neg d0] at h
  have d0b0 : decide ((wrap64 ((t.size : Int) + (c2.size : Int))) > 8000) = false := decide_eq_false d0
  have d0b1 : decide (8000 < (wrap64 ((t.size : Int) + (c2.size : Int)))) = false := decide_eq_false d0
  clear d0
  by_cases dd : t.size + c2.size ≤ 9223372036854775807
  case neg => rw [if_neg dd] at h; cases h
  rw [if_pos dd] at h
  have ddb0 := eq_true dd
  have ddb1 : decide (t.size + c2.size ≤ 9223372036854775807) = true := decide_eq_true dd
  have ddb2 : (9223372036854775807 < t.size + c2.size) = False := eq_false (Nat.not_lt.2 dd)
  clear dd
  obtain ⟨x1, AX0, h⟩ := Option.bind_eq_some_iff.1 h
  have AX := Aside0.mk AX0
  clear AX0
  obtain ⟨y1, AY0, h⟩ := Option.bind_eq_some_iff.1 h
  have AY := Aside0.mk AY0
  clear AY0
  by_cases ex : x1 = y1
  case neg => rw [if_neg ex] at h; cases h
  rw [if_pos ex] at h
  subst ex
  obtain ⟨z1, AZ0, h⟩ := Option.bind_eq_some_iff.1 h
  have AZ := Aside0.mk AZ0
  clear AZ0
  obtain ⟨p1, AP0, h⟩ := Option.bind_eq_some_iff.1 h
  have AP := Aside0.mk AP0
  clear AP0
  obtain ⟨q1, AQ0, h⟩ := Option.bind_eq_some_iff.1 h
  have AQ := Aside0.mk AQ0
  clear AQ0
  by_cases eq : p1 = q1
  case neg => rw [if_neg eq] at h; cases h
  rw [if_pos eq] at h
  subst eq
  obtain rfl := Option.some.inj h
  clear h
  go_upto_region 16 with (go_at_call 9; (with_reducible refine (spec_DrawCrcMore.calls k _ _ l1 c1 c2 _ (Kd.C_below HR1.out HB.out) HC1.out AD.out).mono ?_); rintro e wn ⟨rfl, hb⟩; have n0_ := Aside0.mk (below_step HB.out hb); clear hb HB; have HB := n0_; clear n0_)
  go_wp2_with (first | (go_at_call 10; (with_reducible refine (impl_CrcMore.calls k c1 c2 x1 _ AX.out).mono ?_); rintro e wn ⟨rfl, hb⟩; have n0_ := Aside0.mk (below_step HB.out hb); clear hb HB; have HB := n0_; clear n0_) | (go_at_call 11; (with_reducible refine (spec_CrcMore.calls k c1 c2 x1 _ AY.out).mono ?_); rintro e wn ⟨rfl, hd⟩; have hb := hd.below; clear hd; have n0_ := Aside0.mk (below_step HB.out hb); clear hb HB; have HB := n0_; clear n0_) | (go_at_call 12; (with_reducible refine (impl_Crc.calls k t z1 _ AZ.out).mono ?_); rintro e wn ⟨rfl, hb⟩; have n0_ := Aside0.mk (below_step HB.out hb); clear hb HB; have HB := n0_; clear n0_) | (go_at_call 10; (with_reducible refine (impl_CrcMore.calls k z1 c2 p1 _ AP.out).mono ?_); rintro e wn ⟨rfl, hb⟩; have n0_ := Aside0.mk (below_step HB.out hb); clear hb HB; have HB := n0_; clear n0_) | (go_at_call 12; (with_reducible refine (impl_Crc.calls k (t ++ c2) p1 _ AQ.out).mono ?_); rintro e wn ⟨rfl, hb⟩; have n0_ := Aside0.mk (below_step HB.out hb); clear hb HB; have HB := n0_; clear n0_))
  go_ret
  exact ⟨by first | rfl | (simp; done), HB.out⟩
 rw [if_neg e2] at h
 have e2b0 : s.toList.isEmpty = false := Bool.eq_false_iff.mpr e2
 clear e2
 obtain ⟨bz, hM, h⟩ := Option.bind_eq_some_iff.1 h
 have HT := Aside0.mk h
 clear h
 have h := hM
 clear hM
 unfold laws_FnSeal.mid at h
 by_cases sz : s.size < 4398046511104
 case neg => rw [if_neg sz] at h; cases h
 rw [if_pos sz] at h
 have SZ := Aside0.mk sz
 clear sz
 obtain ⟨i, AI0, h⟩ := Option.bind_eq_some_iff.1 h
 have AI := Aside0.mk AI0
 clear AI0
 by_cases i0 : 0 ≤ i
 case neg => rw [if_neg i0] at h; cases h
 rw [if_pos i0] at h
 have I0 := Aside0.mk i0
 have i0b := eq_true i0
 clear i0
 by_cases i1 : i < (s.size : Int)
 case neg => rw [if_neg i1] at h; cases h
 rw [if_pos i1] at h
 have I1 := Aside0.mk i1
 have i1b := eq_true i1
 clear i1
 obtain ⟨x, AX10, h⟩ := Option.bind_eq_some_iff.1 h
 have AX1 := Aside0.mk AX10
 clear AX10
 obtain ⟨u, AU0, h⟩ := Option.bind_eq_some_iff.1 h
 have AU := Aside0.mk AU0
 clear AU0
 obtain ⟨u1, u2, u3⟩ := u
 by_cases eu : u1.toList = t.toList
 case neg => rw [if_neg eu] at h; cases h
 rw [if_pos eu] at h
 have eub0 : (u1.toList == t.toList) = true := beq_iff_eq.mpr eu
 clear eu
 by_cases ev : (u2, u3) = ((0, 0) : Int × Int)
 case neg => rw [if_neg ev] at h; cases h
 rw [if_pos ev] at h
 obtain ⟨rfl, rfl⟩ := Prod.mk.inj ev
 clear ev
 obtain ⟨v, AV0, h⟩ := Option.bind_eq_some_iff.1 h
 have AV := Aside0.mk AV0
 clear AV0
 obtain ⟨v1, v2, v3⟩ := v
 by_cases e5 : v3 = 5
 case neg => rw [if_neg e5] at h; cases h
 rw [if_pos e5] at h
 subst e5
 clear h
 have h := HT.out
 clear HT
 have HBN := Aside0.mk (show (bytesOf s).length = s.size from bytesOf_length s)
 go_enter Try.func3, Try.ntmps3
 have kb := fun W => print_bytes (P := Try.prog) 9 22 5 Try.underlying9 Try.underlying22 Try.underlying5 s W
 go_upto_region 10 with (first | (go_at_call 4; (with_reducible refine (spec_DrawSeal.calls k _ _ l0 t _ (Kd.C_below HR0.out HB.out) HC0.out AT.out).mono ?_); rintro e wn ⟨rfl, hb⟩; have n0_ := Aside0.mk (below_step HB.out hb); clear hb HB; have HB := n0_; clear n0_) | (go_at_call 5; (with_reducible refine (impl_Seal.calls k t s _ AS.out).mono ?_); rintro e wn ⟨rfl, hb⟩; have n0_ := Aside0.mk (below_step HB.out hb); clear hb HB; have HB := n0_; clear n0_) | (go_at_call 6; (with_reducible refine (spec_Seal.calls k t s2 _ AS2.out).mono ?_); rintro e wn ⟨rfl, hb⟩; have n0_ := Aside0.mk (below_step HB.out hb); clear hb HB; have HB := n0_; clear n0_) | ((with_reducible refine gate_dst (N := 30) rfl ?_); refine laws_FnSeal.event ?hg (N := 30) ?hd (e := 5) (s := s) ?hr ?_; (case hd => rfl); (case hg => rfl); (case hr => first | (go_simp; done) | (go_simp; rfl)); intro ad hg cb wn hbw hb; have BW := Aside0.mk hbw; have GB := Aside0.mk (Nat.le_trans (below_size HB.out) hg); clear hbw hg; have n0_ := Aside0.mk (below_step HB.out hb); clear hb HB; have HB := n0_; clear n0_) | (go_at_call 7; (with_reducible refine (laws_lwAt.calls _ _ l1 0 (s.size : Int) i _ (Kd.C_below HR1.out HB.out) HC1.out AI.out).mono ?_); rintro e wn ⟨rfl, hd⟩; have hb := hd.below; clear hd; have nb_ := Aside0.mk (laws_FnSeal.Bw_below BW.out hb); clear BW; have BW := nb_; clear nb_; have n0_ := Aside0.mk (below_step HB.out hb); clear hb HB; have HB := n0_; clear n0_))
 clear kb
 obtain ⟨bb, hbb⟩ : ∃ b_ : Int, (bytesOf s).getD i.toNat 0 = b_ := ⟨_, rfl⟩
 have HBB := Aside0.mk hbb
 clear hbb
 have n0_ := Aside0.mk (below_drew1 HB.out)
 have n1_ := Aside0.mk (show laws_FnSeal.Bw (World.drew _) ad 5 (bytesOf s) from BW.out)
 clear HB BW
 have HB := n0_
 have BW := n1_
 clear n0_ n1_
 have BWc := Aside0.mk (laws_FnSeal.Bw_cell BW.out i I0.out (by rw [HBN.out]; exact I1.out))
 rw [HBB.out] at BWc
 refine start_ (n := 13) (S := fun w' => w'.cell? (ad.add i.toNat) = some (.int .u8 bb)) (ds := [12]) #[false, false, false, false, false, false, false, false, false, false, false, false, false] (by kernel_rfl) rfl rfl (BWc.out) (fun hHeld => ?_)
 refine with_tabW laws_FnSeal.tab10 laws_FnSeal.bits10 (fun HT_ HW_ => ?_)
 generalize World.drew _ = w8 at HB BW BWc hHeld ⊢
 refine pure_ (i := 0) (N := some 35) (v := ?_) (a' := ?_) #[true, false, false, false, false, false, false, false, false, false, false, false, false] rfl rfl (any_of HT_.out (by kernel_rfl)) (fun _ _ _ h => h) (Or.inl ⟨by rfl, ?_⟩) ?_ ?_
 rotate_left
 ·intro w'
  go_simp
  with_reducible rfl
 rotate_left
 ·simp only [Act.put, List.setIfInBounds_toArray, List.set_cons_zero, List.set_cons_succ, i64_w, i32_w]
  rfl
 refine pure_ (i := 1) (N := some 36) (v := ?_) (a' := ?_) #[true, true, false, false, false, false, false, false, false, false, false, false, false] rfl rfl (any_of HT_.out (by kernel_rfl)) (fun _ _ _ h => h) (Or.inl ⟨by rfl, ?_⟩) ?_ ?_
 rotate_left
 ·intro w'
  go_simp
  with_reducible rfl
 rotate_left
 ·simp only [Act.put, List.setIfInBounds_toArray, List.set_cons_zero, List.set_cons_succ, i64_w, i32_w]
  rfl
 refine pure_ (i := 2) (N := some 37) (v := ?_) (a' := ?_) #[true, true, true, false, false, false, false, false, false, false, false, false, false] rfl rfl (any_of HT_.out (by kernel_rfl)) (fun _ _ _ h => h) (Or.inl ⟨by rfl, ?_⟩) ?_ ?_
 rotate_left
 ·intro w'
  go_simp
  with_reducible rfl
 rotate_left
 ·simp only [Act.put, List.setIfInBounds_toArray, List.set_cons_zero, List.set_cons_succ, i64_w, i32_w]
  rfl
 refine pure_ (i := 3) (N := some 38) (v := ?_) (a' := ?_) #[true, true, true, true, false, false, false, false, false, false, false, false, false] rfl rfl (any_of HT_.out (by kernel_rfl)) (fun _ _ _ h => h) (Or.inl ⟨by rfl, ?_⟩) ?_ ?_
 rotate_left
 ·intro w'
  go_simp
  with_reducible rfl
 rotate_left
 ·simp only [Act.put, List.setIfInBounds_toArray, List.set_cons_zero, List.set_cons_succ, i64_w, i32_w]
  rfl
 refine pure_ (i := 4) (N := some 39) (v := ?_) (a' := ?_) #[true, true, true, true, true, false, false, false, false, false, false, false, false] rfl rfl (any_of HT_.out (by kernel_rfl)) (fun _ _ _ h => h) (Or.inl ⟨by rfl, ?_⟩) ?_ ?_
 rotate_left
 ·intro w'
  go_simp
  with_reducible rfl
 rotate_left
 ·simp only [Act.put, List.setIfInBounds_toArray, List.set_cons_zero, List.set_cons_succ, i64_w, i32_w]
  rfl
 refine pure_ (i := 6) (N := some 41) (v := ?_) (a' := ?_) #[true, true, true, true, true, false, true, false, false, false, false, false, false] rfl rfl (any_of HT_.out (by kernel_rfl)) (fun _ _ _ h => h) (Or.inl ⟨by rfl, ?_⟩) ?_ ?_
 rotate_left
 ·intro w'
  go_simp
  with_reducible rfl
 rotate_left
 ·simp only [Act.put, List.setIfInBounds_toArray, List.set_cons_zero, List.set_cons_succ, i64_w, i32_w]
  rfl
 refine take_ (i := 5) (N := some 40) (v := ?_) (a' := ?_) #[true, true, true, true, true, true, true, false, false, false, false, false, false] rfl rfl (take_ofW HT_.out HW_.out (by kernel_rfl)) (fun _ _ _ h => h) (Or.inl ⟨by rfl, ?_⟩) hHeld ?_ ?_
 rotate_left
 ·intro w' s0
  go_simp
  with_reducible rfl
 rotate_left
 ·simp only [Act.put, List.setIfInBounds_toArray, List.set_cons_zero, List.set_cons_succ, i64_w, i32_w]
  rfl
 refine one_ (i := 7) (N := some 42) #[true, true, true, true, true, true, true, true, false, false, false, false, false] rfl rfl (one_of HT_.out (by kernel_rfl)) (by decide) (fun K hK => ?_)
 refine goes_ Try.func7 (by kernel_rfl) rfl #[.slice A1 l1.length c1, .int .i64 1, .int .i64 255] (by rfl) rfl rfl (by simp only [List.map_toArray, List.map_cons, List.map_nil]; rfl) ?_
 with_reducible refine (laws_lwAt.calls A1 c1 l1 1 255 x _ (Kd.C_below HR1.out HB.out) HC1.out AX1.out).mono ?_
 rintro e w9 ⟨rfl, hd⟩
 refine ⟨_, rfl, ?_⟩
 have hb := hd.below
 have nh_ : w9.cell? (ad.add i.toNat) = some (.int .u8 bb) := by rw [← HBB.out]; exact laws_FnSeal.Bw_cell (laws_FnSeal.Bw_below BW.out hb) i I0.out (by rw [HBN.out]; exact I1.out)
 clear hd
 have nb_ := Aside0.mk (laws_FnSeal.Bw_below BW.out hb)
 clear BW
 have BW := nb_
 clear nb_
 have n0_ := Aside0.mk (below_step HB.out hb)
 clear hb HB
 have HB := n0_
 clear n0_
 refine hK.out _ _ (nh_) (fun hHeld => ?_)
 clear hK K
 refine norm_ (a' := ?_) ?_ ?_
 rotate_left
 ·show Act.put _ (some 42) _ = _
  simp only [Act.put, List.setIfInBounds_toArray, List.set_cons_zero, List.set_cons_succ, i64_w, i32_w]
  rfl
 refine pure_ (i := 8) (N := some 43) (v := ?_) (a' := ?_) #[true, true, true, true, true, true, true, true, true, false, false, false, false] rfl rfl (any_of HT_.out (by kernel_rfl)) (fun _ _ _ h => h) (Or.inl ⟨by rfl, ?_⟩) ?_ ?_
 rotate_left
 ·intro w'
  go_simp
  with_reducible rfl
 rotate_left
 ·simp only [Act.put, List.setIfInBounds_toArray, List.set_cons_zero, List.set_cons_succ, i64_w, i32_w]
  rfl
 refine pure_ (i := 9) (N := some 44) (v := ?_) (a' := ?_) #[true, true, true, true, true, true, true, true, true, true, false, false, false] rfl rfl (any_of HT_.out (by kernel_rfl)) (fun _ _ _ h => h) (Or.inl ⟨by rfl, ?_⟩) ?_ ?_
 rotate_left
 ·intro w'
  go_simp
  with_reducible rfl
 rotate_left
 ·simp only [Act.put, List.setIfInBounds_toArray, List.set_cons_zero, List.set_cons_succ, i64_w, i32_w]
  rfl
 refine pure_ (i := 10) (N := some 45) (v := ?_) (a' := ?_) #[true, true, true, true, true, true, true, true, true, true, true, false, false] rfl rfl (any_of HT_.out (by kernel_rfl)) (fun _ _ _ h => h) (Or.inl ⟨by rfl, ?_⟩) ?_ ?_
 rotate_left
 ·intro w'
  go_simp
  with_reducible rfl
 rotate_left
 ·simp only [Act.put, List.setIfInBounds_toArray, List.set_cons_zero, List.set_cons_succ, i64_w, i32_w]
  rfl
 refine pure_ (i := 11) (N := some 46) (v := ?_) (a' := ?_) #[true, true, true, true, true, true, true, true, true, true, true, true, false] rfl rfl (any_of HT_.out (by kernel_rfl)) (fun _ _ _ h => h) (Or.inl ⟨by rfl, ?_⟩) ?_ ?_
 rotate_left
 ·intro w'
  go_simp
  with_reducible rfl
 rotate_left
 ·simp only [Act.put, List.setIfInBounds_toArray, List.set_cons_zero, List.set_cons_succ, i64_w, i32_w]
  rfl
 refine last_ (i := 12) (N := none) #[true, true, true, true, true, true, true, true, true, true, true, true, true] rfl rfl (one_of HT_.out (by kernel_rfl)) (by decide) (fun K hK => ?_)
 have hs7 : w9.cell? (ad.add i.toNat) = some (.int .u8 bb) := by rw [← HBB.out]; exact laws_FnSeal.Bw_cell BW.out i I0.out (by rw [HBN.out]; exact I1.out)
 have hfs7 : w9.frozen? (ad.add i.toNat) = false := laws_FnSeal.Bw_frozen BW.out i I0.out (by rw [HBN.out]; exact I1.out)
 refine skip_ (w1 := ?_) (by rfl) rfl ?_ ?_
 rotate_left
 ·go_simp
  rfl
 refine hK.out _ _ ?_
 clear hK K
 refine done_ (done_of HT_.out (by kernel_rfl)) ?_
 generalize hw10 : World.setCell w9 _ _ = w10
 have n1_ : Aside0 (laws_FnSeal.Bw w10 ad 5 ((bytesOf s).set i.toNat (Go.bits .xor .u8 bb ((wrap64 (1 + x)) % 256)))) := ⟨by rw [← hw10]; exact laws_FnSeal.Bw_set BW.out i _⟩
 have n0_ : Aside0 (Below w.heap.size w w10) := ⟨by rw [← hw10]; exact laws_FnSeal.set_below HB.out GB.out i.toNat⟩
 clear HB BW BWc hw10
 have HB := n0_
 have BW := n1_
 clear n0_ n1_
 have HBC : Aside0 (∀ W : World, laws_FnSeal.Bw W ad 5 ((bytesOf s).set i.toNat (Go.bits .xor .u8 bb ((wrap64 (1 + x)) % 256))) → Kd.C (Kd.int .u8) W (some ad) s.size (laws_FnSeal.turn s i x)) := ⟨fun W hW => by have h_ := laws_FnSeal.Bw_C hW (by have h1 := HBN.out; have h2 := SZ.out; rw [List.length_set]; omega); rw [List.length_set, HBN.out] at h_; unfold laws_FnSeal.turn; rw [HBB.out]; exact h_⟩
 (first | go_step | go_back)
 go_upto_region 13 with (first | (go_at_call 8; (with_reducible refine (impl_Unseal.calls k s u1 0 0 _ AU.out).mono ?_); rintro e wn ⟨rfl, hb⟩; have nb_ := Aside0.mk (laws_FnSeal.Bw_below BW.out hb); clear BW; have BW := nb_; clear nb_; have n0_ := Aside0.mk (below_step HB.out hb); clear hb HB; have HB := n0_; clear n0_; have hcv := Kd.C_string (P := Try.prog) (A := some ad) (c := cb) Try.underlying22 Try.underlying5 Try.underlying9 (HBC.out _ BW.out)) | (go_at_call 8; (with_reducible refine (impl_Unseal.calls k (strOfNums (laws_FnSeal.turn s i x)) v1 v2 5 _ AV.out).mono ?_); rintro e wn ⟨rfl, hb⟩; have n0_ := Aside0.mk (below_step HB.out hb); clear hb HB; have HB := n0_; clear n0_))
 unfold laws_FnSeal.rest at h
 obtain ⟨c, AD0, h⟩ := Option.bind_eq_some_iff.1 h
 obtain ⟨c1, c2⟩ := c
 have AD := Aside0.mk AD0
 clear AD0
 unfold laws_FnSeal.restc at h
 by_cases d0 : (wrap64 ((t.size : Int) + (c2.size : Int))) > 8000
 ·rw [if_pos d0] at h
  obtain rfl := Option.some.inj h
  have d0b0 : decide ((wrap64 ((t.size : Int) + (c2.size : Int))) > 8000) = true := decide_eq_true d0
  have d0b1 : decide (8000 < (wrap64 ((t.size : Int) + (c2.size : Int)))) = true := decide_eq_true d0
  clear d0 h
  go_wp2_with (go_at_call 9; (with_reducible refine (spec_DrawCrcMore.calls k _ _ l1 c1 c2 _ (Kd.C_below HR1.out HB.out) HC1.out AD.out).mono ?_); rintro e wn ⟨rfl, hb⟩; have n0_ := Aside0.mk (below_step HB.out hb); clear hb HB; have HB := n0_; clear n0_)
  go_ret
  exact ⟨rfl, HB.out⟩
 rw [if_neg d0] at h
 have d0b0 : decide ((wrap64 ((t.size : Int) + (c2.size : Int))) > 8000) = false := decide_eq_false d0
 have d0b1 : decide (8000 < (wrap64 ((t.size : Int) + (c2.size : Int)))) = false := decide_eq_false d0
 clear d0
 by_cases dd : t.size + c2.size ≤ 9223372036854775807
 case neg => rw [if_neg dd] at h; cases h
 rw [if_pos dd] at h
 have ddb0 := eq_true dd
 have ddb1 : decide (t.size + c2.size ≤ 9223372036854775807) = true := decide_eq_true dd
 have ddb2 : (9223372036854775807 < t.size + c2.size) = False := eq_false (Nat.not_lt.2 dd)
 clear dd
 obtain ⟨x1, AX0, h⟩ := Option.bind_eq_some_iff.1 h
 have AX := Aside0.mk AX0
 clear AX0
 obtain ⟨y1, AY0, h⟩ := Option.bind_eq_some_iff.1 h
 have AY := Aside0.mk AY0
 clear AY0
 by_cases ex : x1 = y1
 case neg => rw [if_neg ex] at h; cases h
 rw [if_pos ex] at h
 subst ex
 obtain ⟨z1, AZ0, h⟩ := Option.bind_eq_some_iff.1 h
 have AZ := Aside0.mk AZ0
 clear AZ0
 obtain ⟨p1, AP0, h⟩ := Option.bind_eq_some_iff.1 h
 have AP := Aside0.mk AP0
 clear AP0
 obtain ⟨q1, AQ0, h⟩ := Option.bind_eq_some_iff.1 h
 have AQ := Aside0.mk AQ0
 clear AQ0
 by_cases eq : p1 = q1
 case neg => rw [if_neg eq] at h; cases h
 rw [if_pos eq] at h
 subst eq
 obtain rfl := Option.some.inj h
 clear h
 go_upto_region 16 with (go_at_call 9; (with_reducible refine (spec_DrawCrcMore.calls k _ _ l1 c1 c2 _ (Kd.C_below HR1.out HB.out) HC1.out AD.out).mono ?_); rintro e wn ⟨rfl, hb⟩; have n0_ := Aside0.mk (below_step HB.out hb); clear hb HB; have HB := n0_; clear n0_)
 go_wp2_with (first | (go_at_call 10; (with_reducible refine (impl_CrcMore.calls k c1 c2 x1 _ AX.out).mono ?_); rintro e wn ⟨rfl, hb⟩; have n0_ := Aside0.mk (below_step HB.out hb); clear hb HB; have HB := n0_; clear n0_) | (go_at_call 11; (with_reducible refine (spec_CrcMore.calls k c1 c2 x1 _ AY.out).mono ?_); rintro e wn ⟨rfl, hd⟩; have hb := hd.below; clear hd; have n0_ := Aside0.mk (below_step HB.out hb); clear hb HB; have HB := n0_; clear n0_) | (go_at_call 12; (with_reducible refine (impl_Crc.calls k t z1 _ AZ.out).mono ?_); rintro e wn ⟨rfl, hb⟩; have n0_ := Aside0.mk (below_step HB.out hb); clear hb HB; have HB := n0_; clear n0_) | (go_at_call 10; (with_reducible refine (impl_CrcMore.calls k z1 c2 p1 _ AP.out).mono ?_); rintro e wn ⟨rfl, hb⟩; have n0_ := Aside0.mk (below_step HB.out hb); clear hb HB; have HB := n0_; clear n0_) | (go_at_call 12; (with_reducible refine (impl_Crc.calls k (t ++ c2) p1 _ AQ.out).mono ?_); rintro e wn ⟨rfl, hb⟩; have n0_ := Aside0.mk (below_step HB.out hb); clear hb HB; have HB := n0_; clear n0_))
 go_ret
 exact ⟨by first | rfl | (simp; done), HB.out⟩
def laws_FnSeal.Pure : Prop := ∀ (l0 : List Int) (l1 : List Int), l0.length ≤ maxLen → l0.length * 1 ≤ 140737488351232 → (∀ x ∈ l0, (Lit.int .u8 x).wf = true) → l1.length ≤ maxLen → l1.length * 1 ≤ 140737488351232 → (∀ x ∈ l1, (Lit.int .u8 x).wf = true) → ∃ k, laws_FnSeal.f k l0 l1 = some true
theorem laws_FnSeal.walk (P : laws_FnSeal.Pure) (a0 : Option Addr) (len0 cap0 : Nat) (z0 : List Int) (a1 : Option Addr) (len1 cap1 : Nat) (z1 : List Int) (w : World) (w0 : (a0 = none ∧ len0 = 0 ∧ cap0 = 0 ∧ z0 = []) ∨ ∃ x, a0 = some x ∧ len0 ≤ cap0 ∧ cap0 ≤ maxLen ∧ z0.length = cap0 ∧ (∀ i, i < z0.length → w.cell? (x.add i) = some (.int .u8 (z0.getD i 0))) ∧ ∀ n ∈ z0, (Lit.int .u8 n).wf = true) (y0 : len0 * 1 ≤ 140737488351232) (w1 : (a1 = none ∧ len1 = 0 ∧ cap1 = 0 ∧ z1 = []) ∨ ∃ x, a1 = some x ∧ len1 ≤ cap1 ∧ cap1 ≤ maxLen ∧ z1.length = cap1 ∧ (∀ i, i < z1.length → w.cell? (x.add i) = some (.int .u8 (z1.getD i 0))) ∧ ∀ n ∈ z1, (Lit.int .u8 n).wf = true) (y1 : len1 * 1 ≤ 140737488351232) :
  Calls Try.prog 3 #[.slice a0 len0 cap0, .slice a1 len1 cap1] w fun e w' => e = .returned (.bool true) ∧ Below w.heap.size w w' := by
 obtain ⟨l0, rfl, hr0, hm0, hw0, hc0⟩ := ReadsInt.ofRowC w0
 obtain ⟨l1, rfl, hr1, hm1, hw1, hc1⟩ := ReadsInt.ofRowC w1
 obtain ⟨k, h⟩ := P l0 l1 hm0 y0 hw0 hm1 y1 hw1
 refine (laws_FnSeal.calls k _ _ l0 _ _ l1 true w (Kd.C_of_reads (d := (0 : Int)) (h1 := fun _ => rfl) hr0) hc0 (Kd.C_of_reads (d := (0 : Int)) (h1 := fun _ => rfl) hr1) hc1 h).mono ?_
 rintro e w' ⟨rfl, hd⟩
 exact ⟨rfl, hd⟩
end Go.Proofs.Ytdlbcamnimdfjaa.PFnSeal
