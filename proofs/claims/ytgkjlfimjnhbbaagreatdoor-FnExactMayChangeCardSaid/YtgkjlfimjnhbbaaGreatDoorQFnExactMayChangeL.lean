-- Laid by this session's own program out of the translation; Lean checks it.
import Derived.Test.YtgkjlfimjnhbbaaGreatDoorRows
import Derived.Test.YtgkjlfimjnhbbaaGreatDoorQFnExactMayChangex20
import Derived.Test.YtgkjlfimjnhbbaaGreatDoorQFnExactMayChangep
import Derived.Test.YtgkjlfimjnhbbaaGreatDoorQFnExactMayChangew
import Derived.WalkKit
import Derived.ProofKit
import Derived.OpenShut
import Derived.ShutString
import Derived.ChangeOld
import Derived.Below
import Derived.SizedLaws
import Derived.Carry
import Derived.Test.YtgkjlfimjnhbbaaGreatDoorCards
import Derived.Test.YtgkjlfimjnhbbaaGreatDoorTie
import Derived.LaidMore
import Derived.Lay
import Derived.Handed
import Derived.Stop.Joined
import Derived.SevenTiedAt
namespace Go.Proofs.YtgkjlfimjnhbbaaGreatDoor.fnExactMayChange
open Go.ChangeShapes Go.WideShapes Go.ChangeAt Go.RowKit Go.Proofs.YtgkjlfimjnhbbaaGreatDoorW.PrintWords Go.Proofs.YtgkjlfimjnhbbaaGreatDoorW.Opened
open Go.ChangeMaps (open_string shut_string)
set_option linter.unusedVariables false
theorem own : ownKnob Tryz.prog.godebug = none := by kernel_rfl
theorem laidOut : laidOutB Tryz.prog = true := by kernel_rfl
theorem opn120 : Opn Tryz.prog 120 PFnExactMayChange.k120 PFnExactMayChange.ok120 :=
  opn_struct Tryz.underlying120 rfl (by kernel_rfl) (opnf_cons (off2 := 1) rfl (by kernel_rfl) rfl (opn_string Tryz.underlying9) (opnf_one rfl (by kernel_rfl) (opn_string Tryz.underlying9))) _ (fun p => ⟨p.1, p.2⟩) (fun _ => rfl)
theorem opn73 : Opn Tryz.prog 73 PFnExactMayChange.k73 PFnExactMayChange.ok73 :=
  opn_struct Tryz.underlying73 rfl (by kernel_rfl) (opnf_cons (off2 := 1) rfl (by kernel_rfl) rfl (opn_string Tryz.underlying9) (opnf_cons (off2 := 2) rfl (by kernel_rfl) rfl (opn_slice (b := 32) Tryz.underlying23 (by kernel_rfl) (by kernel_rfl) opn120) (opnf_cons (off2 := 3) rfl (by kernel_rfl) rfl (opn_slice (b := 16) Tryz.underlying27 (by kernel_rfl) (by kernel_rfl) (opn_string Tryz.underlying9)) (opnf_cons (off2 := 4) rfl (by kernel_rfl) rfl (opn_int Tryz.underlying2) (opnf_one rfl (by kernel_rfl) (opn_bool Tryz.underlying4)))))) _ (fun p => ⟨p.1, p.2.1, p.2.2.1, p.2.2.2.1, p.2.2.2.2⟩) (fun _ => rfl)
theorem opn123 : Opn Tryz.prog 123 PFnExactMayChange.k123 PFnExactMayChange.ok123 :=
  opn_struct Tryz.underlying123 rfl (by kernel_rfl) (opnf_cons (off2 := 1) rfl (by kernel_rfl) rfl (opn_string Tryz.underlying9) (opnf_one rfl (by kernel_rfl) (opn_slice (b := 16) Tryz.underlying27 (by kernel_rfl) (by kernel_rfl) (opn_string Tryz.underlying9)))) _ (fun p => ⟨p.1, p.2⟩) (fun _ => rfl)
theorem opn26 : Opn Tryz.prog 26 PFnExactMayChange.k26 PFnExactMayChange.ok26 :=
  opn_struct Tryz.underlying26 rfl (by kernel_rfl) (opnf_cons (off2 := 1) rfl (by kernel_rfl) rfl (opn_slice (b := 32) Tryz.underlying23 (by kernel_rfl) (by kernel_rfl) opn120) (opnf_one rfl (by kernel_rfl) (opn_slice (b := 40) Tryz.underlying24 (by kernel_rfl) (by kernel_rfl) opn123))) _ (fun p => ⟨p.1, p.2⟩) (fun _ => rfl)
set_option maxRecDepth 100000 in
theorem lifted (os : Os) (started : os.Started) (H : Type) (enc : TypeId × Value → H) :
    ReturnsInHanded {} Tryz.checked os 3 .any (fun w args => (Rows.fnExactMayChangeSpec.pre enc Tryz.prog Tryz.f3 [] false w args ∧ laidMetH Tryz.prog Rows.fnExactMayChangeRow.laid w) ∧ sizedMet enc Tryz.prog Tryz.f3 (OpenSpec.ofChange Rows.fnExactMayChangeSpec) false w args) (Rows.fnExactMayChangeSpec.post enc Tryz.prog Tryz.f3 false true false false) := by
  refine returnsInHanded_of_change_and (C := Tryz.checked) (X := fun w _ => laidMetH Tryz.prog Rows.fnExactMayChangeRow.laid w) (fun _ _ _ hh h => h.of_heap hh) own started (by kernel_rfl) Tryz.func3
    (ChangeSpec.witness_shaped (enc := enc) (C := Tryz.checked) (os := os) (X := fun w _ => laidMetH Tryz.prog Rows.fnExactMayChangeRow.laid w) false (World.laidAll Tryz.prog os Rows.fnExactMayChangeRow.laid) #[.slice none 0 0, .string ByteArray.empty, (.agg #[(.slice none 0 0), (.slice none 0 0)]), .slice none 0 0] 8 (World.laidAll_os _ _ _) (World.shaped_of_ZipB (by kernel_rfl) (by kernel_rfl)) (by kernel_rfl) (by kernel_rfl) (by kernel_rfl) (by rw [MakeChecks.laidMetH_plain _ _ _ (by kernel_rfl)]; exact laidMet_laidAll _ (by kernel_rfl) (by kernel_rfl))) ?_
  intro W base args ds gs before hval0 hW hcnd hsz0 hL _
  have hsz : (DataW.weightsEach Tryz.prog (Tryz.f3.params.toList ++ Rows.fnExactMayChangeSpec.plain.varTypes Tryz.prog) (ds ++ gs)).all (· ≤ reachBytes) = true := hsz0
  have hval : ∀ (j : Nat) t v, Tryz.f3.params[j]? = some t → args[j]? = some v → Value.okWide Tryz.prog W .any base t v := hval0
  have hW' := hW
  obtain ⟨p, q, hA0, hV, rfl, hfz, hnd⟩ := hW
  have hA : DataW.TrodAll enc Tryz.prog W 0 (fun _ => true) true Tryz.f3.params.toList args.toList ds p := hA0
  rw [Tryz.params3] at hA hval hsz
  obtain ⟨v0, vs0, d0, ds0, p0, q0, hargs, rfl, rfl, h0, r0⟩ := trodAll_cons hA
  obtain ⟨v1, vs1, d1, ds1, p1, q1, rfl, rfl, rfl, h1, r1⟩ := trodAll_cons r0
  obtain ⟨v2, vs2, d2, ds2, p2, q2, rfl, rfl, rfl, h2, r2⟩ := trodAll_cons r1
  obtain ⟨v3, vs3, d3, ds3, p3, q3, rfl, rfl, rfl, h3, r3⟩ := trodAll_cons r2
  obtain ⟨rfl, rfl, rfl⟩ := trodAll_nil r3
  obtain rfl : args = #[v0, v1, v2, v3] := by cases args; simp_all
  obtain ⟨rfl, rfl⟩ := trodVars_none hV
  have k0 := h0
  have lt0 : ∀ x ∈ p0, x.block < W.heap.size := by obtain ⟨m, hm⟩ := k0; exact DataW.trod_lt m _ _ _ hm
  obtain ⟨A0, len0, cap0, rfl⟩ := okWide_slice Tryz.underlying22 (hval 0 22 v0 rfl rfl)
  obtain ⟨l0, hK0, hO0⟩ := opn_arg hsz (j := 0) (t := 22) rfl rfl h0 (opn_slice (b := 80) Tryz.underlying22 (by kernel_rfl) (by kernel_rfl) opn73)
  obtain ⟨rfl, hc0, hr0⟩ := opn_slice_arg hK0
  obtain ⟨a1, rfl, rfl, rfl, y1⟩ := open_string Tryz.underlying9 (hval 1 9 v1 rfl rfl) h1
  have w1 : a1.size ≤ 140737488351232 := by
    have z := sized_string hsz (j := 1) (t := 9) rfl rfl
    rw [Array.length_toList] at z
    exact z
  have k2 := h2
  have lt2 : ∀ x ∈ p2, x.block < W.heap.size := by obtain ⟨m, hm⟩ := k2; exact DataW.trod_lt m _ _ _ hm
  obtain ⟨cs2, rfl, _⟩ := okWide_struct Tryz.underlying26 (hval 2 26 v2 rfl rfl)
  obtain ⟨x2, hK2, hO2⟩ := opn_arg hsz (j := 2) (t := 26) rfl rfl h2 opn26
  obtain ⟨A2_0, c2_0, A2_1, c2_1, e2, hc2_0, hr2_0, hc2_1, hr2_1⟩ := PFnExactMayChange.k26_open hK2
  obtain rfl : cs2 = #[.slice A2_0 x2.f0.length c2_0, .slice A2_1 x2.f1.length c2_1] := by rw [← Array.toList_inj]; exact e2
  have k3 := h3
  have lt3 : ∀ x ∈ p3, x.block < W.heap.size := by obtain ⟨m, hm⟩ := k3; exact DataW.trod_lt m _ _ _ hm
  obtain ⟨A3, len3, cap3, rfl⟩ := okWide_slice Tryz.underlying27 (hval 3 27 v3 rfl rfl)
  obtain ⟨l3, hK3, hO3⟩ := opn_arg hsz (j := 3) (t := 27) rfl rfl h3 (opn_slice (b := 16) Tryz.underlying27 (by kernel_rfl) (by kernel_rfl) (opn_string Tryz.underlying9))
  obtain ⟨rfl, hc3, hr3⟩ := opn_slice_arg hK3
  clear hA0 hval0 hsz0 hsz
  obtain ⟨k, h⟩ := Pure.FnExactMayChange l0 a1 x2.f0 x2.f1 l3 hO0 w1 hO2.1 hO2.2 hO3
  refine (PFnExactMayChange.laws_FnExactMayChange.calls k _ _ l0 a1 _ _ x2.f0 _ _ x2.f1 _ _ l3 true W hr0 hc0 hr2_0 hc2_0 hr2_1 hc2_1 hr3 hc3 h).mono fun e W' ⟨he, bel⟩ => ?_
  subst he
  exact ⟨_, rfl, _, _, _, [], _, [], hW', trodAll_mk1 (shut_bool Tryz.underlying4 _), (trodAll_cons_mk (Below.trod laidOut (by kernel_rfl) (of_decide_eq_true (by kernel_rfl)) k0 bel lt0) (trodAll_cons_mk (shut_string Tryz.underlying9 y1) (trodAll_cons_mk (Below.trod laidOut (by kernel_rfl) (of_decide_eq_true (by kernel_rfl)) k2 bel lt2) (trodAll_cons_mk (Below.trod laidOut (by kernel_rfl) (of_decide_eq_true (by kernel_rfl)) k3 bel lt3) trodAll_mk0)))), rfl, bel.frame _, fun h => by cases h⟩
theorem over : Rows.fnExactMayChangeRow.holds Tryz.pinned (OpenSpec.ofChange Rows.fnExactMayChangeSpec) :=
  OpenClaim.holds_of_wide 3 Tryz.f3 rfl rfl rfl rfl rfl rfl rfl ⟨rfl, rfl, rfl, rfl, rfl⟩ rfl rfl rfl rfl rfl (by kernel_rfl) Tryz.func3 (by kernel_rfl)
    (of_decide_eq_true (by kernel_rfl)) (by unfold Func.isWrapper; first | (rw [if_pos (by decide +kernel)]; kernel_rfl) | (rw [if_neg (by decide +kernel)]; exact ⟨rfl, rfl⟩))
    (fun os started H enc _ => lifted os started H enc)
theorem proved : Rows.FnExactMayChangeCardSaid :=
  Claim7.holds_tied_plain_at .later [] [.data, .pinned] true (true, "745534ad459e660fd0e0a0650855f272fb8aa22481cc5ec3ad997952bc6554a3") true
    over (fun _ h => by cases h) (by kernel_rfl) (fun _ h => by cases h) fnExactMayChange_row_tie rfl ⟨rfl, rfl⟩ (by kernel_rfl) rfl
    (fun f fn hf hfn => by
      obtain rfl : f = 3 := Option.some.inj ((show Tryz.prog.funcNamed "loop.example/g00402/laws.FnExactMayChange" = some 3 by kernel_rfl).symm.trans hf) |>.symm
      obtain rfl : fn = Tryz.f3 := (Option.some.inj (Tryz.func3.symm.trans hfn)).symm
      exact ⟨by kernel_rfl, fun j t ht => by
        rw [Tryz.params3] at ht
        have hm : t ∈ [22, 9, 26, 27] := by simpa using Array.mem_of_getElem? ht
        have hall : ([22, 9, 26, 27].all fun u => !Tryz.prog.wantsStandIn u) = true := by kernel_rfl
        exact (show Tryz.prog.wantsStandIn t = false by simpa using List.all_eq_true.1 hall t hm)⟩)
    (by kernel_rfl)
#print axioms proved
end Go.Proofs.YtgkjlfimjnhbbaaGreatDoor.fnExactMayChange
namespace Go.Proofs.YtgkjlfimjnhbbaaGreatDoor
/-- The statement, under a short name, for the claim. -/
theorem fnExactMayChangeCard_holds : Rows.FnExactMayChangeCardSaid := fnExactMayChange.proved
end Go.Proofs.YtgkjlfimjnhbbaaGreatDoor
