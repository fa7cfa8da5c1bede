-- Laid by this session's own program out of the translation; Lean checks it.
import Derived.Test.YtdbboelacgehoaaDoorRows
import Derived.Test.YtdbboelacgehoaaDoorQFnExactAllowedx11
import Derived.Test.YtdbboelacgehoaaDoorQFnExactAllowedp
import Derived.Test.YtdbboelacgehoaaDoorQFnExactAllowedw
import Derived.WalkKit
import Derived.ProofKit
import Derived.OpenShut
import Derived.ShutString
import Derived.ChangeOld
import Derived.Below
import Derived.SizedLaws
import Derived.Carry
import Derived.Test.YtdbboelacgehoaaDoorCards
import Derived.Test.YtdbboelacgehoaaDoorTie
import Derived.LaidMore
import Derived.Lay
import Derived.Handed
import Derived.Stop.Joined
import Derived.SevenTiedAt
namespace Go.Proofs.YtdbboelacgehoaaDoor.fnExactAllowed
open Go.ChangeShapes Go.WideShapes Go.ChangeAt Go.RowKit Go.Proofs.YtdbboelacgehoaaDoorW.PrintWords Go.Proofs.YtdbboelacgehoaaDoorW.Opened
open Go.ChangeMaps (open_string shut_string)
set_option linter.unusedVariables false
theorem own : ownKnob Tryd.prog.godebug = none := by kernel_rfl
theorem laidOut : laidOutB Tryd.prog = true := by kernel_rfl
theorem opn50 : Opn Tryd.prog 50 PFnExactAllowed.k50 PFnExactAllowed.ok50 :=
  opn_struct Tryd.underlying50 rfl (by kernel_rfl) (opnf_cons (off2 := 1) rfl (by kernel_rfl) rfl (opn_string Tryd.underlying9) (opnf_one rfl (by kernel_rfl) (opn_string Tryd.underlying9))) _ (fun p => ⟨p.1, p.2⟩) (fun _ => rfl)
theorem opn103 : Opn Tryd.prog 103 PFnExactAllowed.k103 PFnExactAllowed.ok103 :=
  opn_struct Tryd.underlying103 rfl (by kernel_rfl) (opnf_cons (off2 := 1) rfl (by kernel_rfl) rfl (opn_string Tryd.underlying9) (opnf_cons (off2 := 2) rfl (by kernel_rfl) rfl (opn_slice (b := 32) Tryd.underlying29 (by kernel_rfl) (by kernel_rfl) opn50) (opnf_cons (off2 := 3) rfl (by kernel_rfl) rfl (opn_slice (b := 16) Tryd.underlying101 (by kernel_rfl) (by kernel_rfl) (opn_string Tryd.underlying9)) (opnf_cons (off2 := 4) rfl (by kernel_rfl) rfl (opn_int Tryd.underlying2) (opnf_one rfl (by kernel_rfl) (opn_bool Tryd.underlying4)))))) _ (fun p => ⟨p.1, p.2.1, p.2.2.1, p.2.2.2.1, p.2.2.2.2⟩) (fun _ => rfl)
set_option maxRecDepth 100000 in
theorem lifted (os : Os) (started : os.Started) (H : Type) (enc : TypeId × Value → H) :
    ReturnsInHanded {} Tryd.checked os 13 .any (fun w args => (Rows.fnExactAllowedSpec.pre enc Tryd.prog Tryd.f13 [] false w args ∧ laidMetH Tryd.prog Rows.fnExactAllowedRow.laid w) ∧ sizedMet enc Tryd.prog Tryd.f13 (OpenSpec.ofChange Rows.fnExactAllowedSpec) false w args) (Rows.fnExactAllowedSpec.post enc Tryd.prog Tryd.f13 false true false false) := by
  refine returnsInHanded_of_change_and (C := Tryd.checked) (X := fun w _ => laidMetH Tryd.prog Rows.fnExactAllowedRow.laid w) (fun _ _ _ hh h => h.of_heap hh) own started (by kernel_rfl) Tryd.func13
    (ChangeSpec.witness_shaped (enc := enc) (C := Tryd.checked) (os := os) (X := fun w _ => laidMetH Tryd.prog Rows.fnExactAllowedRow.laid w) false (World.laidAll Tryd.prog os Rows.fnExactAllowedRow.laid) #[.slice none 0 0, .string ByteArray.empty, .slice none 0 0, .string ByteArray.empty, .int .i64 0] 8 (World.laidAll_os _ _ _) (World.shaped_of_ZipB (by kernel_rfl) (by kernel_rfl)) (by kernel_rfl) (by kernel_rfl) (by kernel_rfl) (by rw [MakeChecks.laidMetH_plain _ _ _ (by kernel_rfl)]; exact laidMet_laidAll _ (by kernel_rfl) (by kernel_rfl))) ?_
  intro W base args ds gs before hval0 hW hcnd hsz0 hL _
  have hsz : (DataW.weightsEach Tryd.prog (Tryd.f13.params.toList ++ Rows.fnExactAllowedSpec.plain.varTypes Tryd.prog) (ds ++ gs)).all (· ≤ reachBytes) = true := hsz0
  have hval : ∀ (j : Nat) t v, Tryd.f13.params[j]? = some t → args[j]? = some v → Value.okWide Tryd.prog W .any base t v := hval0
  have hW' := hW
  obtain ⟨p, q, hA0, hV, rfl, hfz, hnd⟩ := hW
  have hA : DataW.TrodAll enc Tryd.prog W 0 (fun _ => true) true Tryd.f13.params.toList args.toList ds p := hA0
  rw [Tryd.params13] at hA hval hsz
  obtain ⟨v0, vs0, d0, ds0, p0, q0, hargs, rfl, rfl, h0, r0⟩ := trodAll_cons hA
  obtain ⟨v1, vs1, d1, ds1, p1, q1, rfl, rfl, rfl, h1, r1⟩ := trodAll_cons r0
  obtain ⟨v2, vs2, d2, ds2, p2, q2, rfl, rfl, rfl, h2, r2⟩ := trodAll_cons r1
  obtain ⟨v3, vs3, d3, ds3, p3, q3, rfl, rfl, rfl, h3, r3⟩ := trodAll_cons r2
  obtain ⟨v4, vs4, d4, ds4, p4, q4, rfl, rfl, rfl, h4, r4⟩ := trodAll_cons r3
  obtain ⟨rfl, rfl, rfl⟩ := trodAll_nil r4
  obtain rfl : args = #[v0, v1, v2, v3, v4] := by cases args; simp_all
  obtain ⟨rfl, rfl⟩ := trodVars_none hV
  have k0 := h0
  have lt0 : ∀ x ∈ p0, x.block < W.heap.size := by obtain ⟨m, hm⟩ := k0; exact DataW.trod_lt m _ _ _ hm
  obtain ⟨A0, len0, cap0, rfl⟩ := okWide_slice Tryd.underlying57 (hval 0 57 v0 rfl rfl)
  obtain ⟨l0, hK0, hO0⟩ := opn_arg hsz (j := 0) (t := 57) rfl rfl h0 (opn_slice (b := 80) Tryd.underlying57 (by kernel_rfl) (by kernel_rfl) opn103)
  obtain ⟨rfl, hc0, hr0⟩ := opn_slice_arg hK0
  obtain ⟨a1, rfl, rfl, rfl, y1⟩ := open_string Tryd.underlying9 (hval 1 9 v1 rfl rfl) h1
  have w1 : a1.size ≤ 140737488351232 := by
    have z := sized_string hsz (j := 1) (t := 9) rfl rfl
    rw [Array.length_toList] at z
    exact z
  have k2 := h2
  have lt2 : ∀ x ∈ p2, x.block < W.heap.size := by obtain ⟨m, hm⟩ := k2; exact DataW.trod_lt m _ _ _ hm
  obtain ⟨A2, len2, cap2, rfl⟩ := okWide_slice Tryd.underlying29 (hval 2 29 v2 rfl rfl)
  obtain ⟨l2, hK2, hO2⟩ := opn_arg hsz (j := 2) (t := 29) rfl rfl h2 (opn_slice (b := 32) Tryd.underlying29 (by kernel_rfl) (by kernel_rfl) opn50)
  obtain ⟨rfl, hc2, hr2⟩ := opn_slice_arg hK2
  obtain ⟨a3, rfl, rfl, rfl, y3⟩ := open_string Tryd.underlying9 (hval 3 9 v3 rfl rfl) h3
  have w3 : a3.size ≤ 140737488351232 := by
    have z := sized_string hsz (j := 3) (t := 9) rfl rfl
    rw [Array.length_toList] at z
    exact z
  obtain ⟨a4, rfl, rfl, rfl, w4⟩ := open_int Tryd.underlying2 (hval 4 2 v4 rfl rfl) h4
  clear hA0 hval0 hsz0 hsz
  obtain ⟨k, h⟩ := Pure.FnExactAllowed l0 a1 l2 a3 a4 hO0 w1 hO2 w3 w4
  refine (PFnExactAllowed.laws_FnExactAllowed.calls k _ _ l0 a1 _ _ l2 a3 a4 true W hr0 hc0 hr2 hc2 h).mono fun e W' ⟨he, bel⟩ => ?_
  subst he
  exact ⟨_, rfl, _, _, _, [], _, [], hW', trodAll_mk1 (shut_bool Tryd.underlying4 _), (trodAll_cons_mk (Below.trod laidOut (by kernel_rfl) (of_decide_eq_true (by kernel_rfl)) k0 bel lt0) (trodAll_cons_mk (shut_string Tryd.underlying9 y1) (trodAll_cons_mk (Below.trod laidOut (by kernel_rfl) (of_decide_eq_true (by kernel_rfl)) k2 bel lt2) (trodAll_cons_mk (shut_string Tryd.underlying9 y3) (trodAll_cons_mk (shut_int Tryd.underlying2 w4) trodAll_mk0))))), rfl, bel.frame _, fun h => by cases h⟩
theorem over : Rows.fnExactAllowedRow.holds Tryd.pinned (OpenSpec.ofChange Rows.fnExactAllowedSpec) :=
  OpenClaim.holds_of_wide 13 Tryd.f13 rfl rfl rfl rfl rfl rfl rfl ⟨rfl, rfl, rfl, rfl, rfl⟩ rfl rfl rfl rfl rfl (by kernel_rfl) Tryd.func13 (by kernel_rfl)
    (of_decide_eq_true (by kernel_rfl)) (by unfold Func.isWrapper; first | (rw [if_pos (by decide +kernel)]; kernel_rfl) | (rw [if_neg (by decide +kernel)]; exact ⟨rfl, rfl⟩))
    (fun os started H enc _ => lifted os started H enc)
theorem proved : Rows.FnExactAllowedCardSaid :=
  Claim7.holds_tied_plain_at .later [] [.data, .pinned] true (true, "ebdfad55bdde4ae5c87402fbae6c2b39d23ee58f62db381d241586b7601b7ffb") false
    over (fun _ h => by cases h) (by kernel_rfl) (fun _ h => by cases h) fnExactAllowed_row_tie rfl ⟨rfl, rfl⟩ (by kernel_rfl) rfl
    (fun f fn hf hfn => by
      obtain rfl : f = 13 := Option.some.inj ((show Tryd.prog.funcNamed "loop.example/g00402/laws.FnExactAllowed" = some 13 by kernel_rfl).symm.trans hf) |>.symm
      obtain rfl : fn = Tryd.f13 := (Option.some.inj (Tryd.func13.symm.trans hfn)).symm
      exact ⟨by kernel_rfl, fun j t ht => by
        rw [Tryd.params13] at ht
        have hm : t ∈ [57, 9, 29, 9, 2] := by simpa using Array.mem_of_getElem? ht
        have hall : ([57, 9, 29, 9, 2].all fun u => !Tryd.prog.wantsStandIn u) = true := by kernel_rfl
        exact (show Tryd.prog.wantsStandIn t = false by simpa using List.all_eq_true.1 hall t hm)⟩)
    (by kernel_rfl)
#print axioms proved
end Go.Proofs.YtdbboelacgehoaaDoor.fnExactAllowed
namespace Go.Proofs.YtdbboelacgehoaaDoor
/-- The statement, under a short name, for the claim. -/
theorem fnExactAllowedCard_holds : Rows.FnExactAllowedCardSaid := fnExactAllowed.proved
end Go.Proofs.YtdbboelacgehoaaDoor
