-- Laid by this session's own program out of the translation; Lean checks it.
import Derived.Test.YtgkjlfimjnhbbaaDoorRows
import Derived.Test.YtgkjlfimjnhbbaaDoorQFnExactModRightx8
import Derived.Test.YtgkjlfimjnhbbaaDoorQFnExactModRightp
import Derived.Test.YtgkjlfimjnhbbaaDoorQFnExactModRightw
import Derived.WalkKit
import Derived.ProofKit
import Derived.OpenShut
import Derived.ShutString
import Derived.ChangeOld
import Derived.Below
import Derived.SizedLaws
import Derived.Carry
import Derived.Test.YtgkjlfimjnhbbaaDoorCards
import Derived.Test.YtgkjlfimjnhbbaaDoorTie
import Derived.LaidMore
import Derived.Lay
import Derived.Handed
import Derived.Stop.Joined
import Derived.SevenTiedAt
namespace Go.Proofs.YtgkjlfimjnhbbaaDoor.fnExactModRight
open Go.ChangeShapes Go.WideShapes Go.ChangeAt Go.RowKit Go.Proofs.YtgkjlfimjnhbbaaDoorW.PrintWords Go.Proofs.YtgkjlfimjnhbbaaDoorW.Opened
open Go.ChangeMaps (open_string shut_string)
set_option linter.unusedVariables false
theorem own : ownKnob Tryd.prog.godebug = none := by kernel_rfl
theorem laidOut : laidOutB Tryd.prog = true := by kernel_rfl
theorem opn24 : Opn Tryd.prog 24 PFnExactModRight.k24 PFnExactModRight.ok24 :=
  opn_struct Tryd.underlying24 rfl (by kernel_rfl) (opnf_cons (off2 := 1) rfl (by kernel_rfl) rfl (opn_int Tryd.underlying2) (opnf_cons (off2 := 2) rfl (by kernel_rfl) rfl (opn_string Tryd.underlying9) (opnf_one rfl (by kernel_rfl) (opn_slice (b := 16) Tryd.underlying22 (by kernel_rfl) (by kernel_rfl) (opn_string Tryd.underlying9))))) _ (fun p => ⟨p.1, p.2.1, p.2.2⟩) (fun _ => rfl)
set_option maxRecDepth 100000 in
theorem lifted (os : Os) (started : os.Started) (H : Type) (enc : TypeId × Value → H) :
    ReturnsInHanded {} Tryd.checked os 3 .any (fun w args => (Rows.fnExactModRightSpec.pre enc Tryd.prog Tryd.f3 [] false w args ∧ laidMetH Tryd.prog Rows.fnExactModRightRow.laid w) ∧ sizedMet enc Tryd.prog Tryd.f3 (OpenSpec.ofChange Rows.fnExactModRightSpec) false w args) (Rows.fnExactModRightSpec.post enc Tryd.prog Tryd.f3 false true false false) := by
  refine returnsInHanded_of_change_and (C := Tryd.checked) (X := fun w _ => laidMetH Tryd.prog Rows.fnExactModRightRow.laid w) (fun _ _ _ hh h => h.of_heap hh) own started (by kernel_rfl) Tryd.func3
    (ChangeSpec.witness_shaped (enc := enc) (C := Tryd.checked) (os := os) (X := fun w _ => laidMetH Tryd.prog Rows.fnExactModRightRow.laid w) false (World.laidAll Tryd.prog os Rows.fnExactModRightRow.laid) #[(.agg #[(.int .i64 0), (.string ⟨#[]⟩), (.slice none 0 0)])] 8 (World.laidAll_os _ _ _) (World.shaped_of_ZipB (by kernel_rfl) (by kernel_rfl)) (by kernel_rfl) (by kernel_rfl) (by kernel_rfl) (by rw [MakeChecks.laidMetH_plain _ _ _ (by kernel_rfl)]; exact laidMet_laidAll _ (by kernel_rfl) (by kernel_rfl))) ?_
  intro W base args ds gs before hval0 hW hcnd hsz0 hL _
  have hsz : (DataW.weightsEach Tryd.prog (Tryd.f3.params.toList ++ Rows.fnExactModRightSpec.plain.varTypes Tryd.prog) (ds ++ gs)).all (· ≤ reachBytes) = true := hsz0
  have hval : ∀ (j : Nat) t v, Tryd.f3.params[j]? = some t → args[j]? = some v → Value.okWide Tryd.prog W .any base t v := hval0
  have hW' := hW
  obtain ⟨p, q, hA0, hV, rfl, hfz, hnd⟩ := hW
  have hA : DataW.TrodAll enc Tryd.prog W 0 (fun _ => true) true Tryd.f3.params.toList args.toList ds p := hA0
  rw [Tryd.params3] at hA hval hsz
  obtain ⟨v0, vs0, d0, ds0, p0, q0, hargs, rfl, rfl, h0, r0⟩ := trodAll_cons hA
  obtain ⟨rfl, rfl, rfl⟩ := trodAll_nil r0
  obtain rfl : args = #[v0] := by cases args; simp_all
  obtain ⟨rfl, rfl⟩ := trodVars_none hV
  have k0 := h0
  have lt0 : ∀ x ∈ p0, x.block < W.heap.size := by obtain ⟨m, hm⟩ := k0; exact DataW.trod_lt m _ _ _ hm
  obtain ⟨cs0, rfl, _⟩ := okWide_struct Tryd.underlying24 (hval 0 24 v0 rfl rfl)
  obtain ⟨x0, hK0, hO0⟩ := opn_arg hsz (j := 0) (t := 24) rfl rfl h0 opn24
  obtain ⟨A0_2, c0_2, e0, hc0_2, hr0_2⟩ := PFnExactModRight.k24_open hK0
  obtain rfl : cs0 = #[.int .i64 x0.f0, .string x0.f1, .slice A0_2 x0.f2.length c0_2] := by rw [← Array.toList_inj]; exact e0
  clear hA0 hval0 hsz0 hsz
  obtain ⟨k, h⟩ := Pure.FnExactModRight x0.f0 x0.f1 x0.f2 hO0.1 hO0.2.1 hO0.2.2
  refine (PFnExactModRight.laws_FnExactModRight.calls k x0.f0 x0.f1 _ _ x0.f2 true W hr0_2 hc0_2 h).mono fun e W' ⟨he, bel⟩ => ?_
  subst he
  exact ⟨_, rfl, _, _, _, [], _, [], hW', trodAll_mk1 (shut_bool Tryd.underlying4 _), (trodAll_cons_mk (Below.trod laidOut (by kernel_rfl) (of_decide_eq_true (by kernel_rfl)) k0 bel lt0) trodAll_mk0), rfl, bel.frame _, fun h => by cases h⟩
theorem over : Rows.fnExactModRightRow.holds Tryd.pinned (OpenSpec.ofChange Rows.fnExactModRightSpec) :=
  OpenClaim.holds_of_wide 3 Tryd.f3 rfl rfl rfl rfl rfl rfl rfl ⟨rfl, rfl, rfl, rfl, rfl⟩ rfl rfl rfl rfl rfl (by kernel_rfl) Tryd.func3 (by kernel_rfl)
    (of_decide_eq_true (by kernel_rfl)) (by unfold Func.isWrapper; first | (rw [if_pos (by decide +kernel)]; kernel_rfl) | (rw [if_neg (by decide +kernel)]; exact ⟨rfl, rfl⟩))
    (fun os started H enc _ => lifted os started H enc)
theorem proved : Rows.FnExactModRightCardSaid :=
  Claim7.holds_tied_plain_at .later [] [.data, .pinned] true (true, "08f1e2cecfb041e393f06255787066c649890eb4cf1a6a2113839823e691d85f") false
    over (fun _ h => by cases h) (by kernel_rfl) (fun _ h => by cases h) fnExactModRight_row_tie rfl ⟨rfl, rfl⟩ (by kernel_rfl) rfl
    (fun f fn hf hfn => by
      obtain rfl : f = 3 := Option.some.inj ((show Tryd.prog.funcNamed "loop.example/g00402/laws.FnExactModRight" = some 3 by kernel_rfl).symm.trans hf) |>.symm
      obtain rfl : fn = Tryd.f3 := (Option.some.inj (Tryd.func3.symm.trans hfn)).symm
      exact ⟨by kernel_rfl, fun j t ht => by
        rw [Tryd.params3] at ht
        have hm : t ∈ [24] := by simpa using Array.mem_of_getElem? ht
        have hall : ([24].all fun u => !Tryd.prog.wantsStandIn u) = true := by kernel_rfl
        exact (show Tryd.prog.wantsStandIn t = false by simpa using List.all_eq_true.1 hall t hm)⟩)
    (by kernel_rfl)
#print axioms proved
end Go.Proofs.YtgkjlfimjnhbbaaDoor.fnExactModRight
namespace Go.Proofs.YtgkjlfimjnhbbaaDoor
/-- The statement, under a short name, for the claim. -/
theorem fnExactModRightCard_holds : Rows.FnExactModRightCardSaid := fnExactModRight.proved
end Go.Proofs.YtgkjlfimjnhbbaaDoor
