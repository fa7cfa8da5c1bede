-- Laid by this session's own program out of the translation; Lean checks it.
import Derived.Test.YtdbboelacgehoaaDoorRows
import Derived.Test.YtdbboelacgehoaaDoorQFnExactEntrySamex16
import Derived.Test.YtdbboelacgehoaaDoorQFnExactEntrySamep
import Derived.Test.YtdbboelacgehoaaDoorQFnExactEntrySamew
import Derived.WalkKit
import Derived.ProofKit
import Derived.OpenShut
import Derived.ShutString
import Derived.ChangeOld
import Derived.Below
import Derived.SizedLaws
import Derived.Carry
import Derived.Test.YtdbboelacgehoaaDoorCards
import Derived.Test.YtdbboelacgehoaaDoorTie
import Derived.LaidMore
import Derived.Lay
import Derived.Handed
import Derived.Stop.Joined
import Derived.SevenTiedAt
namespace Go.Proofs.YtdbboelacgehoaaDoor.fnExactEntrySame
open Go.ChangeShapes Go.WideShapes Go.ChangeAt Go.RowKit Go.Proofs.YtdbboelacgehoaaDoorW.PrintWords Go.Proofs.YtdbboelacgehoaaDoorW.Opened
open Go.ChangeMaps (open_string shut_string)
set_option linter.unusedVariables false
theorem own : ownKnob Tryd.prog.godebug = none := by kernel_rfl
theorem laidOut : laidOutB Tryd.prog = true := by kernel_rfl
theorem opn50 : Opn Tryd.prog 50 PFnExactEntrySame.k50 PFnExactEntrySame.ok50 :=
  opn_struct Tryd.underlying50 rfl (by kernel_rfl) (opnf_cons (off2 := 1) rfl (by kernel_rfl) rfl (opn_string Tryd.underlying9) (opnf_one rfl (by kernel_rfl) (opn_string Tryd.underlying9))) _ (fun p => ⟨p.1, p.2⟩) (fun _ => rfl)
theorem opn140 : Opn Tryd.prog 140 PFnExactEntrySame.k140 PFnExactEntrySame.ok140 :=
  opn_struct Tryd.underlying140 rfl (by kernel_rfl) (opnf_cons (off2 := 1) rfl (by kernel_rfl) rfl (opn_string Tryd.underlying9) (opnf_one rfl (by kernel_rfl) (opn_slice (b := 16) Tryd.underlying101 (by kernel_rfl) (by kernel_rfl) (opn_string Tryd.underlying9)))) _ (fun p => ⟨p.1, p.2⟩) (fun _ => rfl)
theorem opn66 : Opn Tryd.prog 66 PFnExactEntrySame.k66 PFnExactEntrySame.ok66 :=
  opn_struct Tryd.underlying66 rfl (by kernel_rfl) (opnf_cons (off2 := 1) rfl (by kernel_rfl) rfl (opn_slice (b := 32) Tryd.underlying29 (by kernel_rfl) (by kernel_rfl) opn50) (opnf_one rfl (by kernel_rfl) (opn_slice (b := 40) Tryd.underlying64 (by kernel_rfl) (by kernel_rfl) opn140))) _ (fun p => ⟨p.1, p.2⟩) (fun _ => rfl)
set_option maxRecDepth 100000 in
theorem lifted (os : Os) (started : os.Started) (H : Type) (enc : TypeId × Value → H) :
    ReturnsInHanded {} Tryd.checked os 12 .any (fun w args => (Rows.fnExactEntrySameSpec.pre enc Tryd.prog Tryd.f12 [] false w args ∧ laidMetH Tryd.prog Rows.fnExactEntrySameRow.laid w) ∧ sizedMet enc Tryd.prog Tryd.f12 (OpenSpec.ofChange Rows.fnExactEntrySameSpec) false w args) (Rows.fnExactEntrySameSpec.post enc Tryd.prog Tryd.f12 false true false false) := by
  refine returnsInHanded_of_change_and (C := Tryd.checked) (X := fun w _ => laidMetH Tryd.prog Rows.fnExactEntrySameRow.laid w) (fun _ _ _ hh h => h.of_heap hh) own started (by kernel_rfl) Tryd.func12
    (ChangeSpec.witness_shaped (enc := enc) (C := Tryd.checked) (os := os) (X := fun w _ => laidMetH Tryd.prog Rows.fnExactEntrySameRow.laid w) false (World.laidAll Tryd.prog os Rows.fnExactEntrySameRow.laid) #[(.agg #[(.slice none 0 0), (.slice none 0 0)]), (.agg #[(.slice none 0 0), (.slice none 0 0)])] 8 (World.laidAll_os _ _ _) (World.shaped_of_ZipB (by kernel_rfl) (by kernel_rfl)) (by kernel_rfl) (by kernel_rfl) (by kernel_rfl) (by rw [MakeChecks.laidMetH_plain _ _ _ (by kernel_rfl)]; exact laidMet_laidAll _ (by kernel_rfl) (by kernel_rfl))) ?_
  intro W base args ds gs before hval0 hW hcnd hsz0 hL _
  have hsz : (DataW.weightsEach Tryd.prog (Tryd.f12.params.toList ++ Rows.fnExactEntrySameSpec.plain.varTypes Tryd.prog) (ds ++ gs)).all (· ≤ reachBytes) = true := hsz0
  have hval : ∀ (j : Nat) t v, Tryd.f12.params[j]? = some t → args[j]? = some v → Value.okWide Tryd.prog W .any base t v := hval0
  have hW' := hW
  obtain ⟨p, q, hA0, hV, rfl, hfz, hnd⟩ := hW
  have hA : DataW.TrodAll enc Tryd.prog W 0 (fun _ => true) true Tryd.f12.params.toList args.toList ds p := hA0
  rw [Tryd.params12] at hA hval hsz
  obtain ⟨v0, vs0, d0, ds0, p0, q0, hargs, rfl, rfl, h0, r0⟩ := trodAll_cons hA
  obtain ⟨v1, vs1, d1, ds1, p1, q1, rfl, rfl, rfl, h1, r1⟩ := trodAll_cons r0
  obtain ⟨rfl, rfl, rfl⟩ := trodAll_nil r1
  obtain rfl : args = #[v0, v1] := by cases args; simp_all
  obtain ⟨rfl, rfl⟩ := trodVars_none hV
  have k0 := h0
  have lt0 : ∀ x ∈ p0, x.block < W.heap.size := by obtain ⟨m, hm⟩ := k0; exact DataW.trod_lt m _ _ _ hm
  obtain ⟨cs0, rfl, _⟩ := okWide_struct Tryd.underlying66 (hval 0 66 v0 rfl rfl)
  obtain ⟨x0, hK0, hO0⟩ := opn_arg hsz (j := 0) (t := 66) rfl rfl h0 opn66
  obtain ⟨A0_0, c0_0, A0_1, c0_1, e0, hc0_0, hr0_0, hc0_1, hr0_1⟩ := PFnExactEntrySame.k66_open hK0
  obtain rfl : cs0 = #[.slice A0_0 x0.f0.length c0_0, .slice A0_1 x0.f1.length c0_1] := by rw [← Array.toList_inj]; exact e0
  have k1 := h1
  have lt1 : ∀ x ∈ p1, x.block < W.heap.size := by obtain ⟨m, hm⟩ := k1; exact DataW.trod_lt m _ _ _ hm
  obtain ⟨cs1, rfl, _⟩ := okWide_struct Tryd.underlying66 (hval 1 66 v1 rfl rfl)
  obtain ⟨x1, hK1, hO1⟩ := opn_arg hsz (j := 1) (t := 66) rfl rfl h1 opn66
  obtain ⟨A1_0, c1_0, A1_1, c1_1, e1, hc1_0, hr1_0, hc1_1, hr1_1⟩ := PFnExactEntrySame.k66_open hK1
  obtain rfl : cs1 = #[.slice A1_0 x1.f0.length c1_0, .slice A1_1 x1.f1.length c1_1] := by rw [← Array.toList_inj]; exact e1
  clear hA0 hval0 hsz0 hsz
  obtain ⟨k, h⟩ := Pure.FnExactEntrySame x0.f0 x0.f1 x1.f0 x1.f1 hO0.1 hO0.2 hO1.1 hO1.2
  refine (PFnExactEntrySame.laws_FnExactEntrySame.calls k _ _ x0.f0 _ _ x0.f1 _ _ x1.f0 _ _ x1.f1 true W hr0_0 hc0_0 hr0_1 hc0_1 hr1_0 hc1_0 hr1_1 hc1_1 h).mono fun e W' ⟨he, bel⟩ => ?_
  subst he
  exact ⟨_, rfl, _, _, _, [], _, [], hW', trodAll_mk1 (shut_bool Tryd.underlying4 _), (trodAll_cons_mk (Below.trod laidOut (by kernel_rfl) (of_decide_eq_true (by kernel_rfl)) k0 bel lt0) (trodAll_cons_mk (Below.trod laidOut (by kernel_rfl) (of_decide_eq_true (by kernel_rfl)) k1 bel lt1) trodAll_mk0)), rfl, bel.frame _, fun h => by cases h⟩
theorem over : Rows.fnExactEntrySameRow.holds Tryd.pinned (OpenSpec.ofChange Rows.fnExactEntrySameSpec) :=
  OpenClaim.holds_of_wide 12 Tryd.f12 rfl rfl rfl rfl rfl rfl rfl ⟨rfl, rfl, rfl, rfl, rfl⟩ rfl rfl rfl rfl rfl (by kernel_rfl) Tryd.func12 (by kernel_rfl)
    (of_decide_eq_true (by kernel_rfl)) (by unfold Func.isWrapper; first | (rw [if_pos (by decide +kernel)]; kernel_rfl) | (rw [if_neg (by decide +kernel)]; exact ⟨rfl, rfl⟩))
    (fun os started H enc _ => lifted os started H enc)
theorem proved : Rows.FnExactEntrySameCardSaid :=
  Claim7.holds_tied_plain_at .later [] [.data, .pinned] true (true, "ebdfad55bdde4ae5c87402fbae6c2b39d23ee58f62db381d241586b7601b7ffb") false
    over (fun _ h => by cases h) (by kernel_rfl) (fun _ h => by cases h) fnExactEntrySame_row_tie rfl ⟨rfl, rfl⟩ (by kernel_rfl) rfl
    (fun f fn hf hfn => by
      obtain rfl : f = 12 := Option.some.inj ((show Tryd.prog.funcNamed "loop.example/g00402/laws.FnExactEntrySame" = some 12 by kernel_rfl).symm.trans hf) |>.symm
      obtain rfl : fn = Tryd.f12 := (Option.some.inj (Tryd.func12.symm.trans hfn)).symm
      exact ⟨by kernel_rfl, fun j t ht => by
        rw [Tryd.params12] at ht
        have hm : t ∈ [66, 66] := by simpa using Array.mem_of_getElem? ht
        have hall : ([66, 66].all fun u => !Tryd.prog.wantsStandIn u) = true := by kernel_rfl
        exact (show Tryd.prog.wantsStandIn t = false by simpa using List.all_eq_true.1 hall t hm)⟩)
    (by kernel_rfl)
#print axioms proved
end Go.Proofs.YtdbboelacgehoaaDoor.fnExactEntrySame
namespace Go.Proofs.YtdbboelacgehoaaDoor
/-- The statement, under a short name, for the claim. -/
theorem fnExactEntrySameCard_holds : Rows.FnExactEntrySameCardSaid := fnExactEntrySame.proved
end Go.Proofs.YtdbboelacgehoaaDoor
