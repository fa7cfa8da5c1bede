-- Laid by this session's own program out of the translation; Lean checks it.
import Derived.Test.YtgkjlfimjnhbbaaDoorQFnExactModRightx0
import Derived.Test.YtgkjlfimjnhbbaaDoorQFnExactModRightx4
import Derived.Test.YtgkjlfimjnhbbaaDoorQFnExactModRightx5
import Derived.Test.YtgkjlfimjnhbbaaDoorQFnExactModRightx6
import Derived.Test.YtgkjlfimjnhbbaaDoorLaySortFunc
import Derived.Shelf.SlSortCmp.NoneTotal
import Derived.Laws.Bits64
import Derived.Lib.QuietBelow
import Derived.Lib.OwnBridge
import Derived.Sort.OwnSorted
namespace Go.Proofs.YtgkjlfimjnhbbaaDoor.PFnExactModRight
open Go.RowKit Go.Proofs.YtgkjlfimjnhbbaaDoorW.PrintWords Go.Proofs.YtgkjlfimjnhbbaaDoorW.PrintLast Go.Proofs.YtgkjlfimjnhbbaaDoorW.PrintMore
attribute [local go_sem] max2_int min2_int max_two min_two max_three min_three max_four min_four   -- for this text's walks alone
set_option linter.unusedVariables false
set_option linter.unusedSimpArgs false

/-! ### impl_sortedValues: function 46 -/
theorem impl_sortedValues.D_ask {α : Type} : ∀ (a : Ask α) (w : World), w.drawn ≤ (w.ask a).2.drawn
  | .done a, w => Nat.le_refl _
  | .ask what range k, w => by
    unfold World.ask
    dsimp only
    split
    · exact impl_sortedValues.D_ask (k 0) w
    · exact Nat.le_trans (Nat.le_succ _) (impl_sortedValues.D_ask (k _) { w with drawn := w.drawn + 1 })
theorem impl_sortedValues.D_sys (w : World) (c : Sys) : w.drawn ≤ (w.sys c).2.drawn := by
  unfold World.sys
  have h := impl_sortedValues.D_ask (Kernel.perform c w.os) w
  split
  · exact Nat.le_refl _
  · rename_i r os w2 _ e
    rw [e] at h
    exact h
theorem impl_sortedValues.D_view {p : Program} {w : World} {at_ : Addr} {u : TypeId} {k : Addr} {v : Value} {atomic : Bool} {r : World × List Addr} (h : w.viewStore p at_ u k v atomic = .ok r) : r.1.drawn = w.drawn := by
  unfold World.viewStore at h
  simp only [bind, Except.bind, pure, Except.pure] at h
  repeat' (split at h)
  all_goals first | (cases h; done) | (cases h; rfl) | skip
theorem impl_sortedValues.D_far {p : Program} {w : World} {a : Addr} {v : Value} {atomic : Bool} {r : World × List Addr} (h : w.farStore p a v atomic = .ok r) : r.1.drawn = w.drawn := by
  unfold World.farStore at h
  split at h
  · split at h
    · rename_i r2 e
      cases h
      exact impl_sortedValues.D_view e
    · cases h
  · cases h
def impl_sortedValues.D_ok {α : Type} (n : Nat) : Result α → Prop
  | .ok _ w' => n ≤ w'.drawn
  | .halt _ w' => n ≤ w'.drawn
theorem impl_sortedValues.D_run {α : Type} (p : Program) (s : Sem α) : ∀ w : World, impl_sortedValues.D_ok w.drawn (s.run p w) := by
  induction s with
  | pure a => intro w; exact Nat.le_refl _
  | load m a k ih =>
    intro w
    unfold Sem.run
    split
    · exact ih _ w
    · split
      · exact ih _ w
      · exact Nat.le_refl _
  | store m a v k ih =>
    intro w
    have key : ∀ u : Value, impl_sortedValues.D_ok w.drawn (match w.cell? a with
      | some _ => if w.frozen? a then .halt (.unsupported (.unsafePointer "a write to bytes that a string shares")) w else k.run p (w.setCell a u)
      | none => match w.farStore p a u (m == .atomic) with
        | .ok (w, _) => k.run p w
        | .error h => .halt h w) := by
      intro u
      split
      · split
        · exact Nat.le_refl _
        · exact ih (w.setCell a u)
      · split
        · rename_i w2 _ e
          have h := ih w2
          have h2 : w2.drawn = w.drawn := impl_sortedValues.D_far e
          rw [h2] at h
          exact h
        · exact Nat.le_refl _
    cases v <;> first | exact Nat.le_refl _ | exact key _
  | new o k ih => intro w; exact ih _ { w with heap := w.heap.push o }
  | shape r k ih => intro w; exact ih _ w
  | freeze a n k ih => intro w; have h := ih (w.freeze a n); have h2 : (w.freeze a n).drawn = w.drawn := (by unfold World.freeze; split <;> rfl); rw [h2] at h; exact h
  | frozen a k ih => intro w; exact ih _ w
  | getObj r k ih =>
    intro w
    unfold Sem.run
    split
    · exact Nat.le_refl _
    · exact ih _ w
    · exact Nat.le_refl _
  | setObj r o k ih =>
    intro w
    unfold Sem.run
    split
    · exact Nat.le_refl _
    · exact ih { w with heap := w.heap.setIfInBounds r o }
    · exact Nat.le_refl _
  | choose q k ih =>
    intro w
    unfold Sem.run
    split
    · exact ih _ w
    · have h := ih (q.cut (w.tape w.drawn q)) { w with drawn := w.drawn + 1 }
      revert h
      generalize ((k (q.cut (w.tape w.drawn q))).run p { w with drawn := w.drawn + 1 }) = r
      cases r <;> exact fun h => Nat.le_trans (Nat.le_succ _) h
  | sys c k ih =>
    intro w
    have h := ih (w.sys c).1 (w.sys c).2
    have h2 := impl_sortedValues.D_sys w c
    revert h
    show impl_sortedValues.D_ok _ ((k (w.sys c).1).run p (w.sys c).2) → impl_sortedValues.D_ok _ ((k (w.sys c).1).run p (w.sys c).2)
    generalize ((k (w.sys c).1).run p (w.sys c).2) = r
    cases r <;> exact fun h => Nat.le_trans h2 h
  | program k ih => intro w; exact ih _ w
  | mark m k ih => intro w; exact ih w
  | halt h => intro w; exact Nat.le_refl _
def impl_sortedValues.D_Q (n : Nat) (K : Act → World → Prop) (Q : Exit → Act → World → Prop) : Exit → Act → World → Prop
  | .normal, a, w => n ≤ w.drawn → K a w
  | e, a, w => Q e a w
theorem impl_sortedValues.D_LetsOut {n : Nat} {K : Act → World → Prop} {Q : Exit → Act → World → Prop} (h : LetsOut (impl_sortedValues.D_Q n K Q)) : LetsOut Q := h
theorem impl_sortedValues.D_list {P : Program} {ops : Array Oper} {Q : Exit → Act → World → Prop} {rest : List Oper} {o : Oper} {a : Act} {W : World}
    (hne : ∀ w1 r, (execOp a.eval o).run P W = .ok r w1 → ∃ v, r = .value v)
    (h : wpList P ops (impl_sortedValues.D_Q W.drawn (wpList P ops Q rest) Q) [o] a W) : wpList P ops Q (o :: rest) a W := by
  unfold wpList at h ⊢
  by_cases hw : Region.wanted o (yielded ops a.tmps) = true
  · rw [if_pos hw] at h ⊢
    rcases h with h | ⟨h1, h2⟩
    · refine Or.inl ?_
      have hd := impl_sortedValues.D_run P (execOp a.eval o) W
      unfold Oper.wp at h ⊢
      revert h hd hne
      generalize (execOp a.eval o).run P W = r
      intro hne h hd
      cases r with
      | ok x w1 =>
        obtain ⟨v, rfl⟩ := hne _ _ rfl
        exact h hd
      | halt x w1 => cases x <;> exact h
    · exact Or.inr ⟨h1, impl_sortedValues.D_LetsOut h2⟩
  · rw [if_neg hw] at h ⊢
    exact h (Nat.le_refl _)
theorem impl_sortedValues.D_nil {P : Program} {ops : Array Oper} {Q : Exit → Act → World → Prop} {n : Nat} {K : Act → World → Prop} {a : Act} {w : World} (h : n ≤ w.drawn → K a w) : wpList P ops (impl_sortedValues.D_Q n K Q) [] a w := h
theorem impl_sortedValues.D_append {P : Program} {o : Oper} {a : Act} {W : World} (s x : Operand) (t : TypeId) (ho : o.op = .call { callee := .builtin .append, args := #[s, x], argTypes := #[t, t] }) (w1 : World) (r : Next) (h : (execOp a.eval o).run P W = .ok r w1) : ∃ v, r = .value v := by
  unfold execOp at h
  simp only [ho, resolve, invoke, builtin, Sem.run_bind, Sem.run_pure, Result.andThen_ok, List.map_toArray, List.map_cons, List.map_nil] at h
  revert h
  generalize Sem.run P _ W = y
  cases y with
  | ok b w2 => intro h; simp only [Result.andThen_ok] at h; cases h; exact ⟨_, rfl⟩
  | halt b w2 => intro h; cases h
theorem impl_sortedValues.D_build {P : Program} {o : Oper} {a : Act} {W : World} (t : TypeId) (n : Nat) (fs : Array (Nat × Operand)) (ho : o.op = .buildSlice t n fs) (w1 : World) (r : Next) (h : (execOp a.eval o).run P W = .ok r w1) : ∃ v, r = .value v := by
  unfold execOp at h
  simp only [ho, Sem.run_bind, Sem.run_pure] at h
  revert h
  generalize Sem.run P _ W = y
  cases y with
  | ok b w2 => intro h; simp only [Result.andThen_ok] at h; cases h; exact ⟨_, rfl⟩
  | halt b w2 => intro h; cases h
/-- All that stood stands, and no draw has been taken back. -/
def impl_sortedValues.Bel (w W : World) : Prop := Below w.heap.size w W ∧ w.drawn ≤ W.drawn
theorem impl_sortedValues.bel_refl (w : World) : impl_sortedValues.Bel w w := ⟨Below.refl _ _, Nat.le_refl _⟩
theorem impl_sortedValues.Bel.below {w W : World} (h : impl_sortedValues.Bel w W) : Below w.heap.size w W := h.1
theorem impl_sortedValues.Bel.drawn {w W : World} (h : impl_sortedValues.Bel w W) : w.drawn ≤ W.drawn := h.2
theorem impl_sortedValues.bel_size {w W : World} (h : impl_sortedValues.Bel w W) : w.heap.size ≤ W.heap.size := below_size h.1
theorem impl_sortedValues.bel_alloc {w W : World} (h : impl_sortedValues.Bel w W) (o : Obj) : impl_sortedValues.Bel w (W.alloc o) := ⟨below_alloc h.1 o, h.2⟩
theorem impl_sortedValues.bel_drewN {w W : World} (h : impl_sortedValues.Bel w W) (n : Nat) : impl_sortedValues.Bel w (W.drewN n) := ⟨pw_below_drewN h.1 n, Nat.le_trans h.2 (Nat.le_add_right _ _)⟩
theorem impl_sortedValues.bel_drew1 {w W : World} (h : impl_sortedValues.Bel w W) : impl_sortedValues.Bel w W.drew := ⟨below_drew1 h.1, Nat.le_trans h.2 (Nat.le_succ _)⟩
theorem impl_sortedValues.bel_step {w W W2 : World} (h : impl_sortedValues.Bel w W) (hb : Below W.heap.size W W2) (hd : W.drawn ≤ W2.drawn) : impl_sortedValues.Bel w W2 := ⟨below_step h.1 hb, Nat.le_trans h.2 hd⟩
set_option maxHeartbeats 8000000 in
set_option maxRecDepth 100000 in
theorem impl_sortedValues.normD (k : Nat) (a0 : ByteArray) (r : ByteArray) (w : World) (h : impl_Norm.f k a0 = some r) :
    Calls Tryd.prog 110 #[.string a0] w fun e w' => e = .returned (.string r) ∧ impl_sortedValues.Bel w w' := by
  have HB := Aside0.mk (impl_sortedValues.bel_refl w)
  have H : (if (a0.size : Int) > 100 then (impl_Norm.j0 k a0 true) else ((impl_isPrintable.f k a0).bind fun t152 => (impl_Norm.j0 k a0 (!t152)))) = some r := h
  clear h
  have HC2 := Aside0.mk H
  clear H
  go_enter Tryd.func110, Tryd.ntmps110
  go_upto_region 1 with (fail)
  go_cut [13] (fun v13 wc => ∃ (kq : Nat) (x13_1 : Bool), v13 = .bool x13_1 ∧ Aside0 (impl_Norm.j0 kq a0 x13_1 = some r) ∧ Aside0 (kq ≤ k) ∧ Aside0 (impl_sortedValues.Bel w wc))
  case first =>
    have H := HC2.out
    clear HC2
    by_cases c3 : (a0.size : Int) > 100
    · rw [if_pos c3] at H
      have c3b0 : decide (100 < (a0.size : Int)) = true := decide_eq_true c3
      have c3b1 : decide (100 < a0.size) = true := decide_eq_true (by omega)
      clear c3
      (first | rw [c3b0] | rw [c3v0] | (simp only [i64_w, i32_w]; rw [c3b0]) | (simp only [i64_w, i32_w]; rw [c3v0]) | skip)
      have H' := Aside0.mk H
      clear H
      go_wp2
      go_meet
      case rel => exact ⟨_, (true), (by first | rfl | (simp; done) | (simp [*]; done)), H', ⟨by first | omega | exact Nat.le_refl _⟩, ⟨by repeat (first | (with_reducible first | exact HB.out | apply impl_sortedValues.bel_alloc | apply impl_sortedValues.bel_drewN | apply impl_sortedValues.bel_drew1) | exact HB.out)⟩⟩
    · rw [if_neg c3] at H
      have c3b0 : decide (100 < (a0.size : Int)) = false := decide_eq_false c3
      have c3b1 : decide (100 < a0.size) = false := decide_eq_false (by omega)
      clear c3
      (first | rw [c3b0] | rw [c3v0] | (simp only [i64_w, i32_w]; rw [c3b0]) | (simp only [i64_w, i32_w]; rw [c3v0]) | skip)
      replace H := Option.bind_eq_some_iff.mp H
      obtain ⟨t152, A40, H⟩ := H
      replace H : (impl_Norm.j0 k a0 (!t152)) = some r := H
      have A4 := Aside0.mk A40
      clear A40
      have H' := Aside0.mk H
      clear H
      go_wp2_with (first | (go_at_call 145; (with_reducible refine (impl_isPrintable.calls k a0 t152 _ A4.out).mono ?_); rintro e w' ⟨rfl, ⟨nd, rfl⟩⟩))
      go_meet
      case rel => exact ⟨_, (!t152), (by first | rfl | (simp; done) | (simp [*]; done)), H', ⟨by first | omega | exact Nat.le_refl _⟩, ⟨by repeat (first | (with_reducible first | exact HB.out | apply impl_sortedValues.bel_alloc | apply impl_sortedValues.bel_drewN | apply impl_sortedValues.bel_drew1) | exact HB.out)⟩⟩
  case rest =>
    clear HC2
    try clear c1
    try clear p2
    try clear c3
    try clear c3b0
    try clear c3b1
    obtain ⟨kq, x13_1, rfl, HA, HJ1, HB⟩ := hcut
    cases kq with
    | zero => exact absurd HA.out (by simp [impl_Norm.j0])
    | succ kj1 =>
      have H := HA.out
      clear HA
      simp only [impl_Norm.j0] at H
      by_cases c5 : x13_1 = true
      · subst c5
        have H1 : (some (⟨#[]⟩ : ByteArray)) = some r := by rw [if_pos rfl] at H; exact H
        clear H
        have H := H1
        clear H1
        obtain rfl := Option.some.inj H
        go_wp2
        go_ret
        exact ⟨by first | rfl | (simp only [bne_nil_, beq_nil_]; rfl) | (simp [errW_none, errW_some] <;> rfl) | (simp [*, errW_none, errW_some] <;> rfl), by repeat (first | (with_reducible first | exact HB.out | apply impl_sortedValues.bel_alloc | apply impl_sortedValues.bel_drewN | apply impl_sortedValues.bel_drew1) | exact HB.out)⟩
      · replace c5 := Bool.eq_false_iff.mpr c5
        subst c5
        have H1 : (impl_Norm.l0 kj1 a0 (([] : List Int)) (a0.size : Int) 0) = some r := by rw [if_neg (show ¬ (false = true) by decide)] at H; exact H
        clear H
        have H := H1
        clear H1
        obtain ⟨y153, hy153⟩ : ∃ y_ : List Int, y_ = (([] : List Int)) := ⟨_, rfl⟩
        replace H : (impl_Norm.l0 kj1 a0 y153 (a0.size : Int) 0) = some r := by first | (rw [hy153]; with_reducible exact H) | (have H2_ := (Option.bind_some _ _).symm.trans H; rw [hy153]; with_reducible exact H2_) | (have H2_ := (Option.bind_some _ _).symm.trans H; with_reducible exact H2_) | with_reducible exact H | (rw [hy153]; exact H) | exact H
        have Ny153 := Aside0.mk hy153
        clear hy153
        have H' := Aside0.mk H
        clear H
        go_wp2_with (first | ((with_reducible refine gate_dst (N := 14) rfl ?_); (try (refine gate_guard (by rfl) ?_; dsimp only)); refine impl_sortedValues.D_list (impl_sortedValues.D_build _ _ _ rfl) ?_; refine Kd.R_lit (Kd.int .u8) _ 5 ?hg (N := 14) ?hd (xs := ([] : List Int)) (inner := []) (ok := fun _ => True) (okp := fun _ => True) ?hr ?hp (fun _ hk => hk) trivial (Below.refl _ _) (Nat.le_refl _) (by simp) ?_; (case hd => rfl); (case hg => rfl); (case hr => first | (go_simp; done) | (go_simp; rfl)); (case hp => exact (Reps.none _ _)); intro v154 w6 ho7 hb hg_ hnew_; refine impl_sortedValues.D_nil ?_; intro hd; clear hg_ hnew_; (first | rw [← Ny153.out] at ho7 | (simp only [Int.reduceToNat] at ho7; rw [← Ny153.out] at ho7)); have n0_ := Aside0.mk (Kd.R_lower ho7 (impl_sortedValues.bel_size (by repeat (first | (with_reducible first | exact HB.out | apply impl_sortedValues.bel_alloc | apply impl_sortedValues.bel_drewN | apply impl_sortedValues.bel_drew1) | exact HB.out)))); have n1_ := Aside0.mk (impl_sortedValues.bel_step (by repeat (first | (with_reducible first | exact HB.out | apply impl_sortedValues.bel_alloc | apply impl_sortedValues.bel_drewN | apply impl_sortedValues.bel_drew1) | exact HB.out)) hb hd); clear HB; have HO155 := n0_; have HB := n1_; clear n0_ n1_; clear hb hd ho7))
        go_loopg [3, 17] kj1 (fun kq v3 v17 w' => ∃ (x3_2 : List Int) (x17_2 : Int), v17 = .int .i64 x17_2 ∧ Aside0 (impl_Norm.l0 kq a0 x3_2 (a0.size : Int) x17_2 = some r) ∧ Aside0 (kq ≤ kj1) ∧ Aside0 (Kd.R (Kd.int .u8) 5 w' w.heap.size (fun _ => True) v3 x3_2) ∧ Aside0 (impl_sortedValues.Bel w w'))
        case atStart => exact ⟨(y153), (0), (by first | rfl | (simp; done) | (simp [*]; done)), H', ⟨Nat.le_refl _⟩, ⟨by (with_reducible repeat (first | apply Kd.R_alloc | apply Kd.R_drewN | apply Kd.R_drew)); exact HO155.out⟩, ⟨by repeat (first | (with_reducible first | exact HB.out | apply impl_sortedValues.bel_alloc | apply impl_sortedValues.bel_drewN | apply impl_sortedValues.bel_drew1) | exact HB.out)⟩⟩
        case round =>
          clear H'
          try clear c1
          try clear p2
          try clear c3
          try clear c3b0
          try clear c3b1
          try clear c5
          try clear p2
          obtain ⟨x3_2, x17_2, rfl, HA, HK2, HO_3, HB⟩ := hrel
          cases gk with
          | zero => exact absurd HA.out (by simp [impl_Norm.l0])
          | succ k2 =>
            have H := HA.out
            clear HA
            simp only [impl_Norm.l0] at H
            by_cases c8 : x17_2 < (a0.size : Int)
            · rw [if_pos c8] at H
              have c8b0 : decide (x17_2 < (a0.size : Int)) = true := decide_eq_true c8
              clear c8
              by_cases c9 : 0 ≤ x17_2
              · rw [if_pos c9] at H
                have c9b0 : decide (0 ≤ x17_2) = true := decide_eq_true c9
                clear c9
                by_cases c10 : x17_2 < (a0.size : Int)
                · rw [if_pos c10] at H
                  have c10b0 : decide (x17_2 < (a0.size : Int)) = true := decide_eq_true c10
                  clear c10
                  have HC12 := Aside0.mk H
                  clear H
                  have p11 : 0 ≤ (x17_2 : Int) := of_decide_eq_true (by first | (with_reducible assumption) | assumption)
                  have q11 : x17_2 < (a0.size : Int) := of_decide_eq_true (by first | (with_reducible assumption) | assumption)
                  have hx11 := bt_at a0 x17_2
                  replace p11 := eq_true p11
                  replace q11 := eq_true q11
                  go_upto_region 8 with (fail)
                  go_cut [28] (fun v28 wc => ∃ (kq : Nat) (x28_11 : Bool), v28 = .bool x28_11 ∧ Aside0 (impl_Norm.j2 kq a0 x3_2 (bt a0 x17_2) (a0.size : Int) x17_2 x28_11 = some r) ∧ Aside0 (kq ≤ k2) ∧ Aside0 (Kd.R (Kd.int .u8) 5 wc w.heap.size (fun _ => True) u3 x3_2) ∧ Aside0 (impl_sortedValues.Bel w wc))
                  case first =>
                    have H := HC12.out
                    clear HC12
                    by_cases c13 : (bt a0 x17_2) ≥ 65
                    · rw [if_pos c13] at H
                      have c13b0 : decide (65 ≤ (bt a0 x17_2)) = true := decide_eq_true c13
                      clear c13
                      (first | rw [c13b0] | rw [c13v0] | (simp only [i64_w, i32_w]; rw [c13b0]) | (simp only [i64_w, i32_w]; rw [c13v0]) | skip)
                      have H' := Aside0.mk H
                      clear H
                      go_wp2
                      go_meet
                      case rel => exact ⟨_, (decide ((bt a0 x17_2) ≤ 90)), (by first | rfl | (simp; done) | (simp [*]; done)), H', ⟨by have := HJ1.out; have := HK2.out; first | omega | exact Nat.le_refl _⟩, ⟨by (with_reducible repeat (first | apply Kd.R_alloc | apply Kd.R_drewN | apply Kd.R_drew)); exact HO_3.out⟩, ⟨by repeat (first | (with_reducible first | exact HB.out | apply impl_sortedValues.bel_alloc | apply impl_sortedValues.bel_drewN | apply impl_sortedValues.bel_drew1) | exact HB.out)⟩⟩
                    · rw [if_neg c13] at H
                      have c13b0 : decide (65 ≤ (bt a0 x17_2)) = false := decide_eq_false c13
                      clear c13
                      (first | rw [c13b0] | rw [c13v0] | (simp only [i64_w, i32_w]; rw [c13b0]) | (simp only [i64_w, i32_w]; rw [c13v0]) | skip)
                      have H' := Aside0.mk H
                      clear H
                      go_wp2
                      go_meet
                      case rel => exact ⟨_, (false), (by first | rfl | (simp; done) | (simp [*]; done)), H', ⟨by have := HJ1.out; have := HK2.out; first | omega | exact Nat.le_refl _⟩, ⟨by (with_reducible repeat (first | apply Kd.R_alloc | apply Kd.R_drewN | apply Kd.R_drew)); exact HO_3.out⟩, ⟨by repeat (first | (with_reducible first | exact HB.out | apply impl_sortedValues.bel_alloc | apply impl_sortedValues.bel_drewN | apply impl_sortedValues.bel_drew1) | exact HB.out)⟩⟩
                  case rest =>
                    clear HC12
                    try clear c1
                    try clear p1
                    try clear q1
                    try clear hx1
                    try clear p2
                    try clear c3
                    try clear c3b0
                    try clear c3b1
                    try clear c5
                    try clear c8
                    try clear c8b0
                    try clear c9
                    try clear c9b0
                    try clear c10
                    try clear c10b0
                    try clear c11
                    try clear p11
                    try clear q11
                    try clear hx11
                    try clear c13
                    try clear c13b0
                    try clear p11
                    try clear p2
                    try clear q11
                    obtain ⟨kq, x28_11, rfl, HA, HJ11, HO_3, HB⟩ := hcut
                    cases kq with
                    | zero => exact absurd HA.out (by simp [impl_Norm.j2])
                    | succ kj11 =>
                      have H := HA.out
                      clear HA
                      simp only [impl_Norm.j2] at H
                      by_cases c14 : x28_11 = true
                      · subst c14
                        have H1 : (if (((bt a0 x17_2) + 32) % 256) = 32 then (if (x3_2.length : Int) > 0 then (if 0 ≤ (wrap64 ((x3_2.length : Int) - 1)) then (if (wrap64 ((x3_2.length : Int) - 1)) < (x3_2.length : Int) then (if (rd x3_2 (wrap64 ((x3_2.length : Int) - 1))) = 32 then (impl_Norm.l0 kj11 a0 x3_2 (a0.size : Int) (wrap64 (x17_2 + 1))) else (if x3_2.length < 140737488355328 then (impl_Norm.l0 kj11 a0 (x3_2 ++ [((bt a0 x17_2) + 32) % 256]) (a0.size : Int) (wrap64 (x17_2 + 1))) else (none))) else (none)) else (none)) else (impl_Norm.l0 kj11 a0 x3_2 (a0.size : Int) (wrap64 (x17_2 + 1)))) else (if x3_2.length < 140737488355328 then (impl_Norm.l0 kj11 a0 (x3_2 ++ [((bt a0 x17_2) + 32) % 256]) (a0.size : Int) (wrap64 (x17_2 + 1))) else (none))) = some r := by rw [if_pos rfl] at H; exact H
                        clear H
                        have H := H1
                        clear H1
                        by_cases c15 : (((bt a0 x17_2) + 32) % 256) = 32
                        · rw [if_pos c15] at H
                          have c15b0 : ((((bt a0 x17_2) + 32) % 256) == 32) = true := beq_iff_eq.mpr c15
                          have c15b1 : ((((bt a0 x17_2) + 32) % 256) != 32) = false := bne_eq_false_iff_eq.mpr c15
                          clear c15
                          by_cases c16 : (x3_2.length : Int) > 0
                          · rw [if_pos c16] at H
                            have c16b0 : decide (0 < (x3_2.length : Int)) = true := decide_eq_true c16
                            have c16b1 : decide (0 < x3_2.length) = true := decide_eq_true (by omega)
                            clear c16
                            obtain ⟨ji17, hji17⟩ : ∃ j_ : Int, (wrap64 ((x3_2.length : Int) - 1)) = j_ := ⟨_, rfl⟩
                            replace H : (if 0 ≤ (ji17) then (if (ji17) < (x3_2.length : Int) then (if (rd x3_2 (ji17)) = 32 then (impl_Norm.l0 kj11 a0 x3_2 (a0.size : Int) (wrap64 (x17_2 + 1))) else (if x3_2.length < 140737488355328 then (impl_Norm.l0 kj11 a0 (x3_2 ++ [((bt a0 x17_2) + 32) % 256]) (a0.size : Int) (wrap64 (x17_2 + 1))) else (none))) else (none)) else (none)) = some r := by first | (rw [hji17] at H; exact H) | (simp only [hji17] at H ⊢; exact H)
                            have hji17w : (IntKind.i64.wrap ((x3_2.length : Int) - 1)) = ji17 := (i64_w _).trans hji17
                            by_cases c18 : 0 ≤ (ji17)
                            · rw [if_pos c18] at H
                              have c18b0 : decide (0 ≤ (ji17)) = true := decide_eq_true c18
                              clear c18
                              by_cases c19 : (ji17) < (x3_2.length : Int)
                              · rw [if_pos c19] at H
                                have c19b0 : decide ((ji17) < (x3_2.length : Int)) = true := decide_eq_true c19
                                clear c19
                                by_cases c20 : (rd x3_2 (ji17)) = 32
                                · rw [if_pos c20] at H
                                  have c20b0 : ((rd x3_2 (ji17)) == 32) = true := beq_iff_eq.mpr c20
                                  have c20b1 : ((rd x3_2 (ji17)) != 32) = false := bne_eq_false_iff_eq.mpr c20
                                  clear c20
                                  have H' := Aside0.mk H
                                  clear H
                                  obtain ⟨Ao21, co21, eo21⟩ := Kd.R_slice HO_3.out
                                  subst eo21
                                  have p157 : 0 ≤ ((ji17) : Int) := of_decide_eq_true (by first | (with_reducible assumption) | assumption)
                                  have q157 : (ji17) < (x3_2.length : Int) := of_decide_eq_true (by first | (with_reducible assumption) | assumption)
                                  obtain ⟨ad157, e157, hx157_0⟩ := Kd.at_int (Kd.R_reads' HO_3.out).2.2 (ji17) p157 q157
                                  cases e157
                                  replace p157 := eq_true p157
                                  replace q157 := eq_true q157
                                  go_wp2
                                  go_roundg kj11
                                  case measure => have := HJ1.out; have := HK2.out; have := HJ11.out; omega
                                  case rel => exact ⟨(x3_2), (wrap64 (x17_2 + 1)), (by first | rfl | (simp; done) | (simp [*]; done)), H', ⟨by have := HJ1.out; have := HK2.out; have := HJ11.out; omega⟩, ⟨by (with_reducible repeat (first | apply Kd.R_alloc | apply Kd.R_drewN | apply Kd.R_drew)); exact HO_3.out⟩, ⟨by repeat (first | (with_reducible first | exact HB.out | apply impl_sortedValues.bel_alloc | apply impl_sortedValues.bel_drewN | apply impl_sortedValues.bel_drew1) | exact HB.out)⟩⟩
                                · rw [if_neg c20] at H
                                  have c20b0 : ((rd x3_2 (ji17)) == 32) = false := beq_eq_false_iff_ne.mpr c20
                                  have c20b1 : ((rd x3_2 (ji17)) != 32) = true := bne_iff_ne.mpr c20
                                  by_cases c22 : x3_2.length < 140737488355328
                                  · rw [if_pos c22] at H
                                    have LMc22 := Aside0.mk c22
                                    clear c22
                                    obtain ⟨y158, hy158⟩ : ∃ y_ : List Int, y_ = (x3_2 ++ [((bt a0 x17_2) + 32) % 256]) := ⟨_, rfl⟩
                                    replace H : (impl_Norm.l0 kj11 a0 y158 (a0.size : Int) (wrap64 (x17_2 + 1))) = some r := by first | (rw [hy158]; with_reducible exact H) | (have H2_ := (Option.bind_some _ _).symm.trans H; rw [hy158]; with_reducible exact H2_) | (have H2_ := (Option.bind_some _ _).symm.trans H; with_reducible exact H2_) | with_reducible exact H | (rw [hy158]; exact H) | exact H
                                    have Ny158 := Aside0.mk hy158
                                    clear hy158
                                    have H' := Aside0.mk H
                                    clear H
                                    obtain ⟨Ao23, co23, eo23⟩ := Kd.R_slice HO_3.out
                                    subst eo23
                                    have p157 : 0 ≤ ((ji17) : Int) := of_decide_eq_true (by first | (with_reducible assumption) | assumption)
                                    have q157 : (ji17) < (x3_2.length : Int) := of_decide_eq_true (by first | (with_reducible assumption) | assumption)
                                    obtain ⟨ad157, e157, hx157_0⟩ := Kd.at_int (Kd.R_reads' HO_3.out).2.2 (ji17) p157 q157
                                    cases e157
                                    replace p157 := eq_true p157
                                    replace q157 := eq_true q157
                                    go_wp2_with (first | ((with_reducible refine gate_builtin (b := .append) (xs := #[.tmp 47, .tmp 49]) rfl ?_); (try (refine gate_guard (by rfl) ?_; dsimp only)); at_builtin; refine impl_sortedValues.D_list (impl_sortedValues.D_append (.tmp 47) (.tmp 49) 135 rfl) ?_; refine Kd.R_append (Kd.int .u8) (w0 := w) w.heap.size rfl (.tmp 47) (.tmp 49) 135 5 (.int .u8 0) 1 rfl Tryd.underlying135 info5 rfl (by decide) (by omega) (.slice (some ad157) x3_2.length co23) x3_2 (((bt a0 x17_2) + 32) % 256) [.int .u8 (((bt a0 x17_2) + 32) % 256)] (fun _ => True) (fun _ => False) rfl rfl ?aP (fun _ hk => hk.elim) ?aF ?aO ?aB ?aS ?aL ?_; (case aP => exact rfl); (case aB => exact impl_sortedValues.Bel.below (by repeat (first | (with_reducible first | exact HB.out | apply impl_sortedValues.bel_alloc | apply impl_sortedValues.bel_drewN | apply impl_sortedValues.bel_drew1) | exact HB.out))); (case aF => exact (fun _ _ => trivial)); (case aO => exact (by (with_reducible repeat (first | apply Kd.R_alloc | apply Kd.R_drewN | apply Kd.R_drew)); exact HO_3.out)); (case aS => exact (impl_sortedValues.bel_size (by repeat (first | (with_reducible first | exact HB.out | apply impl_sortedValues.bel_alloc | apply impl_sortedValues.bel_drewN | apply impl_sortedValues.bel_drew1) | exact HB.out)))); (case aL => have := LMc22.out; omega); intro v159 w24 ho hb hg hat; refine impl_sortedValues.D_nil ?_; intro hd; rw [← Ny158.out] at ho; have n0_ := Aside0.mk (show impl_sortedValues.Bel w w24 from ⟨hb, Nat.le_trans (impl_sortedValues.Bel.drawn (by repeat (first | (with_reducible first | exact HB.out | apply impl_sortedValues.bel_alloc | apply impl_sortedValues.bel_drewN | apply impl_sortedValues.bel_drew1) | exact HB.out))) hd⟩); have n1_ := Aside0.mk (ho); clear HB; clear HO_3; have HB := n0_; have HO160 := n1_; clear n0_ n1_; clear ho hb hg hat hd))
                                    go_roundg kj11
                                    case measure => have := HJ1.out; have := HK2.out; have := HJ11.out; omega
                                    case rel => exact ⟨(y158), (wrap64 (x17_2 + 1)), (by first | rfl | (simp; done) | (simp [*]; done)), H', ⟨by have := HJ1.out; have := HK2.out; have := HJ11.out; omega⟩, ⟨by (with_reducible repeat (first | apply Kd.R_alloc | apply Kd.R_drewN | apply Kd.R_drew)); exact HO160.out⟩, ⟨by repeat (first | (with_reducible first | exact HB.out | apply impl_sortedValues.bel_alloc | apply impl_sortedValues.bel_drewN | apply impl_sortedValues.bel_drew1) | exact HB.out)⟩⟩
                                  · rw [if_neg c22] at H
                                    exact absurd H (by simp)
                              · rw [if_neg c19] at H
                                exact absurd H (by simp)
                            · rw [if_neg c18] at H
                              exact absurd H (by simp)
                          · rw [if_neg c16] at H
                            have c16b0 : decide (0 < (x3_2.length : Int)) = false := decide_eq_false c16
                            have c16b1 : decide (0 < x3_2.length) = false := decide_eq_false (by omega)
                            clear c16
                            have H' := Aside0.mk H
                            clear H
                            obtain ⟨Ao25, co25, eo25⟩ := Kd.R_slice HO_3.out
                            subst eo25
                            go_wp2
                            go_roundg kj11
                            case measure => have := HJ1.out; have := HK2.out; have := HJ11.out; omega
                            case rel => exact ⟨(x3_2), (wrap64 (x17_2 + 1)), (by first | rfl | (simp; done) | (simp [*]; done)), H', ⟨by have := HJ1.out; have := HK2.out; have := HJ11.out; omega⟩, ⟨by (with_reducible repeat (first | apply Kd.R_alloc | apply Kd.R_drewN | apply Kd.R_drew)); exact HO_3.out⟩, ⟨by repeat (first | (with_reducible first | exact HB.out | apply impl_sortedValues.bel_alloc | apply impl_sortedValues.bel_drewN | apply impl_sortedValues.bel_drew1) | exact HB.out)⟩⟩
                        · rw [if_neg c15] at H
                          have c15b0 : ((((bt a0 x17_2) + 32) % 256) == 32) = false := beq_eq_false_iff_ne.mpr c15
                          have c15b1 : ((((bt a0 x17_2) + 32) % 256) != 32) = true := bne_iff_ne.mpr c15
                          by_cases c26 : x3_2.length < 140737488355328
                          · rw [if_pos c26] at H
                            have LMc26 := Aside0.mk c26
                            clear c26
                            obtain ⟨y161, hy161⟩ : ∃ y_ : List Int, y_ = (x3_2 ++ [((bt a0 x17_2) + 32) % 256]) := ⟨_, rfl⟩
                            replace H : (impl_Norm.l0 kj11 a0 y161 (a0.size : Int) (wrap64 (x17_2 + 1))) = some r := by first | (rw [hy161]; with_reducible exact H) | (have H2_ := (Option.bind_some _ _).symm.trans H; rw [hy161]; with_reducible exact H2_) | (have H2_ := (Option.bind_some _ _).symm.trans H; with_reducible exact H2_) | with_reducible exact H | (rw [hy161]; exact H) | exact H
                            have Ny161 := Aside0.mk hy161
                            clear hy161
                            have H' := Aside0.mk H
                            clear H
                            go_wp2_with (first | ((with_reducible refine gate_builtin (b := .append) (xs := #[.tmp 47, .tmp 49]) rfl ?_); (try (refine gate_guard (by rfl) ?_; dsimp only)); at_builtin; refine impl_sortedValues.D_list (impl_sortedValues.D_append (.tmp 47) (.tmp 49) 135 rfl) ?_; refine Kd.R_append (Kd.int .u8) (w0 := w) w.heap.size rfl (.tmp 47) (.tmp 49) 135 5 (.int .u8 0) 1 rfl Tryd.underlying135 info5 rfl (by decide) (by omega) u3 x3_2 (((bt a0 x17_2) + 32) % 256) [.int .u8 (((bt a0 x17_2) + 32) % 256)] (fun _ => True) (fun _ => False) rfl rfl ?aP (fun _ hk => hk.elim) ?aF ?aO ?aB ?aS ?aL ?_; (case aP => exact rfl); (case aB => exact impl_sortedValues.Bel.below (by repeat (first | (with_reducible first | exact HB.out | apply impl_sortedValues.bel_alloc | apply impl_sortedValues.bel_drewN | apply impl_sortedValues.bel_drew1) | exact HB.out))); (case aF => exact (fun _ _ => trivial)); (case aO => exact (by (with_reducible repeat (first | apply Kd.R_alloc | apply Kd.R_drewN | apply Kd.R_drew)); exact HO_3.out)); (case aS => exact (impl_sortedValues.bel_size (by repeat (first | (with_reducible first | exact HB.out | apply impl_sortedValues.bel_alloc | apply impl_sortedValues.bel_drewN | apply impl_sortedValues.bel_drew1) | exact HB.out)))); (case aL => have := LMc26.out; omega); intro v162 w27 ho hb hg hat; refine impl_sortedValues.D_nil ?_; intro hd; rw [← Ny161.out] at ho; have n0_ := Aside0.mk (show impl_sortedValues.Bel w w27 from ⟨hb, Nat.le_trans (impl_sortedValues.Bel.drawn (by repeat (first | (with_reducible first | exact HB.out | apply impl_sortedValues.bel_alloc | apply impl_sortedValues.bel_drewN | apply impl_sortedValues.bel_drew1) | exact HB.out))) hd⟩); have n1_ := Aside0.mk (ho); clear HB; clear HO_3; have HB := n0_; have HO163 := n1_; clear n0_ n1_; clear ho hb hg hat hd))
                            go_roundg kj11
                            case measure => have := HJ1.out; have := HK2.out; have := HJ11.out; omega
                            case rel => exact ⟨(y161), (wrap64 (x17_2 + 1)), (by first | rfl | (simp; done) | (simp [*]; done)), H', ⟨by have := HJ1.out; have := HK2.out; have := HJ11.out; omega⟩, ⟨by (with_reducible repeat (first | apply Kd.R_alloc | apply Kd.R_drewN | apply Kd.R_drew)); exact HO163.out⟩, ⟨by repeat (first | (with_reducible first | exact HB.out | apply impl_sortedValues.bel_alloc | apply impl_sortedValues.bel_drewN | apply impl_sortedValues.bel_drew1) | exact HB.out)⟩⟩
                          · rw [if_neg c26] at H
                            exact absurd H (by simp)
                      · replace c14 := Bool.eq_false_iff.mpr c14
                        subst c14
                        have H1 : (if (bt a0 x17_2) = 32 then (if (x3_2.length : Int) > 0 then (if 0 ≤ (wrap64 ((x3_2.length : Int) - 1)) then (if (wrap64 ((x3_2.length : Int) - 1)) < (x3_2.length : Int) then (if (rd x3_2 (wrap64 ((x3_2.length : Int) - 1))) = 32 then (impl_Norm.l0 kj11 a0 x3_2 (a0.size : Int) (wrap64 (x17_2 + 1))) else (if x3_2.length < 140737488355328 then (impl_Norm.l0 kj11 a0 (x3_2 ++ [(bt a0 x17_2)]) (a0.size : Int) (wrap64 (x17_2 + 1))) else (none))) else (none)) else (none)) else (impl_Norm.l0 kj11 a0 x3_2 (a0.size : Int) (wrap64 (x17_2 + 1)))) else (if x3_2.length < 140737488355328 then (impl_Norm.l0 kj11 a0 (x3_2 ++ [(bt a0 x17_2)]) (a0.size : Int) (wrap64 (x17_2 + 1))) else (none))) = some r := by rw [if_neg (show ¬ (false = true) by decide)] at H; exact H
                        clear H
                        have H := H1
                        clear H1
                        by_cases c28 : (bt a0 x17_2) = 32
                        · rw [if_pos c28] at H
                          have c28b0 : ((bt a0 x17_2) == 32) = true := beq_iff_eq.mpr c28
                          have c28b1 : ((bt a0 x17_2) != 32) = false := bne_eq_false_iff_eq.mpr c28
                          clear c28
                          by_cases c29 : (x3_2.length : Int) > 0
                          · rw [if_pos c29] at H
                            have c29b0 : decide (0 < (x3_2.length : Int)) = true := decide_eq_true c29
                            have c29b1 : decide (0 < x3_2.length) = true := decide_eq_true (by omega)
                            clear c29
                            obtain ⟨ji30, hji30⟩ : ∃ j_ : Int, (wrap64 ((x3_2.length : Int) - 1)) = j_ := ⟨_, rfl⟩
                            replace H : (if 0 ≤ (ji30) then (if (ji30) < (x3_2.length : Int) then (if (rd x3_2 (ji30)) = 32 then (impl_Norm.l0 kj11 a0 x3_2 (a0.size : Int) (wrap64 (x17_2 + 1))) else (if x3_2.length < 140737488355328 then (impl_Norm.l0 kj11 a0 (x3_2 ++ [(bt a0 x17_2)]) (a0.size : Int) (wrap64 (x17_2 + 1))) else (none))) else (none)) else (none)) = some r := by first | (rw [hji30] at H; exact H) | (simp only [hji30] at H ⊢; exact H)
                            have hji30w : (IntKind.i64.wrap ((x3_2.length : Int) - 1)) = ji30 := (i64_w _).trans hji30
                            by_cases c31 : 0 ≤ (ji30)
                            · rw [if_pos c31] at H
                              have c31b0 : decide (0 ≤ (ji30)) = true := decide_eq_true c31
                              clear c31
                              by_cases c32 : (ji30) < (x3_2.length : Int)
                              · rw [if_pos c32] at H
                                have c32b0 : decide ((ji30) < (x3_2.length : Int)) = true := decide_eq_true c32
                                clear c32
                                by_cases c33 : (rd x3_2 (ji30)) = 32
                                · rw [if_pos c33] at H
                                  have c33b0 : ((rd x3_2 (ji30)) == 32) = true := beq_iff_eq.mpr c33
                                  have c33b1 : ((rd x3_2 (ji30)) != 32) = false := bne_eq_false_iff_eq.mpr c33
                                  clear c33
                                  have H' := Aside0.mk H
                                  clear H
                                  obtain ⟨Ao34, co34, eo34⟩ := Kd.R_slice HO_3.out
                                  subst eo34
                                  have p164 : 0 ≤ ((ji30) : Int) := of_decide_eq_true (by first | (with_reducible assumption) | assumption)
                                  have q164 : (ji30) < (x3_2.length : Int) := of_decide_eq_true (by first | (with_reducible assumption) | assumption)
                                  obtain ⟨ad164, e164, hx164_0⟩ := Kd.at_int (Kd.R_reads' HO_3.out).2.2 (ji30) p164 q164
                                  cases e164
                                  replace p164 := eq_true p164
                                  replace q164 := eq_true q164
                                  go_wp2
                                  go_roundg kj11
                                  case measure => have := HJ1.out; have := HK2.out; have := HJ11.out; omega
                                  case rel => exact ⟨(x3_2), (wrap64 (x17_2 + 1)), (by first | rfl | (simp; done) | (simp [*]; done)), H', ⟨by have := HJ1.out; have := HK2.out; have := HJ11.out; omega⟩, ⟨by (with_reducible repeat (first | apply Kd.R_alloc | apply Kd.R_drewN | apply Kd.R_drew)); exact HO_3.out⟩, ⟨by repeat (first | (with_reducible first | exact HB.out | apply impl_sortedValues.bel_alloc | apply impl_sortedValues.bel_drewN | apply impl_sortedValues.bel_drew1) | exact HB.out)⟩⟩
                                · rw [if_neg c33] at H
                                  have c33b0 : ((rd x3_2 (ji30)) == 32) = false := beq_eq_false_iff_ne.mpr c33
                                  have c33b1 : ((rd x3_2 (ji30)) != 32) = true := bne_iff_ne.mpr c33
                                  by_cases c35 : x3_2.length < 140737488355328
                                  · rw [if_pos c35] at H
                                    have LMc35 := Aside0.mk c35
                                    clear c35
                                    obtain ⟨y165, hy165⟩ : ∃ y_ : List Int, y_ = (x3_2 ++ [(bt a0 x17_2)]) := ⟨_, rfl⟩
                                    replace H : (impl_Norm.l0 kj11 a0 y165 (a0.size : Int) (wrap64 (x17_2 + 1))) = some r := by first | (rw [hy165]; with_reducible exact H) | (have H2_ := (Option.bind_some _ _).symm.trans H; rw [hy165]; with_reducible exact H2_) | (have H2_ := (Option.bind_some _ _).symm.trans H; with_reducible exact H2_) | with_reducible exact H | (rw [hy165]; exact H) | exact H
                                    have Ny165 := Aside0.mk hy165
                                    clear hy165
                                    have H' := Aside0.mk H
                                    clear H
                                    obtain ⟨Ao36, co36, eo36⟩ := Kd.R_slice HO_3.out
                                    subst eo36
                                    have p164 : 0 ≤ ((ji30) : Int) := of_decide_eq_true (by first | (with_reducible assumption) | assumption)
                                    have q164 : (ji30) < (x3_2.length : Int) := of_decide_eq_true (by first | (with_reducible assumption) | assumption)
                                    obtain ⟨ad164, e164, hx164_0⟩ := Kd.at_int (Kd.R_reads' HO_3.out).2.2 (ji30) p164 q164
                                    cases e164
                                    replace p164 := eq_true p164
                                    replace q164 := eq_true q164
                                    go_wp2_with (first | ((with_reducible refine gate_builtin (b := .append) (xs := #[.tmp 47, .tmp 49]) rfl ?_); (try (refine gate_guard (by rfl) ?_; dsimp only)); at_builtin; refine impl_sortedValues.D_list (impl_sortedValues.D_append (.tmp 47) (.tmp 49) 135 rfl) ?_; refine Kd.R_append (Kd.int .u8) (w0 := w) w.heap.size rfl (.tmp 47) (.tmp 49) 135 5 (.int .u8 0) 1 rfl Tryd.underlying135 info5 rfl (by decide) (by omega) (.slice (some ad164) x3_2.length co36) x3_2 (bt a0 x17_2) [.int .u8 (bt a0 x17_2)] (fun _ => True) (fun _ => False) rfl rfl ?aP (fun _ hk => hk.elim) ?aF ?aO ?aB ?aS ?aL ?_; (case aP => exact rfl); (case aB => exact impl_sortedValues.Bel.below (by repeat (first | (with_reducible first | exact HB.out | apply impl_sortedValues.bel_alloc | apply impl_sortedValues.bel_drewN | apply impl_sortedValues.bel_drew1) | exact HB.out))); (case aF => exact (fun _ _ => trivial)); (case aO => exact (by (with_reducible repeat (first | apply Kd.R_alloc | apply Kd.R_drewN | apply Kd.R_drew)); exact HO_3.out)); (case aS => exact (impl_sortedValues.bel_size (by repeat (first | (with_reducible first | exact HB.out | apply impl_sortedValues.bel_alloc | apply impl_sortedValues.bel_drewN | apply impl_sortedValues.bel_drew1) | exact HB.out)))); (case aL => have := LMc35.out; omega); intro v166 w37 ho hb hg hat; refine impl_sortedValues.D_nil ?_; intro hd; rw [← Ny165.out] at ho; have n0_ := Aside0.mk (show impl_sortedValues.Bel w w37 from ⟨hb, Nat.le_trans (impl_sortedValues.Bel.drawn (by repeat (first | (with_reducible first | exact HB.out | apply impl_sortedValues.bel_alloc | apply impl_sortedValues.bel_drewN | apply impl_sortedValues.bel_drew1) | exact HB.out))) hd⟩); have n1_ := Aside0.mk (ho); clear HB; clear HO_3; have HB := n0_; have HO167 := n1_; clear n0_ n1_; clear ho hb hg hat hd))
                                    go_roundg kj11
                                    case measure => have := HJ1.out; have := HK2.out; have := HJ11.out; omega
                                    case rel => exact ⟨(y165), (wrap64 (x17_2 + 1)), (by first | rfl | (simp; done) | (simp [*]; done)), H', ⟨by have := HJ1.out; have := HK2.out; have := HJ11.out; omega⟩, ⟨by (with_reducible repeat (first | apply Kd.R_alloc | apply Kd.R_drewN | apply Kd.R_drew)); exact HO167.out⟩, ⟨by repeat (first | (with_reducible first | exact HB.out | apply impl_sortedValues.bel_alloc | apply impl_sortedValues.bel_drewN | apply impl_sortedValues.bel_drew1) | exact HB.out)⟩⟩
                                  · rw [if_neg c35] at H
                                    exact absurd H (by simp)
                              · rw [if_neg c32] at H
                                exact absurd H (by simp)
                            · rw [if_neg c31] at H
                              exact absurd H (by simp)
                          · rw [if_neg c29] at H
                            have c29b0 : decide (0 < (x3_2.length : Int)) = false := decide_eq_false c29
                            have c29b1 : decide (0 < x3_2.length) = false := decide_eq_false (by omega)
                            clear c29
                            have H' := Aside0.mk H
                            clear H
                            obtain ⟨Ao38, co38, eo38⟩ := Kd.R_slice HO_3.out
                            subst eo38
                            go_wp2
                            go_roundg kj11
                            case measure => have := HJ1.out; have := HK2.out; have := HJ11.out; omega
                            case rel => exact ⟨(x3_2), (wrap64 (x17_2 + 1)), (by first | rfl | (simp; done) | (simp [*]; done)), H', ⟨by have := HJ1.out; have := HK2.out; have := HJ11.out; omega⟩, ⟨by (with_reducible repeat (first | apply Kd.R_alloc | apply Kd.R_drewN | apply Kd.R_drew)); exact HO_3.out⟩, ⟨by repeat (first | (with_reducible first | exact HB.out | apply impl_sortedValues.bel_alloc | apply impl_sortedValues.bel_drewN | apply impl_sortedValues.bel_drew1) | exact HB.out)⟩⟩
                        · rw [if_neg c28] at H
                          have c28b0 : ((bt a0 x17_2) == 32) = false := beq_eq_false_iff_ne.mpr c28
                          have c28b1 : ((bt a0 x17_2) != 32) = true := bne_iff_ne.mpr c28
                          by_cases c39 : x3_2.length < 140737488355328
                          · rw [if_pos c39] at H
                            have LMc39 := Aside0.mk c39
                            clear c39
                            obtain ⟨y168, hy168⟩ : ∃ y_ : List Int, y_ = (x3_2 ++ [(bt a0 x17_2)]) := ⟨_, rfl⟩
                            replace H : (impl_Norm.l0 kj11 a0 y168 (a0.size : Int) (wrap64 (x17_2 + 1))) = some r := by first | (rw [hy168]; with_reducible exact H) | (have H2_ := (Option.bind_some _ _).symm.trans H; rw [hy168]; with_reducible exact H2_) | (have H2_ := (Option.bind_some _ _).symm.trans H; with_reducible exact H2_) | with_reducible exact H | (rw [hy168]; exact H) | exact H
                            have Ny168 := Aside0.mk hy168
                            clear hy168
                            have H' := Aside0.mk H
                            clear H
                            go_wp2_with (first | ((with_reducible refine gate_builtin (b := .append) (xs := #[.tmp 47, .tmp 49]) rfl ?_); (try (refine gate_guard (by rfl) ?_; dsimp only)); at_builtin; refine impl_sortedValues.D_list (impl_sortedValues.D_append (.tmp 47) (.tmp 49) 135 rfl) ?_; refine Kd.R_append (Kd.int .u8) (w0 := w) w.heap.size rfl (.tmp 47) (.tmp 49) 135 5 (.int .u8 0) 1 rfl Tryd.underlying135 info5 rfl (by decide) (by omega) u3 x3_2 (bt a0 x17_2) [.int .u8 (bt a0 x17_2)] (fun _ => True) (fun _ => False) rfl rfl ?aP (fun _ hk => hk.elim) ?aF ?aO ?aB ?aS ?aL ?_; (case aP => exact rfl); (case aB => exact impl_sortedValues.Bel.below (by repeat (first | (with_reducible first | exact HB.out | apply impl_sortedValues.bel_alloc | apply impl_sortedValues.bel_drewN | apply impl_sortedValues.bel_drew1) | exact HB.out))); (case aF => exact (fun _ _ => trivial)); (case aO => exact (by (with_reducible repeat (first | apply Kd.R_alloc | apply Kd.R_drewN | apply Kd.R_drew)); exact HO_3.out)); (case aS => exact (impl_sortedValues.bel_size (by repeat (first | (with_reducible first | exact HB.out | apply impl_sortedValues.bel_alloc | apply impl_sortedValues.bel_drewN | apply impl_sortedValues.bel_drew1) | exact HB.out)))); (case aL => have := LMc39.out; omega); intro v169 w40 ho hb hg hat; refine impl_sortedValues.D_nil ?_; intro hd; rw [← Ny168.out] at ho; have n0_ := Aside0.mk (show impl_sortedValues.Bel w w40 from ⟨hb, Nat.le_trans (impl_sortedValues.Bel.drawn (by repeat (first | (with_reducible first | exact HB.out | apply impl_sortedValues.bel_alloc | apply impl_sortedValues.bel_drewN | apply impl_sortedValues.bel_drew1) | exact HB.out))) hd⟩); have n1_ := Aside0.mk (ho); clear HB; clear HO_3; have HB := n0_; have HO170 := n1_; clear n0_ n1_; clear ho hb hg hat hd))
                            go_roundg kj11
                            case measure => have := HJ1.out; have := HK2.out; have := HJ11.out; omega
                            case rel => exact ⟨(y168), (wrap64 (x17_2 + 1)), (by first | rfl | (simp; done) | (simp [*]; done)), H', ⟨by have := HJ1.out; have := HK2.out; have := HJ11.out; omega⟩, ⟨by (with_reducible repeat (first | apply Kd.R_alloc | apply Kd.R_drewN | apply Kd.R_drew)); exact HO170.out⟩, ⟨by repeat (first | (with_reducible first | exact HB.out | apply impl_sortedValues.bel_alloc | apply impl_sortedValues.bel_drewN | apply impl_sortedValues.bel_drew1) | exact HB.out)⟩⟩
                          · rw [if_neg c39] at H
                            exact absurd H (by simp)
                · rw [if_neg c10] at H
                  exact absurd H (by simp)
              · rw [if_neg c9] at H
                exact absurd H (by simp)
            · rw [if_neg c8] at H
              have c8b0 : decide (x17_2 < (a0.size : Int)) = false := decide_eq_false c8
              clear c8
              replace H := Option.bind_eq_some_iff.mp H
              obtain ⟨t156, A410, H⟩ := H
              replace H : (some t156) = some r := H
              have A41 := Aside0.mk A410
              clear A410
              obtain rfl := Option.some.inj H
              have hcv42 := own_string (P := Tryd.prog) Tryd.underlying135 Tryd.underlying5 Tryd.underlying9 (Kd.own_of_R HO_3.out)
              go_wp2_with (first | ((with_reducible refine gate_callee (f := 146) rfl ?_); refine goesL_ (some 54) rfl rfl Tryd.func146 (by kernel_rfl) rfl #[.string (strOfNums x3_2), .string (⟨#[32]⟩ : ByteArray)] rfl (by (try simp only [List.map_toArray, List.map_cons, List.map_nil]); first | done | rfl | (simp only [List.length_drop, List.length_take]; rfl)) ?_; (with_reducible refine (strings_TrimSuffix.calls (strOfNums x3_2) (⟨#[32]⟩ : ByteArray) t156 _ A41.out).mono ?_); rintro e w' ⟨rfl, ⟨nd, rfl⟩⟩; refine ⟨_, rfl, ?_⟩))
              go_ret
              exact ⟨by first | rfl | (simp only [bne_nil_, beq_nil_]; rfl) | (simp [errW_none, errW_some] <;> rfl) | (simp [*, errW_none, errW_some] <;> rfl), by repeat (first | (with_reducible first | exact HB.out | apply impl_sortedValues.bel_alloc | apply impl_sortedValues.bel_drewN | apply impl_sortedValues.bel_drew1) | exact HB.out)⟩
set_option maxHeartbeats 8000000 in
set_option maxRecDepth 100000 in
theorem impl_sortedValues.byNormD (k : Nat) (a0 : ByteArray) (a1 : ByteArray) (r : Int) (w : World) (h : impl_byNorm.f k a0 a1 = some r) :
    Calls Tryd.prog 79 #[.string a0, .string a1] w fun e w' => e = .returned (.int .i64 r) ∧ impl_sortedValues.Bel w w' := by
  have HB := Aside0.mk (impl_sortedValues.bel_refl w)
  have H : ((impl_Norm.f k a0).bind fun t171 => ((impl_Norm.f k a1).bind fun t172 => ((strings_Compare.f t171 t172).bind fun t173 => (some t173)))) = some r := h
  clear h
  replace H := Option.bind_eq_some_iff.mp H
  obtain ⟨t171, A30, H⟩ := H
  replace H : ((impl_Norm.f k a1).bind fun t172 => ((strings_Compare.f t171 t172).bind fun t173 => (some t173))) = some r := H
  have A3 := Aside0.mk A30
  clear A30
  replace H := Option.bind_eq_some_iff.mp H
  obtain ⟨t172, A40, H⟩ := H
  replace H : ((strings_Compare.f t171 t172).bind fun t173 => (some t173)) = some r := H
  have A4 := Aside0.mk A40
  clear A40
  replace H := Option.bind_eq_some_iff.mp H
  obtain ⟨t173, A50, H⟩ := H
  replace H : (some t173) = some r := H
  have A5 := Aside0.mk A50
  clear A50
  obtain rfl := Option.some.inj H
  go_enter Tryd.func79, Tryd.ntmps79
  go_wp2_with (first | ((with_reducible refine gate_callee (f := 110) rfl ?_); refine goesL_ (some 6) rfl rfl Tryd.func110 (by kernel_rfl) rfl #[.string a0] rfl (by (try simp only [List.map_toArray, List.map_cons, List.map_nil]); first | done | rfl | (simp only [List.length_drop, List.length_take]; rfl)) ?_; (with_reducible refine (impl_sortedValues.normD k a0 t171 _ A3.out).mono ?_); rintro e w6 ⟨rfl, hbe⟩; refine ⟨_, rfl, ?_⟩; have hb := hbe.1; have hd := hbe.2; clear hbe; have n0_ := Aside0.mk (impl_sortedValues.bel_step (by repeat (first | (with_reducible first | exact HB.out | apply impl_sortedValues.bel_alloc | apply impl_sortedValues.bel_drewN | apply impl_sortedValues.bel_drew1) | exact HB.out)) hb hd); clear HB; have HB := n0_; clear n0_; (try clear hb hd); (try clear hb2); (try clear hk); (try clear hi)) | ((with_reducible refine gate_callee (f := 110) rfl ?_); refine goesL_ (some 8) rfl rfl Tryd.func110 (by kernel_rfl) rfl #[.string a1] rfl (by (try simp only [List.map_toArray, List.map_cons, List.map_nil]); first | done | rfl | (simp only [List.length_drop, List.length_take]; rfl)) ?_; (with_reducible refine (impl_sortedValues.normD k a1 t172 _ A4.out).mono ?_); rintro e w7 ⟨rfl, hbe⟩; refine ⟨_, rfl, ?_⟩; have hb := hbe.1; have hd := hbe.2; clear hbe; have n0_ := Aside0.mk (impl_sortedValues.bel_step (by repeat (first | (with_reducible first | exact HB.out | apply impl_sortedValues.bel_alloc | apply impl_sortedValues.bel_drewN | apply impl_sortedValues.bel_drew1) | exact HB.out)) hb hd); clear HB; have HB := n0_; clear n0_; (try clear hb hd); (try clear hb2); (try clear hk); (try clear hi)) | ((with_reducible refine gate_callee (f := 109) rfl ?_); refine goesL_ (some 9) rfl rfl Tryd.func109 (by kernel_rfl) rfl #[.string t171, .string t172] rfl (by (try simp only [List.map_toArray, List.map_cons, List.map_nil]); first | done | rfl | (simp only [List.length_drop, List.length_take]; rfl)) ?_; (with_reducible refine (strings_Compare.calls t171 t172 t173 _ A5.out).mono ?_); rintro e w' ⟨rfl, ⟨nd, rfl⟩⟩; refine ⟨_, rfl, ?_⟩))
  go_ret
  exact ⟨by first | rfl | (simp only [bne_nil_, beq_nil_]; rfl) | (simp [errW_none, errW_some] <;> rfl) | (simp [*, errW_none, errW_some] <;> rfl), by repeat (first | (with_reducible first | exact HB.out | apply impl_sortedValues.bel_alloc | apply impl_sortedValues.bel_drewN | apply impl_sortedValues.bel_drew1) | exact HB.out)⟩
theorem impl_sortedValues.bel_grown {w w' : World} (h : impl_sortedValues.Bel w w') : ∃ q os, w' = Go.Sort.grow (w.drewN q) os := by
  obtain ⟨⟨d, os⟩, rfl⟩ := Go.regrown_of_below h.1
  have hd : w.drawn ≤ d := h.2
  refine ⟨d - w.drawn, os, ?_⟩
  unfold Go.redrawn Go.Sort.grow World.drewN
  simp only [show w.drawn + (d - w.drawn) = d by omega]
def impl_sortedValues.cf (k : Nat) (x y : List UInt8) : Int := (impl_byNorm.f k ⟨x.toArray⟩ ⟨y.toArray⟩).getD 0
/-- The comparison answers at every two texts, and is an order. -/
def impl_sortedValues.ok (k : Nat) : Prop := (∀ x y : List UInt8, impl_byNorm.f k ⟨x.toArray⟩ ⟨y.toArray⟩ = some (impl_sortedValues.cf k x y)) ∧ Go.Sort.SWO (Go.Proofs.ltOf (impl_sortedValues.cf k))
theorem impl_sortedValues.w64 {x : Int} (h0 : -9223372036854775808 ≤ x) (h1 : x ≤ 9223372036854775807) : wrap64 x = x := by unfold wrap64; omega
theorem impl_sortedValues.ba_ext {a b : ByteArray} (h : a.data.toList = b.data.toList) : a = b := ByteArray.ext (Array.toList_inj.1 h)
theorem impl_sortedValues.drop_bt (s : ByteArray) (i : Int) (h0 : 0 ≤ i) (h1 : i < s.size) : (bytesOf s).drop i.toNat = bt s i :: (bytesOf s).drop (i + 1).toNat := by
  have hl : i.toNat < (bytesOf s).length := by rw [bytesOf_length]; omega
  rw [List.drop_eq_getElem_cons hl, ← rd_bytesOf, show (i + 1).toNat = i.toNat + 1 by omega]
  congr 1
  unfold rd
  rw [List.getD_eq_getElem?_getD, List.getElem?_eq_getElem hl]; rfl
/-- A capital as a small letter. -/
def impl_sortedValues.up (c : Int) : Int := if 65 ≤ c ∧ c ≤ 90 then c + 32 else c
/-- A byte put behind what is there: no blank at the begin, none behind another. -/
def impl_sortedValues.nput (l : List Int) (c : Int) : List Int := if c = 32 ∧ (l = [] ∨ rd l ((l.length : Int) - 1) = 32) then l else l ++ [c]
def impl_sortedValues.nfold (l cs : List Int) : List Int := cs.foldl (fun l c => impl_sortedValues.nput l (impl_sortedValues.up c)) l
def impl_sortedValues.ntrim (l : List Int) : List Int := if l ≠ [] ∧ rd l ((l.length : Int) - 1) = 32 then l.take (l.length - 1) else l
def impl_sortedValues.prt (c : Int) : Bool := decide (32 ≤ c) && decide (c ≤ 126)
theorem impl_sortedValues.prt_lo {c : Int} (h : c < 32) : impl_sortedValues.prt c = false := by unfold impl_sortedValues.prt; rw [decide_eq_false (by omega)]; rfl
theorem impl_sortedValues.prt_hi {c : Int} (h : c > 126) : impl_sortedValues.prt c = false := by unfold impl_sortedValues.prt; rw [decide_eq_false (p := c ≤ 126) (by omega)]; simp
def impl_sortedValues.plainP (s : ByteArray) : Bool := (bytesOf s).all impl_sortedValues.prt
def impl_sortedValues.NormL (s : ByteArray) : List Int := if s.size ≤ 100 ∧ impl_sortedValues.plainP s = true then impl_sortedValues.ntrim (impl_sortedValues.nfold [] (bytesOf s)) else []
def impl_sortedValues.NormP (s : ByteArray) : ByteArray := strOfNums (impl_sortedValues.NormL s)
theorem impl_sortedValues.son_nil : strOfNums [] = (⟨#[]⟩ : ByteArray) := rfl
theorem impl_sortedValues.impl_isPrintable_l0 (s : ByteArray) (hs : s.size ≤ 4611686018427387904) : ∀ (d k : Nat) (i : Int), 0 ≤ i → i + d = s.size → d < k →
    impl_isPrintable.l0 k s (s.size : Int) i = some (((bytesOf s).drop i.toNat).all impl_sortedValues.prt)
  | 0, k, i, h0, hd, hk => by
    obtain ⟨k, rfl⟩ : ∃ m, k = m + 1 := ⟨k - 1, by omega⟩
    simp only [impl_isPrintable.l0]
    rw [if_neg (by omega), List.drop_of_length_le (by rw [bytesOf_length]; omega)]; rfl
  | d + 1, k, i, h0, hd, hk => by
    obtain ⟨k, rfl⟩ : ∃ m, k = m + 1 := ⟨k - 1, by omega⟩
    simp only [impl_isPrintable.l0]
    rw [if_pos (by omega), if_pos h0, if_pos (by omega), impl_sortedValues.drop_bt s i h0 (by omega), List.all_cons]
    by_cases h1 : bt s i < 32
    · rw [if_pos h1, show impl_sortedValues.prt (bt s i) = false from impl_sortedValues.prt_lo h1]; rfl
    · rw [if_neg h1]
      by_cases h2 : bt s i > 126
      · rw [if_pos h2, show impl_sortedValues.prt (bt s i) = false from impl_sortedValues.prt_hi h2]; rfl
      · rw [if_neg h2, impl_sortedValues.w64 (by omega) (by omega), impl_sortedValues.impl_isPrintable_l0 s hs d k (i + 1) (by omega) (by omega) (by omega)]
        simp [impl_sortedValues.prt, show 32 ≤ bt s i by omega, show bt s i ≤ 126 by omega]
theorem impl_sortedValues.impl_isPrintable_f (s : ByteArray) (hs : s.size ≤ 4611686018427387904) (k : Nat) (hk : s.size < k) : impl_isPrintable.f k s = some (impl_sortedValues.plainP s) := by
  unfold impl_isPrintable.f
  rw [impl_sortedValues.impl_isPrintable_l0 s hs s.size k 0 (by omega) (by omega) hk]; rfl
theorem impl_sortedValues.nput_length (l : List Int) (c : Int) : (impl_sortedValues.nput l c).length ≤ l.length + 1 := by
  unfold impl_sortedValues.nput; split <;> simp
theorem impl_sortedValues.up_of {c : Int} (h0 : 0 ≤ c) (h1 : c ≤ 255) (b : Bool) (hb : b = (decide (c ≥ 65) && decide (c ≤ 90))) : (if b = true then (c + 32) % 256 else c) = impl_sortedValues.up c := by
  unfold impl_sortedValues.up
  subst hb
  by_cases h : 65 ≤ c ∧ c ≤ 90
  · rw [if_pos h, if_pos (by simp [h.1, h.2])]; omega
  · rw [if_neg h, if_neg (by simpa using h)]
theorem impl_sortedValues.impl_Norm_j2 (k : Nat) (s : ByteArray) (l : List Int) (n i c : Int) (b : Bool) (hl : l.length < 1000) (h0 : 0 ≤ i) (h1 : i < 1000) :
    impl_Norm.j2 (k + 1) s l c n i b = impl_Norm.l0 k s (impl_sortedValues.nput l (if b = true then (c + 32) % 256 else c)) n (i + 1) := by
  simp only [impl_Norm.j2]
  rw [impl_sortedValues.w64 (x := i + 1) (by omega) (by omega), impl_sortedValues.w64 (x := (l.length : Int) - 1) (by omega) (by omega), if_pos (show l.length < 140737488355328 by omega), if_pos (show l.length < 140737488355328 by omega)]
  have key : ∀ c : Int, (if c = 32 then (if (l.length : Int) > 0 then (if 0 ≤ (l.length : Int) - 1 then (if (l.length : Int) - 1 < (l.length : Int) then (if rd l ((l.length : Int) - 1) = 32 then impl_Norm.l0 k s l n (i + 1) else impl_Norm.l0 k s (l ++ [c]) n (i + 1)) else none) else none) else impl_Norm.l0 k s l n (i + 1)) else impl_Norm.l0 k s (l ++ [c]) n (i + 1)) = impl_Norm.l0 k s (impl_sortedValues.nput l c) n (i + 1) := by
    intro c
    unfold impl_sortedValues.nput
    by_cases hc : c = 32
    · rw [if_pos hc]
      by_cases hn : l = []
      · rw [if_neg (by simp [hn]), if_pos ⟨hc, .inl hn⟩]
      · have : 0 < l.length := List.length_pos_iff.2 hn
        rw [if_pos (by omega), if_pos (by omega), if_pos (by omega)]
        by_cases hr : rd l ((l.length : Int) - 1) = 32
        · rw [if_pos hr, if_pos ⟨hc, .inr hr⟩]
        · rw [if_neg hr, if_neg (fun x => x.2.elim hn hr)]
    · rw [if_neg hc, if_neg (fun x => hc x.1)]
  cases b
  · exact key c
  · exact key _
theorem impl_sortedValues.son_take (l : List Int) (n : Nat) : (strOfNums l).extract 0 n = strOfNums (l.take n) := by
  apply impl_sortedValues.ba_ext
  rw [ByteArray.data_extract, Array.toList_extract, strOfNums_data, strOfNums_data]
  simp [List.extract]
theorem impl_sortedValues.son_drop (l : List Int) (n : Nat) : (strOfNums l).extract n (strOfNums l).size = strOfNums (l.drop n) := by
  apply impl_sortedValues.ba_ext
  rw [ByteArray.data_extract, Array.toList_extract, strOfNums_data, strOfNums_data, strOfNums_size]
  simp only [List.extract, List.map_drop]
  exact List.take_of_length_le (by simp)
theorem impl_sortedValues.drop_last (l : List Int) (h : 0 < l.length) : l.drop (l.length - 1) = [rd l ((l.length : Int) - 1)] := by
  rw [List.drop_eq_getElem_cons (by omega), List.drop_of_length_le (by omega)]
  congr 1
  unfold rd
  rw [show ((l.length : Int) - 1).toNat = l.length - 1 by omega, List.getD_eq_getElem?_getD, List.getElem?_eq_getElem (by omega)]; rfl
theorem impl_sortedValues.trim_blank (l : List Int) (hl : l.length < 1000) (hr : ∀ x ∈ l, 0 ≤ x ∧ x ≤ 255) : strings_TrimSuffix.f (strOfNums l) (⟨#[32]⟩ : ByteArray) = some (strOfNums (impl_sortedValues.ntrim l)) := by
  have hz : (⟨#[32]⟩ : ByteArray).size = 1 := rfl
  unfold strings_TrimSuffix.f stringslite_TrimSuffix.f stringslite_HasSuffix.f impl_sortedValues.ntrim
  rw [hz]
  by_cases hn : l = []
  · subst hn
    rw [if_neg (show ¬ (((strOfNums []).size : Int) ≥ ((1 : Nat) : Int)) by decide)]; rfl
  · have hp : 0 < l.length := List.length_pos_iff.2 hn
    have hin : rd l ((l.length : Int) - 1) ∈ l := by have h := impl_sortedValues.drop_last l hp; exact List.mem_of_mem_drop (i := l.length - 1) (by rw [h]; simp)
    have hb := hr _ hin
    simp only [strOfNums_size, Int.natCast_one]
    rw [impl_sortedValues.w64 (x := (l.length : Int) - 1) (by omega) (by omega), if_pos (by omega), if_pos (by omega), if_pos (by omega)]
    simp only [Option.bind_some]
    have e1 : (strOfNums l).extract ((l.length : Int) - 1).toNat l.length = strOfNums [rd l ((l.length : Int) - 1)] := by
      rw [← impl_sortedValues.drop_last l hp, ← impl_sortedValues.son_drop, strOfNums_size, show ((l.length : Int) - 1).toNat = l.length - 1 by omega]
    rw [e1]
    have e2 : ((strOfNums [rd l ((l.length : Int) - 1)]).toList == (⟨#[32]⟩ : ByteArray).toList) = decide (rd l ((l.length : Int) - 1) = 32) := by
      rw [Go.Lib.toList_data, Go.Lib.toList_data, strOfNums_data]
      generalize rd l ((l.length : Int) - 1) = x at hb
      have key : ∀ z : Fin 256, (([(z.val : Int)].map fun n => UInt8.ofNat n.toNat) == (⟨#[32]⟩ : ByteArray).data.toList) = decide ((z.val : Int) = 32) := by decide +kernel
      have := key ⟨x.toNat, by omega⟩
      simpa [Int.toNat_of_nonneg hb.1] using this
    rw [e2]
    by_cases h : rd l ((l.length : Int) - 1) = 32
    · rw [decide_eq_true h]
      simp only [if_true, Option.bind_some]
      rw [if_pos (show l ≠ [] ∧ rd l ((l.length : Int) - 1) = 32 from ⟨hn, h⟩), impl_sortedValues.son_take, show ((l.length : Int) - 1).toNat = l.length - 1 by omega, if_pos (show 0 ≤ (l.length : Int) - 1 by omega), if_pos (show (l.length : Int) - 1 ≤ (l.length : Int) by omega)]; rfl
    · rw [decide_eq_false h, if_neg (show ¬ (l ≠ [] ∧ rd l ((l.length : Int) - 1) = 32) from fun x => h x.2)]; rfl
theorem impl_sortedValues.nput_range {l : List Int} {c : Int} (hl : ∀ x ∈ l, 0 ≤ x ∧ x ≤ 255) (hc : 0 ≤ c ∧ c ≤ 255) : ∀ x ∈ impl_sortedValues.nput l c, 0 ≤ x ∧ x ≤ 255 := by
  intro x hx
  unfold impl_sortedValues.nput at hx
  split at hx
  · exact hl x hx
  · rcases List.mem_append.1 hx with h | h
    · exact hl x h
    · rw [List.mem_singleton.1 h]; exact hc
theorem impl_sortedValues.up_range {c : Int} (hc : 0 ≤ c ∧ c ≤ 255) : 0 ≤ impl_sortedValues.up c ∧ impl_sortedValues.up c ≤ 255 := by unfold impl_sortedValues.up; split <;> omega
theorem impl_sortedValues.impl_Norm_l0 (s : ByteArray) (hs : s.size ≤ 100) : ∀ (d k : Nat) (i : Int) (l : List Int), 0 ≤ i → i + d = s.size → 2 * d < k → l.length ≤ i → (∀ x ∈ l, 0 ≤ x ∧ x ≤ 255) →
    impl_Norm.l0 k s l (s.size : Int) i = some (strOfNums (impl_sortedValues.ntrim (impl_sortedValues.nfold l ((bytesOf s).drop i.toNat))))
  | 0, k, i, l, h0, hd, hk, hl, hr => by
    obtain ⟨k, rfl⟩ : ∃ m, k = m + 1 := ⟨k - 1, by omega⟩
    simp only [impl_Norm.l0]
    rw [if_neg (by omega), List.drop_of_length_le (by rw [bytesOf_length]; omega), impl_sortedValues.trim_blank l (by omega) hr]
    rfl
  | d + 1, k, i, l, h0, hd, hk, hl, hr => by
    obtain ⟨k, rfl⟩ : ∃ m, k = m + 2 := ⟨k - 2, by omega⟩
    have hb := bt_range s i
    have hj : ∀ b : Bool, b = (decide (bt s i ≥ 65) && decide (bt s i ≤ 90)) → impl_Norm.j2 (k + 1) s l (bt s i) (s.size : Int) i b = some (strOfNums (impl_sortedValues.ntrim (impl_sortedValues.nfold l ((bytesOf s).drop i.toNat)))) := by
      intro b hbb
      rw [impl_sortedValues.impl_Norm_j2 k s l _ i _ b (by omega) h0 (by omega), impl_sortedValues.up_of hb.1 hb.2 b hbb]
      have := impl_sortedValues.nput_length l (impl_sortedValues.up (bt s i))
      rw [impl_sortedValues.impl_Norm_l0 s hs d k (i + 1) _ (by omega) (by omega) (by omega) (by omega) (impl_sortedValues.nput_range hr (impl_sortedValues.up_range hb)), impl_sortedValues.drop_bt s i h0 (by omega)]; rfl
    simp only [impl_Norm.l0]
    rw [if_pos (by omega), if_pos h0, if_pos (by omega)]
    by_cases h : bt s i ≥ 65
    · rw [if_pos h]; exact hj _ (by simp [h])
    · rw [if_neg h]; exact hj _ (by simp [h])
theorem impl_sortedValues.impl_Norm_f (s : ByteArray) (k : Nat) (hk : 2 * s.size + 2 < k) : impl_Norm.f k s = some (impl_sortedValues.NormP s) := by
  obtain ⟨k, rfl⟩ : ∃ m, k = m + 1 := ⟨k - 1, by omega⟩
  unfold impl_Norm.f impl_sortedValues.NormP impl_sortedValues.NormL
  by_cases h : s.size ≤ 100
  · rw [if_neg (by omega), impl_sortedValues.impl_isPrintable_f s (by omega) _ (by omega)]
    simp only [Option.bind_some, impl_Norm.j0]
    by_cases hp : impl_sortedValues.plainP s = true
    · rw [if_neg (by simp [hp]), if_pos ⟨h, hp⟩, impl_sortedValues.impl_Norm_l0 s h s.size k 0 [] (by omega) (by omega) (by omega) (by simp) (by simp)]; rfl
    · rw [if_pos (by simp [hp]), if_neg (fun x => hp x.2)]; rfl
  · rw [if_pos (by omega), if_neg (fun x => h x.1)]
    simp only [impl_Norm.j0, if_true]; rfl
theorem impl_sortedValues.bl_lt : ∀ (x y : List UInt8), Op.bytesLess x y = decide (x < y)
  | [], [] => by simp [Op.bytesLess]
  | _ :: _, [] => by simp [Op.bytesLess]
  | [], _ :: _ => by simp [Op.bytesLess]
  | a :: x, b :: y => by
    rw [Op.bytesLess, impl_sortedValues.bl_lt x y]
    simp only [List.cons_lt_cons_iff]
    by_cases h1 : a < b <;> by_cases h2 : a = b <;> by_cases h3 : x < y <;> simp [h1, h2, h3]
theorem impl_sortedValues.cmp_iff : ∀ (a b : List UInt8), Lib.compareBytes a b ≥ 0 ↔ Op.bytesLess a b = false
  | [], [] => by simp [Lib.compareBytes, Op.bytesLess]
  | [], _ :: _ => by simp [Lib.compareBytes, Op.bytesLess]
  | _ :: _, [] => by simp [Lib.compareBytes, Op.bytesLess]
  | a :: p, b :: q => by
    rw [Lib.compareBytes, Op.bytesLess]
    by_cases h1 : a < b
    · simp [h1]
    · by_cases h2 : b < a
      · have hne : ¬ (a = b) := fun e => by subst e; exact h1 h2
        simp [h1, h2, hne]
      · have he : a = b := UInt8.le_antisymm (UInt8.not_lt.1 h2) (UInt8.not_lt.1 h1)
        subst he
        rw [if_neg h1, if_neg h1, impl_sortedValues.cmp_iff p q]
        simp
theorem impl_sortedValues.cmp_less (a b : List UInt8) : decide (Lib.compareBytes a b ≥ 0) = !(Op.bytesLess a b) := by
  cases h : Op.bytesLess a b with
  | false => rw [decide_eq_true ((impl_sortedValues.cmp_iff a b).2 h)]; rfl
  | true => rw [decide_eq_false (fun h2 => by rw [(impl_sortedValues.cmp_iff a b).1 h2] at h; cases h)]; rfl
theorem impl_sortedValues.impl_Norm_all (s : ByteArray) (k : Nat) (hk : 300 ≤ k) : impl_Norm.f k s = some (impl_sortedValues.NormP s) := by
  by_cases h : s.size ≤ 100
  · exact impl_sortedValues.impl_Norm_f s k (by omega)
  · obtain ⟨k, rfl⟩ : ∃ q, k = q + 1 := ⟨k - 1, by omega⟩
    unfold impl_Norm.f impl_sortedValues.NormP impl_sortedValues.NormL
    rw [if_pos (by omega), impl_Norm.j0, if_pos rfl, if_neg (fun h2 => h h2.1), impl_sortedValues.son_nil]
theorem impl_sortedValues.impl_byNorm_all (a b : ByteArray) (k : Nat) (hk : 300 ≤ k) : impl_byNorm.f k a b = some (Lib.compareBytes (impl_sortedValues.NormP a).toList (impl_sortedValues.NormP b).toList) := by
  unfold impl_byNorm.f strings_Compare.f
  rw [impl_sortedValues.impl_Norm_all a k hk, impl_sortedValues.impl_Norm_all b k hk, Go.Lib.toList_data, Go.Lib.toList_data]; rfl
def impl_sortedValues.nB (x : List UInt8) : List UInt8 := (impl_sortedValues.NormP ⟨x.toArray⟩).toList
theorem impl_sortedValues.lt_cf (k : Nat) (hk : 300 ≤ k) (x y : List UInt8) : Go.Proofs.ltOf (impl_sortedValues.cf k) x y = decide (impl_sortedValues.nB x < impl_sortedValues.nB y) := by
  have e : impl_sortedValues.cf k x y = Lib.compareBytes (impl_sortedValues.nB x) (impl_sortedValues.nB y) := by
    unfold impl_sortedValues.cf
    rw [impl_sortedValues.impl_byNorm_all _ _ k hk]; rfl
  unfold Go.Proofs.ltOf
  rw [e, ← impl_sortedValues.bl_lt]
  have h := impl_sortedValues.cmp_less (impl_sortedValues.nB x) (impl_sortedValues.nB y)
  cases hb : Op.bytesLess (impl_sortedValues.nB x) (impl_sortedValues.nB y) with
  | true =>
    rw [hb] at h
    exact decide_eq_true (by have := of_decide_eq_false h; omega)
  | false =>
    rw [hb] at h
    exact decide_eq_false (by have := of_decide_eq_true h; omega)
theorem impl_sortedValues.sorted_ok0 (k : Nat) (hk : 300 ≤ k) : impl_sortedValues.ok k := by
  refine ⟨fun x y => ?_, ?_⟩
  · unfold impl_sortedValues.cf
    rw [impl_sortedValues.impl_byNorm_all _ _ k hk]; rfl
  · constructor
    · intro x; rw [impl_sortedValues.lt_cf k hk]; exact decide_eq_false (List.lt_irrefl _)
    · intro x y z h1 h2
      rw [impl_sortedValues.lt_cf k hk] at *
      exact decide_eq_true (List.lt_trans (of_decide_eq_true h1) (of_decide_eq_true h2))
    · intro x y z h1 h2
      rw [impl_sortedValues.lt_cf k hk] at *
      have h3 := List.not_lt.1 (of_decide_eq_false h1)
      have h4 := List.not_lt.1 (of_decide_eq_false h2)
      exact decide_eq_false (List.not_lt.2 (List.le_trans h4 h3))
def impl_sortedValues.srtB (k : Nat) (zs : List (List UInt8)) : List (List UInt8) := (Go.Sort.pdq (Go.Proofs.ltOf (impl_sortedValues.cf k)) zs.toArray 0 zs.length (Lib.bitLen zs.length) true true).toList
def impl_sortedValues.srt (k : Nat) (l : List ByteArray) : List ByteArray := (impl_sortedValues.srtB k (l.map (·.data.toList))).map fun b => (⟨b.toArray⟩ : ByteArray)
def impl_sortedValues.g (k : Nat) (l0 : List ByteArray) : Option (List ByteArray × Bool) :=
  (slices_Clone_string_string.f l0).bind fun d => if d.length = 0 then some (d, true) else if d.length < 4398046511104 then (impl_isAttr.f k ⟨#[97]⟩ (impl_sortedValues.srt k d)).bind fun b => some (impl_sortedValues.srt k d, b) else none
def impl_sortedValues.f (k : Nat) (l0 : List ByteArray) : Option (List ByteArray × Bool) := if 300 ≤ k then impl_sortedValues.g k l0 else none
theorem impl_sortedValues.cf_up (k : Nat) (h : impl_sortedValues.ok k) : impl_sortedValues.cf (k + 1) = impl_sortedValues.cf k := by
  funext x y
  have h1 := impl_byNorm.mono ⟨x.toArray⟩ ⟨y.toArray⟩ k _ (h.1 x y)
  unfold impl_sortedValues.cf at h1 ⊢
  rw [h1]; rfl
theorem impl_sortedValues.ok_up (k : Nat) (h : impl_sortedValues.ok k) : impl_sortedValues.ok (k + 1) := by
  refine ⟨fun x y => ?_, by rw [impl_sortedValues.cf_up k h]; exact h.2⟩
  rw [impl_sortedValues.cf_up k h]
  exact impl_byNorm.mono ⟨x.toArray⟩ ⟨y.toArray⟩ k _ (h.1 x y)
theorem impl_sortedValues.srt_up (k : Nat) (h : impl_sortedValues.ok k) (l : List ByteArray) : impl_sortedValues.srt (k + 1) l = impl_sortedValues.srt k l := by unfold impl_sortedValues.srt impl_sortedValues.srtB; rw [impl_sortedValues.cf_up k h]
theorem impl_sortedValues.mono : ∀ l0 k, LeO (impl_sortedValues.f k l0) (impl_sortedValues.f (k + 1) l0) := by
  intro l0 k r hr
  unfold impl_sortedValues.f at hr ⊢
  by_cases h3 : 300 ≤ k
  · rw [if_pos h3] at hr
    have h := impl_sortedValues.sorted_ok0 k h3
    rw [if_pos (show 300 ≤ k + 1 by omega)]
    unfold impl_sortedValues.g at hr ⊢
    revert hr
    simp only [impl_sortedValues.srt_up k h]
    exact LeO.bind (LeO.refl _) (fun d => LeO.ite (LeO.refl _) (LeO.ite (LeO.bind (impl_isAttr.mono _ _ _) (fun _ => LeO.refl _)) (LeO.refl _))) r
  · rw [if_neg h3] at hr; cases hr
theorem impl_sortedValues.srtB_len (k : Nat) (h : impl_sortedValues.ok k) (zs : List (List UInt8)) : (impl_sortedValues.srtB k zs).length = zs.length := by
  have h1 := (Go.Sort.pdq_sorts (Go.Proofs.ltOf (impl_sortedValues.cf k)) h.2 zs.toArray 0 zs.toArray.size (Lib.bitLen zs.length) true true (Nat.zero_le _) (Nat.le_refl _) (Or.inl rfl)).1.1
  rw [List.size_toArray] at h1
  unfold impl_sortedValues.srtB
  rw [Array.length_toList]; exact h1
theorem impl_sortedValues.srt_len (k : Nat) (h : impl_sortedValues.ok k) (l : List ByteArray) : (impl_sortedValues.srt k l).length = l.length := by
  unfold impl_sortedValues.srt; rw [List.length_map, impl_sortedValues.srtB_len k h, List.length_map]
theorem impl_sortedValues.lays (k : Nat) (h : impl_sortedValues.ok k) (g n : Nat) (w : World) : Go.Proofs.CmpLays1 Tryd.prog 79 #[] Go.Proofs.encStr (impl_sortedValues.cf k) g 0 n w := by
  intro m os dk _ x y
  exact (impl_sortedValues.byNormD k ⟨x.toArray⟩ ⟨y.toArray⟩ (impl_sortedValues.cf k x y) _ (h.1 x y)).mono fun e w' hh => ⟨hh.1, impl_sortedValues.bel_grown hh.2⟩
theorem impl_sortedValues.enter (args : Array Value) (w : World) : (callFunc 79 args).run Tryd.prog w = .ok (.enter 79 args) w := Go.Proofs.enters_of Tryd.func79 (by kernel_rfl) rfl args w
theorem impl_sortedValues.left {w w1 : World} {g cap nn : Nat} {os : Array Obj} {ss ts : List (List UInt8)} (hl2 : ts.length = ss.length) (hown : w1.ownsRow w.heap.size 9 1 (.slice (some ⟨g, 0, none⟩) ss.length cap) ss.length (ss.map Go.Proofs.encStr)) (hbel : Below w.heap.size w w1) :
    (Go.Sort.grow (Go.Sort.putRow Go.Proofs.encStr (Go.Sort.ahead w1 nn) g 0 ts.toArray) os).ownsRow w.heap.size 9 1 (.slice (some ⟨g, 0, none⟩) ss.length cap) ss.length (ts.map Go.Proofs.encStr) ∧ Below w.heap.size w (Go.Sort.grow (Go.Sort.putRow Go.Proofs.encStr (Go.Sort.ahead w1 nn) g 0 ts.toArray) os) := by
  rcases hown.2 with ⟨h0, _⟩ | ⟨g', cap', cur, hv, hbase, hb, h1, h2, h3, h4⟩
  · cases h0
  cases hv
  have hs := Go.ownsRow_sorted (n := nn) (os := os) (ts := ts) hl2 hbase hb h1 h2 h3
  exact ⟨hs, hbel.grown (Go.grownBy_sorted _) hbel.size (fun j hj => by cases hj; exact hbase)⟩
theorem impl_sortedValues.back (l : List (List UInt8)) : (l.map fun b => (⟨b.toArray⟩ : ByteArray)).map Value.string = l.map Go.Proofs.encStr := by
  rw [List.map_map]; rfl
set_option maxHeartbeats 8000000 in
set_option maxRecDepth 100000 in
theorem impl_sortedValues.calls (k : Nat) (A0 : Option Addr) (c0 : Nat) (l0 : List ByteArray) (r1 : List ByteArray) (r2 : Bool) (w : World) (hr0 : Kd.C Kd.string w A0 l0.length l0) (hc0 : l0.length ≤ c0) (h : impl_sortedValues.f k l0 = some (r1, r2)) :
    Calls Tryd.prog 46 #[.slice A0 l0.length c0] w fun e w' => ∃ v1_ : Value, e = .returned (.tuple #[v1_, .bool r2]) ∧ Kd.R Kd.string 9 w' w.heap.size (fun _ => True) v1_ r1 ∧ Below w.heap.size w w' := by
  have hu := Tryd.underlying111
  unfold impl_sortedValues.f at h
  by_cases h3 : 300 ≤ k
  case neg => rw [if_neg h3] at h; cases h
  rw [if_pos h3] at h
  have hok := impl_sortedValues.sorted_ok0 k h3
  clear h3
  unfold impl_sortedValues.g at h
  obtain ⟨d, AD0, h⟩ := Option.bind_eq_some_iff.1 h
  have AD := Aside0.mk AD0
  have HR0 := Aside0.mk hr0
  have HC0 := Aside0.mk hc0
  have OK := Aside0.mk hok
  clear AD0 hr0 hc0 hok
  by_cases hd : d.length = 0
  · rw [if_pos hd] at h
    simp only [Option.some.injEq, Prod.mk.injEq] at h
    obtain ⟨rfl, rfl⟩ := h
    obtain rfl : d = [] := List.length_eq_zero_iff.1 hd
    clear hd
    go_enter Tryd.func46, Tryd.ntmps46
    go_wp2_with (first | (go_at_call 77; (with_reducible refine (slices_Clone_string_string.calls _ _ l0 _ _ HR0.out HC0.out AD.out).mono ?_); rintro e w1 ⟨v0, rfl, ho, hb⟩; obtain ⟨A, c, rfl⟩ := Kd.R_slice ho; have HO := Aside0.mk ho; have HB := Aside0.mk hb; clear ho hb) | (go_at_call 78; refine (show Calls Tryd.prog 78 _ _ _ from Go.Proofs.AnyF.slices_SortFunc_none (P := Tryd.prog) (ρ := Tryd.sortF_ren) { Tryd.sortF with } A c _ _).mono ?_; rintro e w2 ⟨rfl, rfl⟩))
    first | go_ret2 | skip
    exact ⟨_, rfl, HO.out, HB.out⟩
  rw [if_neg hd] at h
  by_cases hn : d.length < 4398046511104
  case neg => rw [if_neg hn] at h; cases h
  rw [if_pos hn] at h
  obtain ⟨b, AB0, h⟩ := Option.bind_eq_some_iff.1 h
  have AB := Aside0.mk AB0
  clear AB0
  simp only [Option.some.injEq, Prod.mk.injEq] at h
  obtain ⟨rfl, rfl⟩ := h
  have H0 := Aside0.mk (Nat.pos_of_ne_zero hd)
  have HN := Aside0.mk hn
  have hdb : (((d.length : Int)) == 0) = false := beq_eq_false_iff_ne.mpr (by omega)
  have hdb2 : ¬ ((d.length : Int) = 0) := by omega
  have hdb3 : ¬ (d.length = 0) := hd
  have hdb4 : ¬ (d = []) := fun h_ => hd (by rw [h_]; rfl)
  clear hd hn
  have HSL := Aside0.mk (impl_sortedValues.srt_len k OK.out d)
  obtain ⟨zs, hzs⟩ : ∃ z_ : List (List UInt8), z_ = d.map (·.data.toList) := ⟨_, rfl⟩
  have hzl : zs.length = d.length := by rw [hzs, List.length_map]
  have hze : encs Value.string d = zs.map Go.Proofs.encStr := by rw [hzs, Go.Lib.map_encStr]; rfl
  have hsz : impl_sortedValues.srt k d = (impl_sortedValues.srtB k zs).map fun b => (⟨b.toArray⟩ : ByteArray) := by rw [hzs]; rfl
  have HZL := Aside0.mk hzl
  have HZE := Aside0.mk hze
  have HSZ := Aside0.mk hsz
  have HBL := Aside0.mk (impl_sortedValues.srtB_len k OK.out zs)
  clear hzs hzl hze hsz
  go_enter Tryd.func46, Tryd.ntmps46
  go_upto_region 3 with (first
    | (go_at_call 77; (with_reducible refine (slices_Clone_string_string.calls _ _ l0 _ _ HR0.out HC0.out AD.out).mono ?_); rintro e w1 ⟨v0, rfl, ho, hb⟩; 
       obtain ⟨g, cap, rfl, hbg, hgl, _⟩ := Kd.R_form ho H0.out
       have hown := Kd.own_of_R ho
       rw [HZE.out, ← HZL.out] at hown
       obtain ⟨g', cap', e', _, _, hncap, hcm, hlen, hH⟩ := Go.Lib.holds_of_ownsRow hown (by intro h_; cases h_)
       cases e'
       have hsort := Go.Proofs.Any.slices_SortFunc_eq Tryd.sortF Go.Proofs.encStr (fun _ => rfl) (impl_sortedValues.cf k) OK.out.2 79 #[] g 0 cap zs.toArray w1 impl_sortedValues.enter (impl_sortedValues.lays k OK.out g _ w1) hH hgl (by rw [List.size_toArray]; have := HN.out; have := HZL.out; omega)
       rw [List.size_toArray] at hsort
       have hsort2 : Calls Tryd.prog 78 #[.slice (some ⟨g, 0, none⟩) d.length cap, .func (.func 79) #[] #[]] w1 fun e w' => e = .returned (.tuple #[]) ∧ ∃ n os, w' = Go.Sort.grow (Go.Sort.putRow Go.Proofs.encStr (Go.Sort.ahead w1 n) g 0 (impl_sortedValues.srtB k zs).toArray) os := by
         rw [← HZL.out]
         refine hsort.mono fun e w' hh => ⟨hh.1, ?_⟩
         obtain ⟨n, os, hw⟩ := hh.2
         refine ⟨n, os, ?_⟩
         rw [hw]
         unfold Go.Proofs.sortWorld impl_sortedValues.srtB
         rfl
       have X := Aside0.mk (And.intro hown hb)
       have HS := Aside0.mk hsort2
       clear hown hb hbg hgl hncap hcm hH hsort hsort2 ho hlen)
    | (go_at_call 78; refine (show Calls Tryd.prog 78 _ _ _ from HS.out).mono ?_; rintro e w2 ⟨rfl, nn, os, rfl⟩))
  have hfin := impl_sortedValues.left (nn := nn) (os := os) (ts := impl_sortedValues.srtB k zs) HBL.out X.out.1 X.out.2
  have HO : Aside0 (Kd.R Kd.string 9 (Go.Sort.grow (Go.Sort.putRow Go.Proofs.encStr (Go.Sort.ahead w1 nn) g 0 (impl_sortedValues.srtB k zs).toArray) os) w.heap.size (fun _ => True) (.slice (some ⟨g, 0, none⟩) d.length cap) (impl_sortedValues.srt k d)) := ⟨Kd.R_of_own (by rw [HSL.out]; have h_ := hfin.1; rw [HZL.out] at h_; rw [HSZ.out]; unfold encs; rw [impl_sortedValues.back]; exact h_) (fun _ _ => trivial)⟩
  have HB := Aside0.mk hfin.2
  clear hfin X
  generalize Go.Sort.grow _ _ = w3 at HO HB ⊢
  have HIA : Aside0 (∀ W : World, Kd.C Kd.string W (some ⟨g, 0, none⟩) (impl_sortedValues.srt k d).length (impl_sortedValues.srt k d) → Calls Tryd.prog 80 #[.agg #[.string ⟨#[97]⟩, .slice (some ⟨g, 0, none⟩) d.length cap]] W fun e w' => e = .returned (.bool b) ∧ Below W.heap.size W w') := ⟨fun W hW => by
    have c1 := (Kd.R_reads' HO.out).2.1
    rw [← HSL.out] at c1 ⊢
    exact impl_isAttr.calls k _ _ _ (impl_sortedValues.srt k d) b W hW c1 AB.out⟩
  go_wp2_with (go_at_call 80; refine (HIA.out _ (Kd.R_reads' HO.out).2.2).mono ?_; rintro e w4 ⟨rfl, hb⟩; have n0_ := Aside0.mk (below_step HB.out hb); have n1_ := Aside0.mk (Kd.R_below HO.out hb); clear HB HO hb; have HB := n0_; have HO := n1_; clear n0_ n1_)
  first | go_ret2 | skip
  exact ⟨_, rfl, HO.out, HB.out⟩


end Go.Proofs.YtgkjlfimjnhbbaaDoor.PFnExactModRight
