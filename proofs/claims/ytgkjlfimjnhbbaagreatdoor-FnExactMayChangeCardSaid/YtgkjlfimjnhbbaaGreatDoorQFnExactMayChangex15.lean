-- Laid by this session's own program out of the translation; Lean checks it.
import Derived.Test.YtgkjlfimjnhbbaaGreatDoorQFnExactMayChangex0
import Derived.Test.YtgkjlfimjnhbbaaGreatDoorQFnExactMayChangex10
import Derived.Test.YtgkjlfimjnhbbaaGreatDoorQFnExactMayChangex11
import Derived.RangeFuncNested
import Derived.RangeFuncBound
import Derived.RangeFuncCalls
import Derived.RangeFuncLeaves
import Derived.Shelf.Abstract
import Derived.Shelf.RegionOpen
import Derived.WalkKit
import Derived.OwnWalkIn
import Derived.TacticsInMore
import Derived.LoopNIn
import Derived.LoopIn
namespace Go.Proofs.YtgkjlfimjnhbbaaGreatDoor.PFnExactMayChange
open Go.RowKit Go.Proofs.YtgkjlfimjnhbbaaGreatDoorW.PrintWords Go.Proofs.YtgkjlfimjnhbbaaGreatDoorW.PrintLast Go.Proofs.YtgkjlfimjnhbbaaGreatDoorW.PrintMore
attribute [local go_sem] max2_int min2_int max_two min_two max_three min_three max_four min_four   -- for this text's walks alone
set_option linter.unusedVariables false
set_option linter.unusedSimpArgs false
def impl_MayChange_1.f (a0 : ByteArray) : Option (Bool) := (impl_NameRight.f a0).bind fun t322 => (some (!t322))
set_option maxHeartbeats 8000000 in
set_option maxRecDepth 100000 in
theorem impl_MayChange_1.calls (a0 : ByteArray) (r : Bool) (w : World) (h : impl_MayChange_1.f a0 = some r) :
  Calls Tryz.prog 55 #[.string a0] w fun e w' => e = .returned (.bool r) ∧ Below w.heap.size w w' := by
 have HB := Aside0.mk (Below.refl w.heap.size w)
 have H : ((impl_NameRight.f a0).bind fun t322 => (some (!t322))) = some r := h
 clear h
 replace H := Option.bind_eq_some_iff.mp H
 obtain ⟨t322, A20, H⟩ := H
 replace H : (some (!t322)) = some r := H
 have A2 := Aside0.mk A20
 clear A20
 obtain rfl := Option.some.inj H
 go_enter Tryz.func55, Tryz.ntmps55
 go_wp2_with (first | ((with_reducible refine gate_callee (f := 53) rfl ?_); refine goesL_ (some 4) rfl rfl Tryz.func53 (by kernel_rfl) rfl #[.string a0] rfl MPz ?_; (with_reducible refine (impl_NameRight.calls a0 t322 _ A2.out).mono ?_); rintro e w3 ⟨rfl, hb⟩; refine ⟨_, rfl, ?_⟩; have n0_ := Aside0.mk (below_step HBa hb); clear HB; have HB := n0_; clear n0_; (try clear hb); (try clear hb2); (try clear hk); (try clear hi)))
 go_ret
 exact ⟨EZa, HBa⟩
section
open Go.Shelf
attribute [local go_sem] Oper.semAt_some
theorem impl_dnKey.round_any {P : Program} {ops : Array Oper} {Q : Exit → Act → World → Prop} {md : Region.Mode} {l n : Nat} (hnd : ∀ (i : Nat) (o : Oper), ops[i]? = some o → ∀ c, o.op ≠ .defer c) (hL : ¬ LetsOut Q) :
  ∀ (fuel : Nat) (listed : Array Bool) (a : Act) (w : World), wpAny P md ops Q fuel listed a w → wpAnyIn (Fence.wide.inRound l) n P md ops Q fuel listed a w
 | 0, _, _, _, h => h
 | fuel + 1, listed, a, w, h => by
  refine ⟨h.1, fun i hi => ?_⟩
  have h2 := h.2 i hi
  have ih := fun l' a' w' => impl_dnKey.round_any (P := P) (md := md) (n := n) (l := l) hnd hL fuel l' a' w'
  unfold wpOp at h2
  unfold wpOpIn
  cases ho : ops[i]? with
  | none => rw [ho] at h2; exact ih _ _ _ h2
  | some o =>
   rw [ho] at h2
   simp only at h2 ⊢
   by_cases hw : Region.wanted o (yielded ops a.tmps) = true
   rotate_left
   ·rw [if_neg hw] at h2 ⊢
    exact ⟨fun _ _ => trivial, ih _ _ _ h2⟩
   rw [if_pos hw] at h2 ⊢
   rcases h2 with h2 | ⟨_, h2⟩
   ·refine ⟨fun _ _ => trivial, ?_⟩
    rw [show (Fence.wide.inRound l).round = some l from rfl, Oper.semAt_eq _ _ _ (hnd i o ho)]
    unfold Oper.wp at h2
    generalize (execOp a.eval o).run P w = r at h2 ⊢
    cases r with
    | ok x w' =>
     cases x <;> simp only [Oper.upon] at h2 <;> simp only [Oper.uponIn]
     case value => exact ih _ _ _ h2
     case skip => exact ih _ _ _ h2
     case defer => exact ih _ _ _ h2
     case enter =>
      refine ⟨fun h => (by cases h), ?_⟩
      refine CallsIn.inRound l ((callsIn_wide.2 h2).mono ?_)
      intro e w'' he
      cases e with
      | returned v => exact ih _ _ _ he
      | panicked c => exact he
      | outgrown => exact he
     case row =>
      refine ⟨fun h => (by cases h), ?_⟩
      intro c cs _
      obtain ⟨v, w'', hR, hs⟩ := h2 c cs
      exact ⟨v, w'', ih _ _ _ hR, stepsIn_wide.2 hs⟩
    | halt x w' =>
     cases x <;> simp only [Oper.upon] at h2 <;> simp only [Oper.uponIn]
     exact h2
   ·exact absurd h2 hL
theorem impl_dnKey.region_round {P : Program} {ops : Array Oper} {Q : Exit → Act → World → Prop} {id l n : Nat} {a : Act} {w : World} (hm : P.follows .mixedOrders = true) (hnd : (ops.all fun o => match o.op with | .defer _ => false | _ => true) = true) (hL : ¬ LetsOut Q)
  (h : wpAny P .any ops Q ops.size (Array.replicate ops.size false) a w.drew) : (Code.region id ops true).wpIn (Fence.wide.inRound l) n P Q a w :=
 wpIn_region_any hm (impl_dnKey.round_any (fun i o ho c e => by
  have h1 := (Array.all_eq_true_iff_forall_mem.1 hnd) o (Array.mem_of_getElem? ho)
  rw [e] at h1
  cases h1) hL _ _ _ _ h)
abbrev impl_dnKey.El (k : Nat) := { x : Int × S98 × ByteArray // impl_Norm.f k x.2.1.f1 = some x.2.2 ∧ x.2.1.f0.size + x.2.2.size ≤ 4294967296 }
def impl_dnKey.keyStep (x a t : ByteArray) : ByteArray := x ++ ((((⟨#[1]⟩ : ByteArray) ++ a) ++ (⟨#[61]⟩ : ByteArray)) ++ t)
def impl_dnKey.go (k : Nat) : List S98 → ByteArray → Option ByteArray
 | [], x => some x
 | y :: ys, x => (impl_Norm.f k y.f1).bind fun t => if y.f0.size + t.size ≤ 4294967296 then impl_dnKey.go k ys (impl_dnKey.keyStep x y.f0 t) else none
def impl_dnKey.f (k : Nat) (l0 : List S98) : Option ByteArray := if l0.length ≤ 1048576 then impl_dnKey.go k l0.reverse (⟨#[]⟩ : ByteArray) else none
theorem impl_dnKey.mono_go (k : Nat) : ∀ (l : List S98) (x : ByteArray), LeO (impl_dnKey.go k l x) (impl_dnKey.go (k + 1) l x)
 | [], _ => LeO.refl _
 | y :: ys, x => LeO.bind (impl_Norm.mono _ _) (fun _ => LeO.ite (impl_dnKey.mono_go k ys _) (LeO.refl _))
theorem impl_dnKey.mono : ∀ a0 k, LeO (impl_dnKey.f k a0) (impl_dnKey.f (k + 1) a0) := fun a0 k => LeO.ite (impl_dnKey.mono_go k _ _) (LeO.refl _)
def impl_dnKey.keyAll {k : Nat} (es : List (impl_dnKey.El k)) : ByteArray := es.foldl (fun x e => impl_dnKey.keyStep x e.1.2.1.f0 e.1.2.2) (⟨#[]⟩ : ByteArray)
theorem impl_dnKey.keyAll_snoc {k : Nat} (es : List (impl_dnKey.El k)) (e : impl_dnKey.El k) : impl_dnKey.keyAll (es ++ [e]) = impl_dnKey.keyStep (impl_dnKey.keyAll es) e.1.2.1.f0 e.1.2.2 := by simp [impl_dnKey.keyAll]
theorem impl_dnKey.keyStep_size (x a t : ByteArray) : (impl_dnKey.keyStep x a t).size = x.size + (1 + a.size + 1 + t.size) := by
 unfold impl_dnKey.keyStep
 simp only [ByteArray.size_append]
 rfl
theorem impl_dnKey.keyAll_size {k : Nat} (es : List (impl_dnKey.El k)) : (impl_dnKey.keyAll es).size ≤ 4294967300 * es.length := by
 suffices h : ∀ (es : List (impl_dnKey.El k)) (x : ByteArray), (es.foldl (fun x e => impl_dnKey.keyStep x e.1.2.1.f0 e.1.2.2) x).size ≤ x.size + 4294967300 * es.length by
  have := h es (⟨#[]⟩ : ByteArray)
  unfold impl_dnKey.keyAll
  rw [show (⟨#[]⟩ : ByteArray).size = 0 from rfl] at this
  omega
 intro es
 induction es with
 | nil => intro x; simp
 | cons e es ih =>
  intro x
  have h1 := ih (impl_dnKey.keyStep x e.1.2.1.f0 e.1.2.2)
  rw [impl_dnKey.keyStep_size] at h1
  have h2 := e.2.2
  simp only [List.foldl_cons, List.length_cons]
  omega
theorem impl_dnKey.go_es (k : Nat) (r : ByteArray) : ∀ (l : List S98) (x : ByteArray) (n : Int), impl_dnKey.go k l x = some r →
  ∃ es : List (impl_dnKey.El k), es.length = l.length ∧ (∀ (j : Nat) (y : S98), l[j]? = some y → ∃ e : impl_dnKey.El k, es[j]? = some e ∧ e.1.1 = n - (j : Int) ∧ e.1.2.1 = y) ∧ r = es.foldl (fun x e => impl_dnKey.keyStep x e.1.2.1.f0 e.1.2.2) x
 | [], x, n, h => ⟨[], rfl, fun j y hj => by simp at hj, (Option.some.inj h).symm⟩
 | y :: ys, x, n, h => by
  obtain ⟨t, ht, h1⟩ := Option.bind_eq_some_iff.1 (show (impl_Norm.f k y.f1).bind _ = some r from h)
  by_cases hc : y.f0.size + t.size ≤ 4294967296
  ·rw [if_pos hc] at h1
   obtain ⟨es, h2, h3, h4⟩ := impl_dnKey.go_es k r ys _ (n - 1) h1
   refine ⟨⟨(n, y, t), ht, hc⟩ :: es, by simp [h2], fun j z hj => ?_, h4⟩
   cases j with
   | zero =>
    obtain rfl : y = z := by simpa using hj
    exact ⟨_, rfl, by simp, rfl⟩
   | succ j =>
    obtain ⟨e, h5, h6, h7⟩ := h3 j z (by simpa using hj)
    exact ⟨e, by simpa using h5, by rw [h6]; omega, h7⟩
  ·rw [if_neg hc] at h1; cases h1
def impl_dnKey.encE {k : Nat} (x : impl_dnKey.El k) : Array Value := #[.int .i64 x.1.1, .agg #[.string x.1.2.1.f0, .string x.1.2.1.f1]]
def impl_dnKey.KpB (n₀ Bs : Nat) (sv : Value) (A B : World) : Prop := Below n₀ A B ∧ (Boxed A Bs 34 sv → Boxed B Bs 34 sv)
theorem impl_dnKey.kpB_t {n₀ Bs : Nat} {sv : Value} {A B C : World} (h : impl_dnKey.KpB n₀ Bs sv A B) (g : impl_dnKey.KpB n₀ Bs sv B C) : impl_dnKey.KpB n₀ Bs sv A C := ⟨h.1.trans g.1, fun x => g.2 (h.2 x)⟩
theorem impl_dnKey.kpB_b {n₀ Bs : Nat} {sv : Value} {w : World} (hn : n₀ ≤ w.heap.size) (W : World) (l : Nat) (o o' : Obj) (hl : w.heap.size ≤ l) (h : W.heap[l]? = some o) (hc : o.isCells = false) (hw : o.isWalk = false) : impl_dnKey.KpB n₀ Bs sv W (W.putObj l o') :=
 ⟨belowK_b hn W l o o' hl h hc hw, fun hb => hb.kept (grownBy_putObj' W l o') (fun e => by cases e; rw [show W.heap[Bs]? = _ from hb] at h; cases h; cases hc)⟩
set_option maxRecDepth 100000 in
set_option maxHeartbeats 2000000 in
theorem impl_dnKey.backward1_in (k n : Nat) (hn : 1 ≤ n) (l Bs : Nat) (A0 : Option Addr) (c0 : Nat) (l0 : List S98) (w0 : World) (hr0 : Kd.C k98 w0 A0 l0.length l0) (hlen : l0.length ≤ 1048576) (es : List (impl_dnKey.El k)) (hes : es.length = l0.length)
  (hee : ∀ (j : Nat) (y : S98), l0.reverse[j]? = some y → ∃ e : impl_dnKey.El k, es[j]? = some e ∧ e.1.1 = ((l0.length : Int) - 1) - (j : Int) ∧ e.1.2.1 = y) (J Jx : List (impl_dnKey.El k) → World → Prop)
  (hY : ∀ pre x W, J pre W → pre.length < l0.length → YieldAt Fence.wide (n - 1) Tryz.prog l (impl_dnKey.encE x) W fun e W' =>
   (e = .returned (.bool true) ∧ J (pre ++ [x]) W' ∧ impl_dnKey.KpB w0.heap.size Bs (.slice A0 l0.length c0) W W') ∨ (e = .returned (.bool false) ∧ Jx (pre ++ [x]) W'))
  (W : World) (hW0 : Below w0.heap.size w0 W) (hBs : Boxed W Bs 34 (.slice A0 l0.length c0)) (h0 : J [] W) :
  CallsIn Fence.wide n Tryz.prog 218 #[.func (.yield l) #[] #[], .pointer (some ⟨Bs, 0, none⟩)] W fun e W' => (∃ v, e = .returned v) ∧
   ((∃ ys, ys = es ∧ J ys W') ∨ (∃ pre, pre <+: es ∧ Jx pre W')) := by
 have hcs := hBs.cell
 refine callsIn_of_wp Tryz.func218 rfl trivial ?_ rfl
 simp only [Tryz.ntmps218, List.size_toArray, List.length_cons, List.length_nil, Nat.reduceAdd, Nat.reduceSub, Array.replicate_succ, Array.replicate_zero, List.push_toArray, List.append_toArray, List.nil_append, List.cons_append]
 gi_wp2
 gi_loopw [3] (fun i wr => ∃ q : Nat, q ≤ l0.length ∧ i = .int .i64 ((l0.length : Int) - 1 - (q : Int)) ∧ J (es.take q) wr ∧ Below w0.heap.size w0 wr ∧ Boxed wr Bs 34 (.slice A0 l0.length c0))
  (fun i _ => (intOf i + 1).toNat)
 case atStart => exact ⟨0, Nat.zero_le _, by first | rfl | (congr 1; simp; done) | (congr 1; unfold wrap64; omega), h0, hW0, hBs⟩
 case round =>
  obtain ⟨q, hq, rfl, hJs, hnx, hbx⟩ := hrel
  have hcb := hbx.cell
  by_cases hlt : q < l0.length
  rotate_left
  ·obtain rfl : q = l0.length := by omega
   gi_wp2
   go_end0
   exact ⟨⟨_, rfl⟩, .inl ⟨_, rfl, by rw [← hes, List.take_length] at hJs; exact hJs⟩⟩
  have hrev : l0.reverse[q]? = some (rd_T98 l0 ((l0.length : Int) - 1 - (q : Int))) := by
   rw [List.getElem?_reverse hlt]
   unfold rd_T98
   rw [show ((l0.length : Int) - 1 - (q : Int)).toNat = l0.length - 1 - q by omega, List.getD_eq_getElem?_getD, List.getElem?_eq_getElem (by omega)]
   rfl
  obtain ⟨e, he, hi, hy⟩ := hee q _ hrev
  obtain ⟨fn, tmps, assign, body, hyy, hR⟩ := hY (es.take q) e wr hJs (by rw [List.length_take]; omega)
  simp only [impl_dnKey.encE, hi, hy] at hyy
  have hp : 0 ≤ (l0.length : Int) - 1 - (q : Int) := by omega
  have hp2 : (l0.length : Int) - 1 - (q : Int) < (l0.length : Int) := by omega
  obtain ⟨ad, e1, hx0, hx1⟩ := at_T98 hr0 ((l0.length : Int) - 1 - (q : Int)) hp hp2
  cases e1
  replace hx0 := (hnx.cell (World.block_lt_of_cell? w0 _ hx0)).trans hx0
  replace hx1 := (hnx.cell (World.block_lt_of_cell? w0 _ hx1)).trans hx1
  rw [show ((l0.length : Int) - 1 - (q : Int)).toNat = l0.length - 1 - q by omega] at hx0 hx1
  have hpd := decide_eq_true hp
  have hp2d := decide_eq_true hp2
  gi_wp2
  refine hR.mono ?_
  rintro e' W3 (⟨rfl, hJ3, hk3⟩ | ⟨rfl, hJx3⟩)
  ·gi_wp2
   go_roundw
   case rel => exact ⟨q + 1, by omega, by first | rfl | (congr 1; omega) | (congr 1; unfold wrap64; omega), by rw [List.take_add_one, he]; exact hJ3, hnx.trans hk3.1, hk3.2 hbx⟩
   case measure => first | (simp [intOf]; omega) | (simp [intOf]; unfold wrap64; omega)
  ·gi_wp2
   refine bodyPost_ret (results_none rfl _ _ _) rfl ?_
   exact ⟨⟨_, rfl⟩, .inr ⟨_, ⟨es.drop (q + 1), by have h9 := List.take_append_drop (q + 1) es; rw [List.take_add_one, he] at h9; exact h9⟩, hJx3⟩⟩
set_option maxHeartbeats 1000000 in
theorem impl_dnKey.backward_in (n : Nat) (a : Option Addr) (len cap : Nat) (w : World) :
  CallsIn Fence.wide n Tryz.prog 192 #[.slice a len cap] w fun e w' => e = .returned (.func (.func 218) #[] #[.pointer (some ⟨w.heap.size, 0, none⟩)]) ∧ w' = w.alloc (.cells #[.slice a len cap] 34) := by
 refine callsIn_of_wp Tryz.func192 rfl trivial ?_ rfl
 simp only [Tryz.ntmps192, List.size_toArray, List.length_cons, List.length_nil, Nat.reduceAdd, Nat.reduceSub, Array.replicate_succ, Array.replicate_zero, List.push_toArray, List.append_toArray, List.nil_append, List.cons_append]
 gi_wp2
 go_ret
 exact ⟨rfl, rfl⟩
theorem impl_dnKey.backward_stops (k n : Nat) (hn : 1 ≤ n) (Bs : Nat) (A0 : Option Addr) (c0 : Nat) (l0 : List S98) (w0 : World) (hr0 : Kd.C k98 w0 A0 l0.length l0) (hlen : l0.length ≤ 1048576) (es : List (impl_dnKey.El k)) (hes : es.length = l0.length)
  (hee : ∀ (j : Nat) (y : S98), l0.reverse[j]? = some y → ∃ e : impl_dnKey.El k, es[j]? = some e ∧ e.1.1 = ((l0.length : Int) - 1) - (j : Int) ∧ e.1.2.1 = y) (w : World) (hB : Below w0.heap.size w0 w) (hc : Boxed w Bs 34 (.slice A0 l0.length c0)) :
  SeqStopsK Fence.wide n Tryz.prog 218 #[.pointer (some ⟨Bs, 0, none⟩)] (impl_dnKey.encE (k := k)) (impl_dnKey.KpB w0.heap.size Bs (.slice A0 l0.length c0)) (fun ys => ys = es) (fun pre => pre <+: es) l0.length w := fun l J Jx W hW _ _ hY h0 =>
 impl_dnKey.backward1_in k n hn l Bs A0 c0 l0 w0 hr0 hlen es hes hee J Jx hY W (hB.trans (hW.mono hB.size)) ((hW.block Bs hc.lt).trans hc) h0
theorem impl_dnKey.keepsFrom {W W' : World} (h : Below W.heap.size W W') (B : Nat) : KeepsFrom B W W' := ⟨h.size, fun k o _ h0 _ => (h.block k (Array.getElem?_eq_some_iff.1 h0).1).trans h0⟩
set_option maxRecDepth 100000 in
set_option maxHeartbeats 4000000 in
theorem impl_dnKey.calls (k : Nat) (A0 : Option Addr) (c0 : Nat) (l0 : List S98) (r : ByteArray) (w : World) (hr0 : Kd.C k98 w A0 l0.length l0) (hc0 : l0.length ≤ c0) (h : impl_dnKey.f k l0 = some r) :
  Calls Tryz.prog 170 #[.slice A0 l0.length c0] w fun e w' => e = .returned (.string r) ∧ Below w.heap.size w w' := by
 unfold impl_dnKey.f at h
 by_cases hlen : l0.length ≤ 1048576
 case neg => rw [if_neg hlen] at h; cases h
 rw [if_pos hlen] at h
 obtain ⟨es, hes, hee, hr⟩ := impl_dnKey.go_es k r _ _ ((l0.length : Int) - 1) h
 rw [List.length_reverse] at hes
 obtain rfl : r = impl_dnKey.keyAll es := hr
 clear h
 refine (callsIn_wide (n := 6)).1 ?_
 refine callsIn_of_wp_marks Tryz.func170 rfl trivial ?_ rfl
 simp only [Tryz.ntmps170, List.size_toArray, List.length_cons, List.length_nil, Nat.reduceAdd, Nat.reduceSub, Array.replicate_succ, Array.replicate_zero, List.push_toArray, List.append_toArray, List.nil_append, List.cons_append]
 gi_wp2_with (refine ⟨trivial, ?_⟩; gi_at_call 192; refine (impl_dnKey.backward_in 5 _ _ _ _).mono ?_; rintro e w' ⟨rfl, rfl⟩)
 have bO := (Boxed.new w 9 (.string (⟨#[]⟩ : ByteArray))).alloc (.cells #[.slice A0 l0.length c0] 34)
 have bS := Boxed.new (w.alloc (.cells #[.string (⟨#[]⟩ : ByteArray)] 9)) 34 (.slice A0 l0.length c0)
 simp only [World.size_alloc] at bS
 have hB0 : Below w.heap.size w ((w.alloc (.cells #[.string (⟨#[]⟩ : ByteArray)] 9)).alloc (.cells #[.slice A0 l0.length c0] 34)) := ((Below.refl _ w).alloc (Nat.le_refl _) _).alloc (by simp) _
 have hsz : ((w.alloc (.cells #[.string (⟨#[]⟩ : ByteArray)] 9)).alloc (.cells #[.slice A0 l0.length c0] 34)).heap.size = w.heap.size + 2 := by simp
 obtain ⟨W0, hW0⟩ : ∃ W0, (w.alloc (.cells #[.string (⟨#[]⟩ : ByteArray)] 9)).alloc (.cells #[.slice A0 l0.length c0] 34) = W0 := ⟨_, rfl⟩
 rw [hW0] at bO bS hB0 hsz ⊢
 clear hW0
 refine wpIn_rangeFunc_ownH rfl (by omega) (gf := 218) (lb := #[.pointer (some ⟨w.heap.size + 1, 0, none⟩)]) rfl trivial (enters_of Tryz.func218 (by kernel_rfl) rfl)
  (impl_dnKey.backward_stops k 5 (by omega) (w.heap.size + 1) A0 c0 l0 w hr0 hlen es hes hee W0 hB0 bS) impl_dnKey.kpB_t (impl_dnKey.kpB_b (by omega)) (Below.refl _ _) (fun _ => rfl)
  (fun pre W => (Boxed W w.heap.size 9 (.string (impl_dnKey.keyAll pre)) ∧ Boxed W (w.heap.size + 1) 34 (.slice A0 l0.length c0)) ∧ Below w.heap.size w W)
  (fun _ _ _ => False)
  (OwnFrom.and (OwnFrom.and (Own.from (boxed_own _ _ _) _) (Own.from (boxed_own _ _ _) _)) (ownFrom_below (Nat.le_refl _) (by omega)))
  (fun _ _ _ _ _ hs _ _ => hs)
  ⟨⟨bO, bS⟩, hB0⟩
  (fun x a' W => ∃ Bx, w.heap.size + 1 < Bx ∧ W.heap[Bx]? = some (.cells #[.string x.1.2.1.f0, .string x.1.2.1.f1] 98 (0, 0)) ∧ a' = { tmps := #[.slice A0 l0.length c0, undef, .string (⟨#[]⟩ : ByteArray), .pointer (some ⟨w.heap.size, 0, none⟩), undef, .pointer (some ⟨Bx, 0, none⟩), .slice A0 l0.length c0, .func (.func 218) #[] #[.pointer (some ⟨w.heap.size + 1, 0, none⟩)], .int .i64 x.1.1, .agg #[.string x.1.2.1.f0, .string x.1.2.1.f1], undef, undef, undef, undef, undef, undef, undef, undef, undef, undef, undef], defers := [] })
  (fun x a' _ X Y row hs hg hr => by
   obtain ⟨Bx, h1, h2, h3⟩ := hs
   exact ⟨Bx, h1, (hg.block Bx (Array.getElem?_eq_some_iff.1 h2).1 (fun e => by obtain ⟨_, o, ho, hc⟩ := hr Bx e.symm; rw [h2] at ho; cases ho; cases hc)).trans h2, h3⟩)
  ?assign ?body ?done ?stop
 case assign =>
  rintro l pre x W K ⟨⟨bO1, bS1⟩, hB1⟩ hK
  simp only [impl_dnKey.encE]
  gi_wp2
  have hBW := (Below.refl W.heap.size W).alloc (Nat.le_refl _) (.cells #[.string x.1.2.1.f0, .string x.1.2.1.f1] 98)
  exact hK _ _ (impl_dnKey.keepsFrom hBW _) ⟨hBW.mono hB1.size, fun hb => (hBW.block _ hb.lt).trans hb⟩ ⟨⟨(hBW.block _ bO1.lt).trans bO1, (hBW.block _ bS1.lt).trans bS1⟩, hB1.trans (hBW.mono hB1.size)⟩
   ⟨W.heap.size, bS1.lt, World.alloc_heap_new W _, rfl⟩
 case body =>
  rintro l pre x a' W hl ⟨r, hr⟩ ⟨⟨bO1, bS1⟩, hB1⟩ ⟨Bx, hBx, bX, rfl⟩ hlt
  have hsO := impl_dnKey.keyAll_size pre
  have hx2 := x.2.2
  have hBR := Aside0.mk (Below.refl W.heap.size W)
  have hN := x.2.1
  have cO : W.drew.cell? ⟨w.heap.size, 0, none⟩ = some (.string (impl_dnKey.keyAll pre)) := bO1.cell
  have cX0 : W.drew.cell? ⟨Bx, 0, none⟩ = some (.string x.1.2.1.f0) := blk_cell (w := W.drew) bX 0
  have cX1 : W.drew.cell? ⟨Bx, 1, none⟩ = some (.string x.1.2.1.f1) := blk_cell (w := W.drew) bX 1
  have c1 : (9223372036854775807 < 1 + x.1.2.1.f0.size) = False := eq_false (by omega)
  have c2 : (9223372036854775807 < 1 + x.1.2.1.f0.size + 1) = False := eq_false (by omega)
  have c3 : (9223372036854775807 < 1 + x.1.2.1.f0.size + 1 + x.1.2.2.size) = False := eq_false (by omega)
  have c4 : (9223372036854775807 < (impl_dnKey.keyAll pre).size + (1 + x.1.2.1.f0.size + 1 + x.1.2.2.size)) = False := eq_false (by omega)
  refine wpIn_block ?_
  refine impl_dnKey.region_round (by kernel_rfl) (by kernel_rfl) (by rintro ⟨_, _, h⟩; exact h) ?_
  have hS : W.drew.cell? ⟨w.heap.size, 0, none⟩ = some (.string (impl_dnKey.keyAll pre)) ∧ W.drew.cell? ⟨Bx, 0, none⟩ = some (.string x.1.2.1.f0) ∧ W.drew.cell? ⟨Bx, 1, none⟩ = some (.string x.1.2.1.f1) := ⟨cO, cX0, cX1⟩
  refine wpAny_of_last (S := fun w' => w'.cell? ⟨w.heap.size, 0, none⟩ = some (.string (impl_dnKey.keyAll pre)) ∧ w'.cell? ⟨Bx, 0, none⟩ = some (.string x.1.2.1.f0) ∧ w'.cell? ⟨Bx, 1, none⟩ = some (.string x.1.2.1.f1)) (ds := [10]) _ _ _ _ ?_
  show wpAnyLast _ _ _ _ _ _ 11 (bz 11 0) _ _
  refine take_ (i := 0) (N := some 10) (v := ?_) (a' := ?_) (bz 11 1) rfl rfl (by kernel_rfl) (fun _ _ _ h => h) (Or.inl ⟨by rfl, ?_⟩) hS ?_ ?_
  rotate_left
  ·rintro w' ⟨s0, s1, s2⟩
   go_simp
   with_reducible rfl
  rotate_left
  ·simp only [PUz]
   rfl
  refine pure_ (i := 1) (N := some 11) (v := ?_) (a' := ?_) (bz 11 3) rfl rfl (by kernel_rfl) (fun _ _ _ h => h) (Or.inl ⟨by rfl, ?_⟩) ?_ ?_
  rotate_left
  ·intro w'
   go_simp
   with_reducible rfl
  rotate_left
  ·simp only [PUz]
   rfl
  refine take_ (i := 2) (N := some 12) (v := ?_) (a' := ?_) (bz 11 7) rfl rfl (by kernel_rfl) (fun _ _ _ h => h) (Or.inl ⟨by rfl, ?_⟩) hS ?_ ?_
  rotate_left
  ·rintro w' ⟨s0, s1, s2⟩
   go_simp
   with_reducible rfl
  rotate_left
  ·simp only [PUz]
   rfl
  refine pure_ (i := 3) (N := some 13) (v := ?_) (a' := ?_) (bz 11 15) rfl rfl (by kernel_rfl) (fun _ _ _ h => h) (Or.inl ⟨by rfl, ?_⟩) ?_ ?_
  rotate_left
  ·intro w'
   go_simp
   with_reducible rfl
  rotate_left
  ·simp only [PUz]
   rfl
  refine pure_ (i := 4) (N := some 14) (v := ?_) (a' := ?_) (bz 11 31) rfl rfl (by kernel_rfl) (fun _ _ _ h => h) (Or.inl ⟨by rfl, ?_⟩) ?_ ?_
  rotate_left
  ·intro w'
   go_simp
   with_reducible rfl
  rotate_left
  ·simp only [PUz]
   rfl
  refine pure_ (i := 5) (N := some 15) (v := ?_) (a' := ?_) (bz 11 63) rfl rfl (by kernel_rfl) (fun _ _ _ h => h) (Or.inl ⟨by rfl, ?_⟩) ?_ ?_
  rotate_left
  ·intro w'
   go_simp
   with_reducible rfl
  rotate_left
  ·simp only [PUz]
   rfl
  refine take_ (i := 6) (N := some 16) (v := ?_) (a' := ?_) (bz 11 127) rfl rfl (by kernel_rfl) (fun _ _ _ h => h) (Or.inl ⟨by rfl, ?_⟩) hS ?_ ?_
  rotate_left
  ·rintro w' ⟨s0, s1, s2⟩
   go_simp
   with_reducible rfl
  rotate_left
  ·simp only [PUz]
   rfl
  refine one_ (i := 7) (N := some 17) (bz 11 255) rfl rfl (by kernel_rfl) (by decide) (fun K hK => ?_)
  refine goes_ Tryz.func152 (by kernel_rfl) rfl #[.string x.1.2.1.f1] (by rfl) rfl rfl (by (try simp only [List.map_toArray, List.map_cons, List.map_nil]); first | done | rfl) ?_
  refine (impl_Norm.calls k x.1.2.1.f1 x.1.2.2 _ hN).mono ?_
  rintro e w5 ⟨rfl, hb⟩
  refine ⟨_, rfl, ?_⟩
  have hb' : Below W.heap.size W w5 := (Below.refl W.heap.size W).drew.trans hb
  refine hK.out _ _ ⟨(hb.cell (p := ⟨w.heap.size, 0, none⟩) bO1.lt).trans cO, (hb.cell (p := ⟨Bx, 0, none⟩) (blk_lt bX)).trans cX0, (hb.cell (p := ⟨Bx, 1, none⟩) (blk_lt bX)).trans cX1⟩ (fun hS => ?_)
  clear hK K
  refine norm_ (a' := ?_) ?_ ?_
  rotate_left
  ·show Act.put _ (some 17) _ = _
   simp only [PUz]
   rfl
  refine pure_ (i := 8) (N := some 18) (v := ?_) (a' := ?_) (bz 11 511) rfl rfl (by kernel_rfl) (fun _ _ _ h => h) (Or.inl ⟨by rfl, ?_⟩) ?_ ?_
  rotate_left
  ·intro w'
   go_simp
   with_reducible rfl
  rotate_left
  ·simp only [PUz]
   rfl
  refine pure_ (i := 9) (N := some 19) (v := ?_) (a' := ?_) (bz 11 1023) rfl rfl (by kernel_rfl) (fun _ _ _ h => h) (Or.inl ⟨by rfl, ?_⟩) ?_ ?_
  rotate_left
  ·intro w'
   go_simp
   with_reducible rfl
  rotate_left
  ·simp only [PUz]
   rfl
  have bO5 : Boxed w5 w.heap.size 9 (.string (impl_dnKey.keyAll pre)) := (hb.block _ bO1.lt).trans bO1
  have hs29 := bO5.cell
  have hfs29 := bO5.frozen
  refine last_ (i := 10) (N := none) (bz 11 2047) rfl rfl (by kernel_rfl) (by decide) (fun K hK => ?_)
  refine skip_ (w1 := ?_) (by rfl) rfl ?_ ?_
  rotate_left
  ·go_simp
   rfl
  refine hK.out _ _ ?_
  clear hK K
  refine done_ (by kernel_rfl) ?_
  have hK5 : KeepsFrom W0.heap.size W w5 := impl_dnKey.keepsFrom hb' _
  have hBw := hb'.mono hB1.size
  have bS5 : Boxed w5 (w.heap.size + 1) 34 (.slice A0 l0.length c0) := (hb'.block _ bS1.lt).trans bS1
  have hks : impl_dnKey.keyAll (pre ++ [x]) = impl_dnKey.keyAll pre ++ ((((⟨#[1]⟩ : ByteArray) ++ x.1.2.1.f0) ++ (⟨#[61]⟩ : ByteArray)) ++ x.1.2.2) := impl_dnKey.keyAll_snoc pre x
  rw [← hks]
  have hset := hBw.setCell (p := ⟨w.heap.size, 0, none⟩) (Nat.le_refl _) (.string (impl_dnKey.keyAll (pre ++ [x])))
  exact ⟨hK5.trans ((KeepsOthers.setCell _ _ _).from _), ⟨hset, fun hx => Boxed.other ((hb'.block _ hx.lt).trans hx) (by omega) _⟩, ⟨bO5.set _, bS5.other (by omega) _⟩, hB1.trans hset⟩
 case done =>
  rintro D zs W hD rfl ⟨⟨bO1, bS1⟩, hB1⟩ hK
  have cS := bO1.cell
  gi_wp2
  refine ⟨by simp, .inl ⟨_, _, rfl, run_takeDeferred hK, ?_⟩⟩
  exact ⟨_, results_tmp rfl _ _ _, rfl, hB1.trans (belowK_b (w := w) (Nat.le_refl _) W D _ _ (by omega) hK rfl rfl)⟩
 case stop =>
  rintro D c pre W _ _ h _
  exact h.elim
end
def impl_dnSame.f (k : Nat) (l0 : List (S98)) (l1 : List (S98)) : Option (Bool) := if (l0.length : Int) = (l1.length : Int) then ((impl_dnKey.f k l0).bind fun t323 => ((impl_dnKey.f k l1).bind fun t324 => (some (t323.toList == t324.toList)))) else (some false)
theorem impl_dnSame.mono : ∀ a0 a1 k, LeO (impl_dnSame.f k a0 a1) (impl_dnSame.f (k + 1) a0 a1) := by
 intro a0 a1 k
 unfold impl_dnSame.f
 repeat' first
   | (with_reducible exact impl_dnKey.mono _ _)
   | (with_reducible exact LeO.refl _)
   | (with_reducible exact LeO.none _)
   | (with_reducible refine LeO.ite ?_ ?_)
   | (with_reducible refine LeO.bind ?_ (fun _ => ?_))
   | exact impl_dnKey.mono _ _
   | exact LeO.none _
   | refine LeO.ite ?_ ?_
   | refine LeO.bind ?_ (fun _ => ?_)
set_option maxHeartbeats 8000000 in
set_option maxRecDepth 100000 in
theorem impl_dnSame.calls (k : Nat) (A0 : Option Addr) (c0 : Nat) (l0 : List (S98)) (A1 : Option Addr) (c1 : Nat) (l1 : List (S98)) (r : Bool) (w : World) (hr0 : Kd.C k98 w A0 l0.length l0) (hc0 : l0.length ≤ c0) (hr1 : Kd.C k98 w A1 l1.length l1) (hc1 : l1.length ≤ c1) (h : impl_dnSame.f k l0 l1 = some r) :
  Calls Tryz.prog 140 #[.slice A0 l0.length c0, .slice A1 l1.length c1] w fun e w' => e = .returned (.bool r) ∧ Below w.heap.size w w' := by
 have HR0 := Aside0.mk hr0
 have HC0 := Aside0.mk hc0
 clear hr0 hc0
 have HR1 := Aside0.mk hr1
 have HC1 := Aside0.mk hc1
 clear hr1 hc1
 have HB := Aside0.mk (Below.refl w.heap.size w)
 have H : (if (l0.length : Int) = (l1.length : Int) then ((impl_dnKey.f k l0).bind fun t323 => ((impl_dnKey.f k l1).bind fun t324 => (some (t323.toList == t324.toList)))) else (some false)) = some r := h
 clear h
 by_cases c3 : (l0.length : Int) = (l1.length : Int)
 rotate_left
 ·rw [if_neg c3] at H
  have c3b0 : ((l0.length : Int) == (l1.length : Int)) = false := beq_eq_false_iff_ne.mpr c3
  have c3b1 : ((l0.length : Int) != (l1.length : Int)) = true := bne_iff_ne.mpr c3
  have c3b2 : (l0.length == l1.length) = false := by first | simpa using c3 | (simp at c3 ⊢; omega)
  obtain rfl := Option.some.inj H
  go_enter Tryz.func140, Tryz.ntmps140
  go_wp2
  go_ret
  exact ⟨EZa, HBa⟩
 rw [if_pos c3] at H
 have c3b0 : ((l0.length : Int) == (l1.length : Int)) = true := beq_iff_eq.mpr c3
 have c3b1 : ((l0.length : Int) != (l1.length : Int)) = false := bne_eq_false_iff_eq.mpr c3
 have c3b2 : (l0.length == l1.length) = true := by first | simpa using c3 | (simp at c3 ⊢; omega)
 clear c3
 replace H := Option.bind_eq_some_iff.mp H
 obtain ⟨t323, A40, H⟩ := H
 replace H : ((impl_dnKey.f k l1).bind fun t324 => (some (t323.toList == t324.toList))) = some r := H
 have A4 := Aside0.mk A40
 clear A40
 replace H := Option.bind_eq_some_iff.mp H
 obtain ⟨t324, A50, H⟩ := H
 replace H : (some (t323.toList == t324.toList)) = some r := H
 have A5 := Aside0.mk A50
 clear A50
 obtain rfl := Option.some.inj H
 go_enter Tryz.func140, Tryz.ntmps140
 go_wp2_with (first | (go_at_call 170; (with_reducible refine (impl_dnKey.calls k _ _ l0 t323 _ ?side1 ?side2 A4.out).mono ?_); (case side1 => exact KCz HR0.out); (case side2 => exact HC0.out); rintro e w6 ⟨rfl, hb⟩; have n0_ := Aside0.mk (below_step HBa hb); clear HB; have HB := n0_; clear n0_; (try clear hb); (try clear hb2); (try clear hk); (try clear hi)) | (go_at_call 170; (with_reducible refine (impl_dnKey.calls k _ _ l1 t324 _ ?side1 ?side2 A5.out).mono ?_); (case side1 => exact KCz (Kd.C_below HR1.out HB.out)); (case side2 => exact HC1.out); rintro e w7 ⟨rfl, hb⟩; have n0_ := Aside0.mk (below_step HBa hb); clear HB; have HB := n0_; clear n0_; (try clear hb); (try clear hb2); (try clear hk); (try clear hi)))
 go_ret
 exact ⟨EZa, HBa⟩
def impl_dnUnder.f (k : Nat) (l0 : List (S98)) (l1 : List (S98)) : Option (Bool) := if (l0.length : Int) ≥ (l1.length : Int) then (if 0 ≤ (wrap64 ((l0.length : Int) - (l1.length : Int))) then (if (wrap64 ((l0.length : Int) - (l1.length : Int))) ≤ (l0.length : Int) then ((impl_dnSame.f k (l0.drop ((wrap64 ((l0.length : Int) - (l1.length : Int))) : Int).toNat) l1).bind fun t329 => (some t329)) else (none)) else (none)) else (some false)
theorem impl_dnUnder.mono : ∀ a0 a1 k, LeO (impl_dnUnder.f k a0 a1) (impl_dnUnder.f (k + 1) a0 a1) := by
 intro a0 a1 k
 unfold impl_dnUnder.f
 repeat' first
   | (with_reducible exact impl_dnSame.mono _ _ _)
   | (with_reducible exact LeO.refl _)
   | (with_reducible exact LeO.none _)
   | (with_reducible refine LeO.ite ?_ ?_)
   | (with_reducible refine LeO.bind ?_ (fun _ => ?_))
   | exact impl_dnSame.mono _ _ _
   | exact LeO.none _
   | refine LeO.ite ?_ ?_
   | refine LeO.bind ?_ (fun _ => ?_)
set_option maxHeartbeats 8000000 in
set_option maxRecDepth 100000 in
theorem impl_dnUnder.calls (k : Nat) (A0 : Option Addr) (c0 : Nat) (l0 : List (S98)) (A1 : Option Addr) (c1 : Nat) (l1 : List (S98)) (r : Bool) (w : World) (hr0 : Kd.C k98 w A0 l0.length l0) (hc0 : l0.length ≤ c0) (hr1 : Kd.C k98 w A1 l1.length l1) (hc1 : l1.length ≤ c1) (h : impl_dnUnder.f k l0 l1 = some r) :
  Calls Tryz.prog 101 #[.slice A0 l0.length c0, .slice A1 l1.length c1] w fun e w' => e = .returned (.bool r) ∧ Below w.heap.size w w' := by
 have HR0 := Aside0.mk hr0
 have HC0 := Aside0.mk hc0
 clear hr0 hc0
 have HR1 := Aside0.mk hr1
 have HC1 := Aside0.mk hc1
 clear hr1 hc1
 have HB := Aside0.mk (Below.refl w.heap.size w)
 have H : (if (l0.length : Int) ≥ (l1.length : Int) then (if 0 ≤ (wrap64 ((l0.length : Int) - (l1.length : Int))) then (if (wrap64 ((l0.length : Int) - (l1.length : Int))) ≤ (l0.length : Int) then ((impl_dnSame.f k (l0.drop ((wrap64 ((l0.length : Int) - (l1.length : Int))) : Int).toNat) l1).bind fun t329 => (some t329)) else (none)) else (none)) else (some false)) = some r := h
 clear h
 by_cases c3 : (l0.length : Int) ≥ (l1.length : Int)
 rotate_left
 ·rw [if_neg c3] at H
  have c3b0 : decide ((l1.length : Int) ≤ (l0.length : Int)) = false := decide_eq_false c3
  have c3b1 : decide (l1.length ≤ l0.length) = false := decide_eq_false (fun h => c3 (Int.ofNat_le.mpr h))
  clear c3
  obtain rfl := Option.some.inj H
  go_enter Tryz.func101, Tryz.ntmps101
  go_wp2
  go_ret
  exact ⟨EZa, HBa⟩
 rw [if_pos c3] at H
 have c3b0 : decide ((l1.length : Int) ≤ (l0.length : Int)) = true := decide_eq_true c3
 have c3b1 : decide (l1.length ≤ l0.length) = true := decide_eq_true (Int.ofNat_le.mp c3)
 clear c3
 obtain ⟨ji4, hji4⟩ : ∃ j_ : Int, (wrap64 ((l0.length : Int) - (l1.length : Int))) = j_ := ⟨_, rfl⟩
 replace H : (if 0 ≤ (ji4) then (if (ji4) ≤ (l0.length : Int) then ((impl_dnSame.f k (l0.drop ((ji4) : Int).toNat) l1).bind fun t329 => (some t329)) else (none)) else (none)) = some r := by first | (rw [hji4] at H; exact H) | (simp only [hji4] at H ⊢; exact H)
 have hji4w : (IntKind.i64.wrap ((l0.length : Int) - (l1.length : Int))) = ji4 := (i64_w _).trans hji4
 by_cases c5 : 0 ≤ (ji4)
 rotate_left
 ·rw [if_neg c5] at H
  exact absurd H (by simp)
 rw [if_pos c5] at H
 have c5b0 := eq_true c5
 have c5b1 : decide (0 ≤ (ji4)) = true := decide_eq_true c5
 clear c5
 by_cases c6 : (ji4) ≤ (l0.length : Int)
 rotate_left
 ·rw [if_neg c6] at H
  exact absurd H (by simp)
 rw [if_pos c6] at H
 have c6b0 := eq_true c6
 have c6b1 : decide ((ji4) ≤ (l0.length : Int)) = true := decide_eq_true c6
 clear c6
 obtain ⟨y325, hy325⟩ : ∃ y_ : List (S98), y_ = (l0.drop ((ji4) : Int).toNat) := ⟨_, rfl⟩
 replace H : ((impl_dnSame.f k y325 l1).bind fun t329 => (some t329)) = some r := by first | (rw [hy325]; with_reducible exact H) | (have H2_ := (Option.bind_some _ _).symm.trans H; rw [hy325]; with_reducible exact H2_) | (have H2_ := (Option.bind_some _ _).symm.trans H; with_reducible exact H2_) | with_reducible exact H | (rw [hy325]; exact H) | exact H
 have Ny325 := Aside0.mk hy325
 clear hy325
 replace H := Option.bind_eq_some_iff.mp H
 obtain ⟨t329, A70, H⟩ := H
 replace H : (some t329) = some r := H
 have A7 := Aside0.mk A70
 clear A70
 obtain rfl := Option.some.inj H
 have q8 : ((ji4) : Int) ≤ ((l0.length : Int) : Int) := ODz
 obtain ⟨i08, hi08, _, hsz8, _⟩ := info_parts info98
 have hroom8 : l0.length ≤ c0 := HC0.out
 have hC8 : Kd.C k98 _ A0 l0.length l0 := HR0.out
 have q08 : (0 : Int) ≤ ((ji4) : Int) := ODz
 have hcut8 := cut_from (P := Tryz.prog) 34 98 .i64 Tryz.underlying34 hi08 2 hsz8 A0 l0.length c0 (ji4) q08 q8
 have hr8 := Kd.C_drop (m := ((ji4) : Int).toNat) (c := c0) hC8 (by omega) hroom8
 obtain ⟨A8, hA8⟩ : ∃ A1, A1 = (if c0 = ((ji4) : Int).toNat then A0 else (A0 : Option Addr).map (·.add (((ji4) : Int).toNat * 2))) := ⟨_, rfl⟩
 obtain ⟨c8, hc8⟩ : ∃ c1, c1 = c0 - ((ji4) : Int).toNat := ⟨_, rfl⟩
 have hy8 : y325.length = l0.length - ((ji4) : Int).toNat := (by rw [Ny325.out, List.length_drop] <;> omega)
 rw [show (l0).drop ((ji4) : Int).toNat = y325 from Ny325.out.symm] at hr8
 replace hr8 : Kd.C k98 _ A8 y325.length y325 := (by rw [hA8]; exact hr8)
 rw [← hy8, ← hA8, ← hc8] at hcut8
 have HR328 := Aside0.mk hr8
 have HC328 := Aside0.mk (show y325.length ≤ c8 from by rw [hy8, hc8]; exact Nat.sub_le_sub_right hroom8 _)
 clear hr8 hC8 hroom8 hi08 hsz8 hc8
 have KY8 := Aside0.mk hy8
 have KA8 := Aside0.mk hA8
 clear hy8 hA8
 replace q8 := eq_true q8
 go_enter Tryz.func101, Tryz.ntmps101
 go_wp2_with (first | (go_at_call 140; (with_reducible refine (impl_dnSame.calls k _ _ y325 _ _ l1 t329 _ ?side1 ?side2 ?side3 ?side4 A7.out).mono ?_); (case side1 => exact KCz HR328.out); (case side2 => exact HC328.out); (case side3 => exact KCz HR1.out); (case side4 => exact HC1.out); rintro e w9 ⟨rfl, hb⟩; have n0_ := Aside0.mk (below_step HBa hb); clear HB; have HB := n0_; clear n0_; (try clear hb); (try clear hb2); (try clear hk); (try clear hi)))
 go_ret
 exact ⟨by first | rfl | (simp only [bne_nil_, beq_nil_]; rfl) | (simp [errW_none, errW_some] <;> rfl) | (simp only [← hji4]; first | rfl | (simp [errW_none, errW_some] <;> rfl)) | (simp [*, errW_none, errW_some] <;> rfl), HBa⟩
def slices_Index_string_string.l0 : Nat → List ByteArray → ByteArray → Int → Int → Option (Int)
 | 0, _, _, _, _ => none
 | k + 1, x0, x1, x7, x8 => if x8 < x7 then (if 0 ≤ x8 then (if x8 < (x0.length : Int) then (if x1.toList = (rdOf ByteArray.empty x0 x8).toList then (some x8) else (slices_Index_string_string.l0 k x0 x1 x7 (wrap64 (x8 + 1)))) else (none)) else (none)) else (some (-1))
def slices_Index_string_string.f (k : Nat) (l0 : List ByteArray) (a1 : ByteArray) : Option (Int) := slices_Index_string_string.l0 k l0 a1 (l0.length : Int) 0
theorem slices_Index_string_string.mono_l : ∀ k, (∀ y0 y1 y2 y3, LeO (slices_Index_string_string.l0 k y0 y1 y2 y3) (slices_Index_string_string.l0 (k + 1) y0 y1 y2 y3))
 | 0 => fun _ _ _ _ r h => by simp [slices_Index_string_string.l0] at h
 | k + 1 => by
  have ih0 := slices_Index_string_string.mono_l k
  ·intro y0 y1 y2 y3
   unfold slices_Index_string_string.l0
   repeat' first
   | (with_reducible exact ih0 _ _ _ _)
   | (with_reducible exact LeO.refl _)
   | (with_reducible exact LeO.none _)
   | (with_reducible refine LeO.ite ?_ ?_)
   | (with_reducible refine LeO.bind ?_ (fun _ => ?_))
   | exact ih0 _ _ _ _
   | exact LeO.none _
   | refine LeO.ite ?_ ?_
   | refine LeO.bind ?_ (fun _ => ?_)
theorem slices_Index_string_string.mono : ∀ a0 a1 k, LeO (slices_Index_string_string.f k a0 a1) (slices_Index_string_string.f (k + 1) a0 a1) := by
 intro a0 a1 k
 have ih0 := slices_Index_string_string.mono_l k
 unfold slices_Index_string_string.f
 repeat' first
   | (with_reducible exact ih0 _ _ _ _)
   | (with_reducible exact LeO.refl _)
   | (with_reducible exact LeO.none _)
   | (with_reducible refine LeO.ite ?_ ?_)
   | (with_reducible refine LeO.bind ?_ (fun _ => ?_))
   | exact ih0 _ _ _ _
   | exact LeO.none _
   | refine LeO.ite ?_ ?_
   | refine LeO.bind ?_ (fun _ => ?_)
set_option maxHeartbeats 8000000 in
set_option maxRecDepth 100000 in
theorem slices_Index_string_string.calls (k : Nat) (A0 : Option Addr) (c0 : Nat) (l0 : List ByteArray) (a1 : ByteArray) (r : Int) (w : World) (hr0 : Kd.C Kd.string w A0 l0.length l0) (hc0 : l0.length ≤ c0) (h : slices_Index_string_string.f k l0 a1 = some r) :
  Calls Tryz.prog 141 #[.slice A0 l0.length c0, .string a1] w fun e w' => e = .returned (.int .i64 r) ∧ Drawn0 w w' := by
 have HR0 := Aside0.mk hr0
 have HC0 := Aside0.mk hc0
 clear hr0 hc0
 have H : (slices_Index_string_string.l0 k l0 a1 (l0.length : Int) 0) = some r := h
 clear h
 have H' := Aside0.mk H
 clear H
 go_enter Tryz.func141, Tryz.ntmps141
 go_wp2
 go_loopg [8] k (fun kq v8 w' => ∃ (x8_1 : Int), v8 = .int .i64 x8_1 ∧ Aside0 (slices_Index_string_string.l0 kq l0 a1 (l0.length : Int) x8_1 = some r) ∧ Aside0 (kq ≤ k) ∧ Drawn0 w w')
 case atStart => exact ⟨(0), EZc, H', ⟨Nat.le_refl _⟩, DRz⟩
 case round =>
  clear H'
  try clear c1
  try clear p2
  obtain ⟨x8_1, rfl, HA, HK1, ⟨m1, rfl⟩⟩ := hrel
  cases gk with
  | zero => exact absurd HA.out (by simp [slices_Index_string_string.l0])
  | succ k1 =>
   have H := HA.out
   clear HA
   simp only [slices_Index_string_string.l0] at H
   by_cases c3 : x8_1 < (l0.length : Int)
   rotate_left
   ·rw [if_neg c3] at H
    have c3b0 : decide (x8_1 < (l0.length : Int)) = false := decide_eq_false c3
    clear c3
    obtain rfl := Option.some.inj H
    go_wp2
    go_ret
    exact ⟨EZb, DRz⟩
   rw [if_pos c3] at H
   have c3b0 : decide (x8_1 < (l0.length : Int)) = true := decide_eq_true c3
   clear c3
   by_cases c4 : 0 ≤ x8_1
   rotate_left
   ·rw [if_neg c4] at H
    exact absurd H (by simp)
   rw [if_pos c4] at H
   have c4b0 : decide (0 ≤ x8_1) = true := decide_eq_true c4
   clear c4
   by_cases c5 : x8_1 < (l0.length : Int)
   rotate_left
   ·rw [if_neg c5] at H
    exact absurd H (by simp)
   rw [if_pos c5] at H
   have c5b0 : decide (x8_1 < (l0.length : Int)) = true := decide_eq_true c5
   clear c5
   by_cases c6 : a1.toList = (rdOf ByteArray.empty l0 x8_1).toList
   ·rw [if_pos c6] at H
    have c6b0 : (a1.toList == (rdOf ByteArray.empty l0 x8_1).toList) = true := beq_iff_eq.mpr c6
    have c6b1 : (a1.toList != (rdOf ByteArray.empty l0 x8_1).toList) = false := bne_eq_false_iff_eq.mpr c6
    clear c6
    obtain rfl := Option.some.inj H
    have p330 : 0 ≤ (x8_1 : Int) := ODz
    have q330 : x8_1 < (l0.length : Int) := ODz
    obtain ⟨ad330, e330, hx330_0⟩ := Kd.at_string HR0.out x8_1 p330 q330
    cases e330
    replace p330 := eq_true p330
    replace q330 := eq_true q330
    go_wp2
    go_ret
    exact ⟨EZb, DRz⟩
   rw [if_neg c6] at H
   have c6b0 : (a1.toList == (rdOf ByteArray.empty l0 x8_1).toList) = false := beq_eq_false_iff_ne.mpr c6
   have c6b1 : (a1.toList != (rdOf ByteArray.empty l0 x8_1).toList) = true := bne_iff_ne.mpr c6
   have H' := Aside0.mk H
   clear H
   have p330 : 0 ≤ (x8_1 : Int) := ODz
   have q330 : x8_1 < (l0.length : Int) := ODz
   obtain ⟨ad330, e330, hx330_0⟩ := Kd.at_string HR0.out x8_1 p330 q330
   cases e330
   replace p330 := eq_true p330
   replace q330 := eq_true q330
   go_wp2
   go_roundg k1
   case measure => have := HK1.out; omega
   case rel => exact ⟨(wrap64 (x8_1 + 1)), EZc, H', ⟨by have := HK1.out; omega⟩, DRz⟩
def slices_Contains_string_string.f (k : Nat) (l0 : List ByteArray) (a1 : ByteArray) : Option (Bool) := (slices_Index_string_string.f k l0 a1).bind fun t331 => (some (decide (t331 ≥ 0)))
theorem slices_Contains_string_string.mono : ∀ a0 a1 k, LeO (slices_Contains_string_string.f k a0 a1) (slices_Contains_string_string.f (k + 1) a0 a1) := by
 intro a0 a1 k
 unfold slices_Contains_string_string.f
 repeat' first
   | (with_reducible exact slices_Index_string_string.mono _ _ _)
   | (with_reducible exact LeO.refl _)
   | (with_reducible exact LeO.none _)
   | (with_reducible refine LeO.ite ?_ ?_)
   | (with_reducible refine LeO.bind ?_ (fun _ => ?_))
   | exact slices_Index_string_string.mono _ _ _
   | exact LeO.none _
   | refine LeO.ite ?_ ?_
   | refine LeO.bind ?_ (fun _ => ?_)
set_option maxHeartbeats 8000000 in
set_option maxRecDepth 100000 in
theorem slices_Contains_string_string.calls (k : Nat) (A0 : Option Addr) (c0 : Nat) (l0 : List ByteArray) (a1 : ByteArray) (r : Bool) (w : World) (hr0 : Kd.C Kd.string w A0 l0.length l0) (hc0 : l0.length ≤ c0) (h : slices_Contains_string_string.f k l0 a1 = some r) :
  Calls Tryz.prog 102 #[.slice A0 l0.length c0, .string a1] w fun e w' => e = .returned (.bool r) ∧ Drawn0 w w' := by
 have HR0 := Aside0.mk hr0
 have HC0 := Aside0.mk hc0
 clear hr0 hc0
 have H : ((slices_Index_string_string.f k l0 a1).bind fun t331 => (some (decide (t331 ≥ 0)))) = some r := h
 clear h
 replace H := Option.bind_eq_some_iff.mp H
 obtain ⟨t331, A30, H⟩ := H
 replace H : (some (decide (t331 ≥ 0))) = some r := H
 have A3 := Aside0.mk A30
 clear A30
 obtain rfl := Option.some.inj H
 go_enter Tryz.func102, Tryz.ntmps102
 go_wp2_with (first | ((with_reducible refine gate_callee (f := 141) rfl ?_); refine goesL_ (some 7) rfl rfl Tryz.func141 (by kernel_rfl) rfl #[.slice A0 l0.length c0, .string a1] rfl MPz ?_; (with_reducible refine (slices_Index_string_string.calls k _ _ l0 a1 t331 _ ?side1 ?side2 A3.out).mono ?_); (case side1 => exact KCz HR0.out); (case side2 => exact HC0.out); rintro e w' ⟨rfl, ⟨nd, rfl⟩⟩; refine ⟨_, rfl, ?_⟩))
 go_ret
 exact ⟨EZb, DRz⟩
end Go.Proofs.YtgkjlfimjnhbbaaGreatDoor.PFnExactMayChange
