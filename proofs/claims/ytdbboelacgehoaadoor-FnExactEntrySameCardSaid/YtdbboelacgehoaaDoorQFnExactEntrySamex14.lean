-- Laid by this session's own program out of the translation; Lean checks it.
import Derived.Test.YtdbboelacgehoaaDoorQFnExactEntrySamex0
import Derived.Test.YtdbboelacgehoaaDoorQFnExactEntrySamex11
import Derived.RangeFuncNested
import Derived.RangeFuncBound
import Derived.RangeFuncCalls
import Derived.RangeFuncLeaves
import Derived.Shelf.Abstract
import Derived.Shelf.RegionOpen
import Derived.WalkKit
import Derived.OwnWalkIn
import Derived.TacticsInMore
import Derived.LoopNIn
import Derived.LoopIn
namespace Go.Proofs.YtdbboelacgehoaaDoor.PFnExactEntrySame
open Go.RowKit Go.Proofs.YtdbboelacgehoaaDoorW.PrintWords Go.Proofs.YtdbboelacgehoaaDoorW.PrintLast Go.Proofs.YtdbboelacgehoaaDoorW.PrintMore
attribute [local go_sem] max2_int min2_int max_two min_two max_three min_three max_four min_four   -- for this text's walks alone
set_option linter.unusedVariables false
set_option linter.unusedSimpArgs false
section
open Go.Shelf
attribute [local go_sem] Oper.semAt_some
theorem impl_dnKey.round_any {P : Program} {ops : Array Oper} {Q : Exit → Act → World → Prop} {md : Region.Mode} {l n : Nat} (hnd : ∀ (i : Nat) (o : Oper), ops[i]? = some o → ∀ c, o.op ≠ .defer c) (hL : ¬ LetsOut Q) :
  ∀ (fuel : Nat) (listed : Array Bool) (a : Act) (w : World), wpAny P md ops Q fuel listed a w → wpAnyIn (Fence.wide.inRound l) n P md ops Q fuel listed a w
 | 0, _, _, _, h => h
 | fuel + 1, listed, a, w, h => by
  refine ⟨h.1, fun i hi => ?_⟩
  have h2 := h.2 i hi
  have ih := fun l' a' w' => impl_dnKey.round_any (P := P) (md := md) (n := n) (l := l) hnd hL fuel l' a' w'
  unfold wpOp at h2
  unfold wpOpIn
  cases ho : ops[i]? with
  | none => rw [ho] at h2; exact ih _ _ _ h2
  | some o =>
   rw [ho] at h2
   simp only at h2 ⊢
   by_cases hw : Region.wanted o (yielded ops a.tmps) = true
   ·rw [if_pos hw] at h2 ⊢
    rcases h2 with h2 | ⟨_, h2⟩
    ·refine ⟨fun _ _ => trivial, ?_⟩
     rw [show (Fence.wide.inRound l).round = some l from rfl, Oper.semAt_eq _ _ _ (hnd i o ho)]
     unfold Oper.wp at h2
     generalize (execOp a.eval o).run P w = r at h2 ⊢
     cases r with
     | ok x w' =>
      cases x <;> simp only [Oper.upon] at h2 <;> simp only [Oper.uponIn]
      case value => exact ih _ _ _ h2
      case skip => exact ih _ _ _ h2
      case defer => exact ih _ _ _ h2
      case enter =>
       refine ⟨fun h => (by cases h), ?_⟩
       refine CallsIn.inRound l ((callsIn_wide.2 h2).mono ?_)
       intro e w'' he
       cases e with
       | returned v => exact ih _ _ _ he
       | panicked c => exact he
       | outgrown => exact he
      case row =>
       refine ⟨fun h => (by cases h), ?_⟩
       intro c cs _
       obtain ⟨v, w'', hR, hs⟩ := h2 c cs
       exact ⟨v, w'', ih _ _ _ hR, stepsIn_wide.2 hs⟩
     | halt x w' =>
      cases x <;> simp only [Oper.upon] at h2 <;> simp only [Oper.uponIn]
      exact h2
    ·exact absurd h2 hL
   ·rw [if_neg hw] at h2 ⊢
    exact ⟨fun _ _ => trivial, ih _ _ _ h2⟩
theorem impl_dnKey.region_round {P : Program} {ops : Array Oper} {Q : Exit → Act → World → Prop} {id l n : Nat} {a : Act} {w : World} (hm : P.follows .mixedOrders = true) (hnd : (ops.all fun o => match o.op with | .defer _ => false | _ => true) = true) (hL : ¬ LetsOut Q)
  (h : wpAny P .any ops Q ops.size (Array.replicate ops.size false) a w.drew) : (Code.region id ops true).wpIn (Fence.wide.inRound l) n P Q a w :=
 wpIn_region_any hm (impl_dnKey.round_any (fun i o ho c e => by
  have h1 := (Array.all_eq_true_iff_forall_mem.1 hnd) o (Array.mem_of_getElem? ho)
  rw [e] at h1
  cases h1) hL _ _ _ _ h)
abbrev impl_dnKey.El (k : Nat) := { x : Int × S42 × ByteArray // impl_Norm.f k x.2.1.f1 = some x.2.2 ∧ x.2.1.f0.size + x.2.2.size ≤ 4294967296 }
def impl_dnKey.keyStep (x a t : ByteArray) : ByteArray := x ++ ((((⟨#[1]⟩ : ByteArray) ++ a) ++ (⟨#[61]⟩ : ByteArray)) ++ t)
def impl_dnKey.go (k : Nat) : List S42 → ByteArray → Option ByteArray
 | [], x => some x
 | y :: ys, x => (impl_Norm.f k y.f1).bind fun t => if y.f0.size + t.size ≤ 4294967296 then impl_dnKey.go k ys (impl_dnKey.keyStep x y.f0 t) else none
def impl_dnKey.f (k : Nat) (l0 : List S42) : Option ByteArray := if l0.length ≤ 1048576 then impl_dnKey.go k l0.reverse (⟨#[]⟩ : ByteArray) else none
theorem impl_dnKey.mono_go (k : Nat) : ∀ (l : List S42) (x : ByteArray), LeO (impl_dnKey.go k l x) (impl_dnKey.go (k + 1) l x)
 | [], _ => LeO.refl _
 | y :: ys, x => LeO.bind (impl_Norm.mono _ _) (fun _ => LeO.ite (impl_dnKey.mono_go k ys _) (LeO.refl _))
theorem impl_dnKey.mono : ∀ a0 k, LeO (impl_dnKey.f k a0) (impl_dnKey.f (k + 1) a0) := fun a0 k => LeO.ite (impl_dnKey.mono_go k _ _) (LeO.refl _)
def impl_dnKey.keyAll {k : Nat} (es : List (impl_dnKey.El k)) : ByteArray := es.foldl (fun x e => impl_dnKey.keyStep x e.1.2.1.f0 e.1.2.2) (⟨#[]⟩ : ByteArray)
theorem impl_dnKey.keyAll_snoc {k : Nat} (es : List (impl_dnKey.El k)) (e : impl_dnKey.El k) : impl_dnKey.keyAll (es ++ [e]) = impl_dnKey.keyStep (impl_dnKey.keyAll es) e.1.2.1.f0 e.1.2.2 := by simp [impl_dnKey.keyAll]
theorem impl_dnKey.keyStep_size (x a t : ByteArray) : (impl_dnKey.keyStep x a t).size = x.size + (1 + a.size + 1 + t.size) := by
 unfold impl_dnKey.keyStep
 simp only [ByteArray.size_append]
 rfl
theorem impl_dnKey.keyAll_size {k : Nat} (es : List (impl_dnKey.El k)) : (impl_dnKey.keyAll es).size ≤ 4294967300 * es.length := by
 suffices h : ∀ (es : List (impl_dnKey.El k)) (x : ByteArray), (es.foldl (fun x e => impl_dnKey.keyStep x e.1.2.1.f0 e.1.2.2) x).size ≤ x.size + 4294967300 * es.length by
  have := h es (⟨#[]⟩ : ByteArray)
  unfold impl_dnKey.keyAll
  rw [show (⟨#[]⟩ : ByteArray).size = 0 from rfl] at this
  omega
 intro es
 induction es with
 | nil => intro x; simp
 | cons e es ih =>
  intro x
  have h1 := ih (impl_dnKey.keyStep x e.1.2.1.f0 e.1.2.2)
  rw [impl_dnKey.keyStep_size] at h1
  have h2 := e.2.2
  simp only [List.foldl_cons, List.length_cons]
  omega
theorem impl_dnKey.go_es (k : Nat) (r : ByteArray) : ∀ (l : List S42) (x : ByteArray) (n : Int), impl_dnKey.go k l x = some r →
  ∃ es : List (impl_dnKey.El k), es.length = l.length ∧ (∀ (j : Nat) (y : S42), l[j]? = some y → ∃ e : impl_dnKey.El k, es[j]? = some e ∧ e.1.1 = n - (j : Int) ∧ e.1.2.1 = y) ∧ r = es.foldl (fun x e => impl_dnKey.keyStep x e.1.2.1.f0 e.1.2.2) x
 | [], x, n, h => ⟨[], rfl, fun j y hj => by simp at hj, (Option.some.inj h).symm⟩
 | y :: ys, x, n, h => by
  obtain ⟨t, ht, h1⟩ := Option.bind_eq_some_iff.1 (show (impl_Norm.f k y.f1).bind _ = some r from h)
  by_cases hc : y.f0.size + t.size ≤ 4294967296
  ·rw [if_pos hc] at h1
   obtain ⟨es, h2, h3, h4⟩ := impl_dnKey.go_es k r ys _ (n - 1) h1
   refine ⟨⟨(n, y, t), ht, hc⟩ :: es, by simp [h2], fun j z hj => ?_, h4⟩
   cases j with
   | zero =>
    obtain rfl : y = z := by simpa using hj
    exact ⟨_, rfl, by simp, rfl⟩
   | succ j =>
    obtain ⟨e, h5, h6, h7⟩ := h3 j z (by simpa using hj)
    exact ⟨e, by simpa using h5, by rw [h6]; omega, h7⟩
  ·rw [if_neg hc] at h1; cases h1
def impl_dnKey.encE {k : Nat} (x : impl_dnKey.El k) : Array Value := #[.int .i64 x.1.1, .agg #[.string x.1.2.1.f0, .string x.1.2.1.f1]]
def impl_dnKey.KpB (n₀ Bs : Nat) (sv : Value) (A B : World) : Prop := Below n₀ A B ∧ (Boxed A Bs 32 sv → Boxed B Bs 32 sv)
theorem impl_dnKey.kpB_t {n₀ Bs : Nat} {sv : Value} {A B C : World} (h : impl_dnKey.KpB n₀ Bs sv A B) (g : impl_dnKey.KpB n₀ Bs sv B C) : impl_dnKey.KpB n₀ Bs sv A C := ⟨h.1.trans g.1, fun x => g.2 (h.2 x)⟩
theorem impl_dnKey.kpB_b {n₀ Bs : Nat} {sv : Value} {w : World} (hn : n₀ ≤ w.heap.size) (W : World) (l : Nat) (o o' : Obj) (hl : w.heap.size ≤ l) (h : W.heap[l]? = some o) (hc : o.isCells = false) (hw : o.isWalk = false) : impl_dnKey.KpB n₀ Bs sv W (W.putObj l o') :=
 ⟨belowK_b hn W l o o' hl h hc hw, fun hb => hb.kept (grownBy_putObj' W l o') (fun e => by cases e; rw [show W.heap[Bs]? = _ from hb] at h; cases h; cases hc)⟩
set_option maxRecDepth 100000 in
set_option maxHeartbeats 2000000 in
theorem impl_dnKey.backward1_in (k n : Nat) (hn : 1 ≤ n) (l Bs : Nat) (A0 : Option Addr) (c0 : Nat) (l0 : List S42) (w0 : World) (hr0 : Kd.C k42 w0 A0 l0.length l0) (hlen : l0.length ≤ 1048576) (es : List (impl_dnKey.El k)) (hes : es.length = l0.length)
  (hee : ∀ (j : Nat) (y : S42), l0.reverse[j]? = some y → ∃ e : impl_dnKey.El k, es[j]? = some e ∧ e.1.1 = ((l0.length : Int) - 1) - (j : Int) ∧ e.1.2.1 = y) (J Jx : List (impl_dnKey.El k) → World → Prop)
  (hY : ∀ pre x W, J pre W → pre.length < l0.length → YieldAt Fence.wide (n - 1) Tryd.prog l (impl_dnKey.encE x) W fun e W' =>
   (e = .returned (.bool true) ∧ J (pre ++ [x]) W' ∧ impl_dnKey.KpB w0.heap.size Bs (.slice A0 l0.length c0) W W') ∨ (e = .returned (.bool false) ∧ Jx (pre ++ [x]) W'))
  (W : World) (hW0 : Below w0.heap.size w0 W) (hBs : Boxed W Bs 32 (.slice A0 l0.length c0)) (h0 : J [] W) :
  CallsIn Fence.wide n Tryd.prog 159 #[.func (.yield l) #[] #[], .pointer (some ⟨Bs, 0, none⟩)] W fun e W' => (∃ v, e = .returned v) ∧
   ((∃ ys, ys = es ∧ J ys W') ∨ (∃ pre, pre <+: es ∧ Jx pre W')) := by
 have hcs := hBs.cell
 refine callsIn_of_wp Tryd.func159 rfl trivial ?_ rfl
 simp only [Tryd.ntmps159, List.size_toArray, List.length_cons, List.length_nil, Nat.reduceAdd, Nat.reduceSub, Array.replicate_succ, Array.replicate_zero, List.push_toArray, List.append_toArray, List.nil_append, List.cons_append]
 gi_wp2
 gi_loopw [3] (fun i wr => ∃ q : Nat, q ≤ l0.length ∧ i = .int .i64 ((l0.length : Int) - 1 - (q : Int)) ∧ J (es.take q) wr ∧ Below w0.heap.size w0 wr ∧ Boxed wr Bs 32 (.slice A0 l0.length c0))
  (fun i _ => (intOf i + 1).toNat)
 case atStart => exact ⟨0, Nat.zero_le _, by first | rfl | (congr 1; simp; done) | (congr 1; unfold wrap64; omega), h0, hW0, hBs⟩
 case round =>
  obtain ⟨q, hq, rfl, hJs, hnx, hbx⟩ := hrel
  have hcb := hbx.cell
  by_cases hlt : q < l0.length
  ·have hrev : l0.reverse[q]? = some (rd_T42 l0 ((l0.length : Int) - 1 - (q : Int))) := by
    rw [List.getElem?_reverse hlt]
    unfold rd_T42
    rw [show ((l0.length : Int) - 1 - (q : Int)).toNat = l0.length - 1 - q by omega, List.getD_eq_getElem?_getD, List.getElem?_eq_getElem (by omega)]
    rfl
   obtain ⟨e, he, hi, hy⟩ := hee q _ hrev
   obtain ⟨fn, tmps, assign, body, hyy, hR⟩ := hY (es.take q) e wr hJs (by rw [List.length_take]; omega)
   simp only [impl_dnKey.encE, hi, hy] at hyy
   have hp : 0 ≤ (l0.length : Int) - 1 - (q : Int) := by omega
   have hp2 : (l0.length : Int) - 1 - (q : Int) < (l0.length : Int) := by omega
   obtain ⟨ad, e1, hx0, hx1⟩ := at_T42 hr0 ((l0.length : Int) - 1 - (q : Int)) hp hp2
   cases e1
   replace hx0 := (hnx.cell (World.block_lt_of_cell? w0 _ hx0)).trans hx0
   replace hx1 := (hnx.cell (World.block_lt_of_cell? w0 _ hx1)).trans hx1
   rw [show ((l0.length : Int) - 1 - (q : Int)).toNat = l0.length - 1 - q by omega] at hx0 hx1
   have hpd := decide_eq_true hp
   have hp2d := decide_eq_true hp2
   gi_wp2
   refine hR.mono ?_
   rintro e' W3 (⟨rfl, hJ3, hk3⟩ | ⟨rfl, hJx3⟩)
   ·gi_wp2
    go_roundw
    case rel => exact ⟨q + 1, by omega, by first | rfl | (congr 1; omega) | (congr 1; unfold wrap64; omega), by rw [List.take_add_one, he]; exact hJ3, hnx.trans hk3.1, hk3.2 hbx⟩
    case measure => first | (simp [intOf]; omega) | (simp [intOf]; unfold wrap64; omega)
   ·gi_wp2
    refine bodyPost_ret (results_none rfl _ _ _) rfl ?_
    exact ⟨⟨_, rfl⟩, .inr ⟨_, ⟨es.drop (q + 1), by have h9 := List.take_append_drop (q + 1) es; rw [List.take_add_one, he] at h9; exact h9⟩, hJx3⟩⟩
  ·obtain rfl : q = l0.length := by omega
   gi_wp2
   go_end0
   exact ⟨⟨_, rfl⟩, .inl ⟨_, rfl, by rw [← hes, List.take_length] at hJs; exact hJs⟩⟩
set_option maxHeartbeats 1000000 in
theorem impl_dnKey.backward_in (n : Nat) (a : Option Addr) (len cap : Nat) (w : World) :
  CallsIn Fence.wide n Tryd.prog 125 #[.slice a len cap] w fun e w' => e = .returned (.func (.func 159) #[] #[.pointer (some ⟨w.heap.size, 0, none⟩)]) ∧ w' = w.alloc (.cells #[.slice a len cap] 32) := by
 refine callsIn_of_wp Tryd.func125 rfl trivial ?_ rfl
 simp only [Tryd.ntmps125, List.size_toArray, List.length_cons, List.length_nil, Nat.reduceAdd, Nat.reduceSub, Array.replicate_succ, Array.replicate_zero, List.push_toArray, List.append_toArray, List.nil_append, List.cons_append]
 gi_wp2
 go_ret
 exact ⟨rfl, rfl⟩
theorem impl_dnKey.backward_stops (k n : Nat) (hn : 1 ≤ n) (Bs : Nat) (A0 : Option Addr) (c0 : Nat) (l0 : List S42) (w0 : World) (hr0 : Kd.C k42 w0 A0 l0.length l0) (hlen : l0.length ≤ 1048576) (es : List (impl_dnKey.El k)) (hes : es.length = l0.length)
  (hee : ∀ (j : Nat) (y : S42), l0.reverse[j]? = some y → ∃ e : impl_dnKey.El k, es[j]? = some e ∧ e.1.1 = ((l0.length : Int) - 1) - (j : Int) ∧ e.1.2.1 = y) (w : World) (hB : Below w0.heap.size w0 w) (hc : Boxed w Bs 32 (.slice A0 l0.length c0)) :
  SeqStopsK Fence.wide n Tryd.prog 159 #[.pointer (some ⟨Bs, 0, none⟩)] (impl_dnKey.encE (k := k)) (impl_dnKey.KpB w0.heap.size Bs (.slice A0 l0.length c0)) (fun ys => ys = es) (fun pre => pre <+: es) l0.length w := fun l J Jx W hW _ _ hY h0 =>
 impl_dnKey.backward1_in k n hn l Bs A0 c0 l0 w0 hr0 hlen es hes hee J Jx hY W (hB.trans (hW.mono hB.size)) ((hW.block Bs hc.lt).trans hc) h0
theorem impl_dnKey.keepsFrom {W W' : World} (h : Below W.heap.size W W') (B : Nat) : KeepsFrom B W W' := ⟨h.size, fun k o _ h0 _ => (h.block k (Array.getElem?_eq_some_iff.1 h0).1).trans h0⟩
set_option maxRecDepth 100000 in
set_option maxHeartbeats 4000000 in
theorem impl_dnKey.calls (k : Nat) (A0 : Option Addr) (c0 : Nat) (l0 : List S42) (r : ByteArray) (w : World) (hr0 : Kd.C k42 w A0 l0.length l0) (hc0 : l0.length ≤ c0) (h : impl_dnKey.f k l0 = some r) :
  Calls Tryd.prog 83 #[.slice A0 l0.length c0] w fun e w' => e = .returned (.string r) ∧ Below w.heap.size w w' := by
 unfold impl_dnKey.f at h
 by_cases hlen : l0.length ≤ 1048576
 case neg => rw [if_neg hlen] at h; cases h
 rw [if_pos hlen] at h
 obtain ⟨es, hes, hee, hr⟩ := impl_dnKey.go_es k r _ _ ((l0.length : Int) - 1) h
 rw [List.length_reverse] at hes
 obtain rfl : r = impl_dnKey.keyAll es := hr
 clear h
 refine (callsIn_wide (n := 6)).1 ?_
 refine callsIn_of_wp_marks Tryd.func83 rfl trivial ?_ rfl
 simp only [Tryd.ntmps83, List.size_toArray, List.length_cons, List.length_nil, Nat.reduceAdd, Nat.reduceSub, Array.replicate_succ, Array.replicate_zero, List.push_toArray, List.append_toArray, List.nil_append, List.cons_append]
 gi_wp2_with (refine ⟨trivial, ?_⟩; gi_at_call 125; refine (impl_dnKey.backward_in 5 _ _ _ _).mono ?_; rintro e w' ⟨rfl, rfl⟩)
 have bO := (Boxed.new w 9 (.string (⟨#[]⟩ : ByteArray))).alloc (.cells #[.slice A0 l0.length c0] 32)
 have bS := Boxed.new (w.alloc (.cells #[.string (⟨#[]⟩ : ByteArray)] 9)) 32 (.slice A0 l0.length c0)
 simp only [World.size_alloc] at bS
 have hB0 : Below w.heap.size w ((w.alloc (.cells #[.string (⟨#[]⟩ : ByteArray)] 9)).alloc (.cells #[.slice A0 l0.length c0] 32)) := ((Below.refl _ w).alloc (Nat.le_refl _) _).alloc (by simp) _
 have hsz : ((w.alloc (.cells #[.string (⟨#[]⟩ : ByteArray)] 9)).alloc (.cells #[.slice A0 l0.length c0] 32)).heap.size = w.heap.size + 2 := by simp
 obtain ⟨W0, hW0⟩ : ∃ W0, (w.alloc (.cells #[.string (⟨#[]⟩ : ByteArray)] 9)).alloc (.cells #[.slice A0 l0.length c0] 32) = W0 := ⟨_, rfl⟩
 rw [hW0] at bO bS hB0 hsz ⊢
 clear hW0
 refine wpIn_rangeFunc_ownH rfl (by omega) (gf := 159) (lb := #[.pointer (some ⟨w.heap.size + 1, 0, none⟩)]) rfl trivial (enters_of Tryd.func159 (by kernel_rfl) rfl)
  (impl_dnKey.backward_stops k 5 (by omega) (w.heap.size + 1) A0 c0 l0 w hr0 hlen es hes hee W0 hB0 bS) impl_dnKey.kpB_t (impl_dnKey.kpB_b (by omega)) (Below.refl _ _) (fun _ => rfl)
  (fun pre W => (Boxed W w.heap.size 9 (.string (impl_dnKey.keyAll pre)) ∧ Boxed W (w.heap.size + 1) 32 (.slice A0 l0.length c0)) ∧ Below w.heap.size w W)
  (fun _ _ _ => False)
  (OwnFrom.and (OwnFrom.and (Own.from (boxed_own _ _ _) _) (Own.from (boxed_own _ _ _) _)) (ownFrom_below (Nat.le_refl _) (by omega)))
  (fun _ _ _ _ _ hs _ _ => hs)
  ⟨⟨bO, bS⟩, hB0⟩
  (fun x a' W => ∃ Bx, w.heap.size + 1 < Bx ∧ W.heap[Bx]? = some (.cells #[.string x.1.2.1.f0, .string x.1.2.1.f1] 42 (0, 0)) ∧ a' = { tmps := #[.slice A0 l0.length c0, undef, .string (⟨#[]⟩ : ByteArray), .pointer (some ⟨w.heap.size, 0, none⟩), undef, .pointer (some ⟨Bx, 0, none⟩), .slice A0 l0.length c0, .func (.func 159) #[] #[.pointer (some ⟨w.heap.size + 1, 0, none⟩)], .int .i64 x.1.1, .agg #[.string x.1.2.1.f0, .string x.1.2.1.f1], undef, undef, undef, undef, undef, undef, undef, undef, undef, undef, undef], defers := [] })
  (fun x a' _ X Y row hs hg hr => by
   obtain ⟨Bx, h1, h2, h3⟩ := hs
   exact ⟨Bx, h1, (hg.block Bx (Array.getElem?_eq_some_iff.1 h2).1 (fun e => by obtain ⟨_, o, ho, hc⟩ := hr Bx e.symm; rw [h2] at ho; cases ho; cases hc)).trans h2, h3⟩)
  ?assign ?body ?done ?stop
 case assign =>
  rintro l pre x W K ⟨⟨bO1, bS1⟩, hB1⟩ hK
  simp only [impl_dnKey.encE]
  gi_wp2
  have hBW := (Below.refl W.heap.size W).alloc (Nat.le_refl _) (.cells #[.string x.1.2.1.f0, .string x.1.2.1.f1] 42)
  exact hK _ _ (impl_dnKey.keepsFrom hBW _) ⟨hBW.mono hB1.size, fun hb => (hBW.block _ hb.lt).trans hb⟩ ⟨⟨(hBW.block _ bO1.lt).trans bO1, (hBW.block _ bS1.lt).trans bS1⟩, hB1.trans (hBW.mono hB1.size)⟩
   ⟨W.heap.size, bS1.lt, World.alloc_heap_new W _, rfl⟩
 case body =>
  rintro l pre x a' W hl ⟨r, hr⟩ ⟨⟨bO1, bS1⟩, hB1⟩ ⟨Bx, hBx, bX, rfl⟩ hlt
  have hsO := impl_dnKey.keyAll_size pre
  have hx2 := x.2.2
  have hBR := Aside0.mk (Below.refl W.heap.size W)
  have hN := x.2.1
  have cO : W.drew.cell? ⟨w.heap.size, 0, none⟩ = some (.string (impl_dnKey.keyAll pre)) := bO1.cell
  have cX0 : W.drew.cell? ⟨Bx, 0, none⟩ = some (.string x.1.2.1.f0) := blk_cell (w := W.drew) bX 0
  have cX1 : W.drew.cell? ⟨Bx, 1, none⟩ = some (.string x.1.2.1.f1) := blk_cell (w := W.drew) bX 1
  have c1 : (9223372036854775807 < 1 + x.1.2.1.f0.size) = False := eq_false (by omega)
  have c2 : (9223372036854775807 < 1 + x.1.2.1.f0.size + 1) = False := eq_false (by omega)
  have c3 : (9223372036854775807 < 1 + x.1.2.1.f0.size + 1 + x.1.2.2.size) = False := eq_false (by omega)
  have c4 : (9223372036854775807 < (impl_dnKey.keyAll pre).size + (1 + x.1.2.1.f0.size + 1 + x.1.2.2.size)) = False := eq_false (by omega)
  refine wpIn_block ?_
  refine impl_dnKey.region_round (by kernel_rfl) (by kernel_rfl) (by rintro ⟨_, _, h⟩; exact h) ?_
  have hS : W.drew.cell? ⟨w.heap.size, 0, none⟩ = some (.string (impl_dnKey.keyAll pre)) ∧ W.drew.cell? ⟨Bx, 0, none⟩ = some (.string x.1.2.1.f0) ∧ W.drew.cell? ⟨Bx, 1, none⟩ = some (.string x.1.2.1.f1) := ⟨cO, cX0, cX1⟩
  refine wpAny_of_last (S := fun w' => w'.cell? ⟨w.heap.size, 0, none⟩ = some (.string (impl_dnKey.keyAll pre)) ∧ w'.cell? ⟨Bx, 0, none⟩ = some (.string x.1.2.1.f0) ∧ w'.cell? ⟨Bx, 1, none⟩ = some (.string x.1.2.1.f1)) (ds := [10]) _ _ _ _ ?_
  show wpAnyLast _ _ _ _ _ _ 11 #[false, false, false, false, false, false, false, false, false, false, false] _ _
  refine take_ (i := 0) (N := some 10) (v := ?_) (a' := ?_) #[true, false, false, false, false, false, false, false, false, false, false] rfl rfl (by kernel_rfl) (fun _ _ _ h => h) (Or.inl ⟨by rfl, ?_⟩) hS ?_ ?_
  rotate_left
  ·rintro w' ⟨s0, s1, s2⟩
   go_simp
   with_reducible rfl
  rotate_left
  ·simp only [PUz]
   rfl
  refine pure_ (i := 1) (N := some 11) (v := ?_) (a' := ?_) #[true, true, false, false, false, false, false, false, false, false, false] rfl rfl (by kernel_rfl) (fun _ _ _ h => h) (Or.inl ⟨by rfl, ?_⟩) ?_ ?_
  rotate_left
  ·intro w'
   go_simp
   with_reducible rfl
  rotate_left
  ·simp only [PUz]
   rfl
  refine take_ (i := 2) (N := some 12) (v := ?_) (a' := ?_) #[true, true, true, false, false, false, false, false, false, false, false] rfl rfl (by kernel_rfl) (fun _ _ _ h => h) (Or.inl ⟨by rfl, ?_⟩) hS ?_ ?_
  rotate_left
  ·rintro w' ⟨s0, s1, s2⟩
   go_simp
   with_reducible rfl
  rotate_left
  ·simp only [PUz]
   rfl
  refine pure_ (i := 3) (N := some 13) (v := ?_) (a' := ?_) #[true, true, true, true, false, false, false, false, false, false, false] rfl rfl (by kernel_rfl) (fun _ _ _ h => h) (Or.inl ⟨by rfl, ?_⟩) ?_ ?_
  rotate_left
  ·intro w'
   go_simp
   with_reducible rfl
  rotate_left
  ·simp only [PUz]
   rfl
  refine pure_ (i := 4) (N := some 14) (v := ?_) (a' := ?_) #[true, true, true, true, true, false, false, false, false, false, false] rfl rfl (by kernel_rfl) (fun _ _ _ h => h) (Or.inl ⟨by rfl, ?_⟩) ?_ ?_
  rotate_left
  ·intro w'
   go_simp
   with_reducible rfl
  rotate_left
  ·simp only [PUz]
   rfl
  refine pure_ (i := 5) (N := some 15) (v := ?_) (a' := ?_) #[true, true, true, true, true, true, false, false, false, false, false] rfl rfl (by kernel_rfl) (fun _ _ _ h => h) (Or.inl ⟨by rfl, ?_⟩) ?_ ?_
  rotate_left
  ·intro w'
   go_simp
   with_reducible rfl
  rotate_left
  ·simp only [PUz]
   rfl
  refine take_ (i := 6) (N := some 16) (v := ?_) (a' := ?_) #[true, true, true, true, true, true, true, false, false, false, false] rfl rfl (by kernel_rfl) (fun _ _ _ h => h) (Or.inl ⟨by rfl, ?_⟩) hS ?_ ?_
  rotate_left
  ·rintro w' ⟨s0, s1, s2⟩
   go_simp
   with_reducible rfl
  rotate_left
  ·simp only [PUz]
   rfl
  refine one_ (i := 7) (N := some 17) #[true, true, true, true, true, true, true, true, false, false, false] rfl rfl (by kernel_rfl) (by decide) (fun K hK => ?_)
  refine goes_ Tryd.func126 (by kernel_rfl) rfl #[.string x.1.2.1.f1] (by rfl) rfl rfl (by (try simp only [List.map_toArray, List.map_cons, List.map_nil]); first | done | rfl) ?_
  refine (impl_Norm.calls k x.1.2.1.f1 x.1.2.2 _ hN).mono ?_
  rintro e w5 ⟨rfl, hb⟩
  refine ⟨_, rfl, ?_⟩
  have hb' : Below W.heap.size W w5 := (Below.refl W.heap.size W).drew.trans hb
  refine hK.out _ _ ⟨(hb.cell (p := ⟨w.heap.size, 0, none⟩) bO1.lt).trans cO, (hb.cell (p := ⟨Bx, 0, none⟩) (blk_lt bX)).trans cX0, (hb.cell (p := ⟨Bx, 1, none⟩) (blk_lt bX)).trans cX1⟩ (fun hS => ?_)
  clear hK K
  refine norm_ (a' := ?_) ?_ ?_
  rotate_left
  ·show Act.put _ (some 17) _ = _
   simp only [PUz]
   rfl
  refine pure_ (i := 8) (N := some 18) (v := ?_) (a' := ?_) #[true, true, true, true, true, true, true, true, true, false, false] rfl rfl (by kernel_rfl) (fun _ _ _ h => h) (Or.inl ⟨by rfl, ?_⟩) ?_ ?_
  rotate_left
  ·intro w'
   go_simp
   with_reducible rfl
  rotate_left
  ·simp only [PUz]
   rfl
  refine pure_ (i := 9) (N := some 19) (v := ?_) (a' := ?_) #[true, true, true, true, true, true, true, true, true, true, false] rfl rfl (by kernel_rfl) (fun _ _ _ h => h) (Or.inl ⟨by rfl, ?_⟩) ?_ ?_
  rotate_left
  ·intro w'
   go_simp
   with_reducible rfl
  rotate_left
  ·simp only [PUz]
   rfl
  have bO5 : Boxed w5 w.heap.size 9 (.string (impl_dnKey.keyAll pre)) := (hb.block _ bO1.lt).trans bO1
  have hs29 := bO5.cell
  have hfs29 := bO5.frozen
  refine last_ (i := 10) (N := none) #[true, true, true, true, true, true, true, true, true, true, true] rfl rfl (by kernel_rfl) (by decide) (fun K hK => ?_)
  refine skip_ (w1 := ?_) (by rfl) rfl ?_ ?_
  rotate_left
  ·go_simp
   rfl
  refine hK.out _ _ ?_
  clear hK K
  refine done_ (by kernel_rfl) ?_
  have hK5 : KeepsFrom W0.heap.size W w5 := impl_dnKey.keepsFrom hb' _
  have hBw := hb'.mono hB1.size
  have bS5 : Boxed w5 (w.heap.size + 1) 32 (.slice A0 l0.length c0) := (hb'.block _ bS1.lt).trans bS1
  have hks : impl_dnKey.keyAll (pre ++ [x]) = impl_dnKey.keyAll pre ++ ((((⟨#[1]⟩ : ByteArray) ++ x.1.2.1.f0) ++ (⟨#[61]⟩ : ByteArray)) ++ x.1.2.2) := impl_dnKey.keyAll_snoc pre x
  rw [← hks]
  have hset := hBw.setCell (p := ⟨w.heap.size, 0, none⟩) (Nat.le_refl _) (.string (impl_dnKey.keyAll (pre ++ [x])))
  exact ⟨hK5.trans ((KeepsOthers.setCell _ _ _).from _), ⟨hset, fun hx => Boxed.other ((hb'.block _ hx.lt).trans hx) (by omega) _⟩, ⟨bO5.set _, bS5.other (by omega) _⟩, hB1.trans hset⟩
 case done =>
  rintro D zs W hD rfl ⟨⟨bO1, bS1⟩, hB1⟩ hK
  have cS := bO1.cell
  gi_wp2
  refine ⟨by simp, .inl ⟨_, _, rfl, run_takeDeferred hK, ?_⟩⟩
  exact ⟨_, results_tmp rfl _ _ _, rfl, hB1.trans (belowK_b (w := w) (Nat.le_refl _) W D _ _ (by omega) hK rfl rfl)⟩
 case stop =>
  rintro D c pre W _ _ h _
  exact h.elim
end
def impl_dnSame.f (k : Nat) (l0 : List (S42)) (l1 : List (S42)) : Option (Bool) := if (l0.length : Int) = (l1.length : Int) then ((impl_dnKey.f k l0).bind fun t277 => ((impl_dnKey.f k l1).bind fun t278 => (some (t277.toList == t278.toList)))) else (some false)
theorem impl_dnSame.mono : ∀ a0 a1 k, LeO (impl_dnSame.f k a0 a1) (impl_dnSame.f (k + 1) a0 a1) := by
 intro a0 a1 k
 unfold impl_dnSame.f
 repeat' first
   | (with_reducible exact impl_dnKey.mono _ _)
   | (with_reducible exact LeO.refl _)
   | (with_reducible exact LeO.none _)
   | (with_reducible refine LeO.ite ?_ ?_)
   | (with_reducible refine LeO.bind ?_ (fun _ => ?_))
   | exact impl_dnKey.mono _ _
   | exact LeO.none _
   | refine LeO.ite ?_ ?_
   | refine LeO.bind ?_ (fun _ => ?_)
set_option maxHeartbeats 8000000 in
set_option maxRecDepth 100000 in
theorem impl_dnSame.calls (k : Nat) (A0 : Option Addr) (c0 : Nat) (l0 : List (S42)) (A1 : Option Addr) (c1 : Nat) (l1 : List (S42)) (r : Bool) (w : World) (hr0 : Kd.C k42 w A0 l0.length l0) (hc0 : l0.length ≤ c0) (hr1 : Kd.C k42 w A1 l1.length l1) (hc1 : l1.length ≤ c1) (h : impl_dnSame.f k l0 l1 = some r) :
  Calls Tryd.prog 80 #[.slice A0 l0.length c0, .slice A1 l1.length c1] w fun e w' => e = .returned (.bool r) ∧ Below w.heap.size w w' := by
 have HR0 := Aside0.mk hr0
 have HC0 := Aside0.mk hc0
 clear hr0 hc0
 have HR1 := Aside0.mk hr1
 have HC1 := Aside0.mk hc1
 clear hr1 hc1
 have HB := Aside0.mk (Below.refl w.heap.size w)
 have H : (if (l0.length : Int) = (l1.length : Int) then ((impl_dnKey.f k l0).bind fun t277 => ((impl_dnKey.f k l1).bind fun t278 => (some (t277.toList == t278.toList)))) else (some false)) = some r := h
 clear h
 by_cases c3 : (l0.length : Int) = (l1.length : Int)
 ·rw [if_pos c3] at H
  have c3b0 : ((l0.length : Int) == (l1.length : Int)) = true := beq_iff_eq.mpr c3
  have c3b1 : ((l0.length : Int) != (l1.length : Int)) = false := bne_eq_false_iff_eq.mpr c3
  have c3b2 : (l0.length == l1.length) = true := by first | simpa using c3 | (simp at c3 ⊢; omega)
  clear c3
  replace H := Option.bind_eq_some_iff.mp H
  obtain ⟨t277, A40, H⟩ := H
  replace H : ((impl_dnKey.f k l1).bind fun t278 => (some (t277.toList == t278.toList))) = some r := H
  have A4 := Aside0.mk A40
  clear A40
  replace H := Option.bind_eq_some_iff.mp H
  obtain ⟨t278, A50, H⟩ := H
  replace H : (some (t277.toList == t278.toList)) = some r := H
  have A5 := Aside0.mk A50
  clear A50
  obtain rfl := Option.some.inj H
  go_enter Tryd.func80, Tryd.ntmps80
  go_wp2_with (first | (go_at_call 83; (with_reducible refine (impl_dnKey.calls k _ _ l0 t277 _ ?side1 ?side2 A4.out).mono ?_); (case side1 => exact KCz HR0.out); (case side2 => exact HC0.out); rintro e w6 ⟨rfl, hb⟩; have n0_ := Aside0.mk (below_step HBa hb); clear HB; have HB := n0_; clear n0_; (try clear hb); (try clear hb2); (try clear hk); (try clear hi)) | (go_at_call 83; (with_reducible refine (impl_dnKey.calls k _ _ l1 t278 _ ?side1 ?side2 A5.out).mono ?_); (case side1 => exact KCz (Kd.C_below HR1.out HB.out)); (case side2 => exact HC1.out); rintro e w7 ⟨rfl, hb⟩; have n0_ := Aside0.mk (below_step HBa hb); clear HB; have HB := n0_; clear n0_; (try clear hb); (try clear hb2); (try clear hk); (try clear hi)))
  go_ret
  exact ⟨EZa, HBa⟩
 ·rw [if_neg c3] at H
  have c3b0 : ((l0.length : Int) == (l1.length : Int)) = false := beq_eq_false_iff_ne.mpr c3
  have c3b1 : ((l0.length : Int) != (l1.length : Int)) = true := bne_iff_ne.mpr c3
  have c3b2 : (l0.length == l1.length) = false := by first | simpa using c3 | (simp at c3 ⊢; omega)
  obtain rfl := Option.some.inj H
  go_enter Tryd.func80, Tryd.ntmps80
  go_wp2
  go_ret
  exact ⟨EZa, HBa⟩
def impl_entrySame.val (k : Nat) (v w : ByteArray) : Option Bool := (impl_Norm.f k v).bind fun a => (impl_Norm.f k w).bind fun b => some (a.toList == b.toList)
def impl_entrySame.vals (k : Nat) : List ByteArray → List ByteArray → Option Bool
 | [], _ => some true
 | _ :: _, [] => none
 | x :: xs, y :: ys => (impl_entrySame.val k x y).bind fun b => if b = true then impl_entrySame.vals k xs ys else some false
def impl_entrySame.eqv (k : Nat) (l0 l1 : List ByteArray) : Option Bool := if l0.length = l1.length then impl_entrySame.vals k l0 l1 else some false
def impl_entrySame.attr (k : Nat) (a0 : ByteArray) (l0 : List ByteArray) (a1 : ByteArray) (l1 : List ByteArray) : Option Bool := if a0.toList = a1.toList then impl_entrySame.eqv k l0 l1 else some false
def impl_entrySame.attrs (k : Nat) : List S114 → List S114 → Option Bool
 | [], _ => some true
 | _ :: _, [] => none
 | x :: xs, y :: ys => (impl_entrySame.attr k x.f0 x.f1 y.f0 y.f1).bind fun b => if b = true then impl_entrySame.attrs k xs ys else some false
def impl_entrySame.eqa (k : Nat) (l0 l1 : List S114) : Option Bool := if l0.length = l1.length then impl_entrySame.attrs k l0 l1 else some false
def impl_entrySame.f (k : Nat) (l0_0 : List (S42)) (l0_1 : List (S114)) (l1_0 : List (S42)) (l1_1 : List (S114)) : Option (Bool) := (impl_dnSame.f k l0_0 l1_0).bind fun t => if t = true then impl_entrySame.eqa k l0_1 l1_1 else some false
theorem impl_entrySame.mono_val (k : Nat) (v w : ByteArray) : LeO (impl_entrySame.val k v w) (impl_entrySame.val (k + 1) v w) := LeO.bind (impl_Norm.mono _ _) (fun _ => LeO.bind (impl_Norm.mono _ _) (fun _ => LeO.refl _))
theorem impl_entrySame.mono_vals (k : Nat) : ∀ (l0 l1 : List ByteArray), LeO (impl_entrySame.vals k l0 l1) (impl_entrySame.vals (k + 1) l0 l1)
 | [], _ => LeO.refl _
 | _ :: _, [] => LeO.refl _
 | x :: xs, y :: ys => by
  simp only [impl_entrySame.vals]
  exact LeO.bind (impl_entrySame.mono_val _ _ _) (fun b => LeO.ite (impl_entrySame.mono_vals k xs ys) (LeO.refl _))
theorem impl_entrySame.mono_attr (k : Nat) (a0 : ByteArray) (l0 : List ByteArray) (a1 : ByteArray) (l1 : List ByteArray) : LeO (impl_entrySame.attr k a0 l0 a1 l1) (impl_entrySame.attr (k + 1) a0 l0 a1 l1) := LeO.ite (LeO.ite (impl_entrySame.mono_vals _ _ _) (LeO.refl _)) (LeO.refl _)
theorem impl_entrySame.mono_attrs (k : Nat) : ∀ (l0 l1 : List S114), LeO (impl_entrySame.attrs k l0 l1) (impl_entrySame.attrs (k + 1) l0 l1)
 | [], _ => LeO.refl _
 | _ :: _, [] => LeO.refl _
 | x :: xs, y :: ys => by
  simp only [impl_entrySame.attrs]
  exact LeO.bind (impl_entrySame.mono_attr _ _ _ _ _) (fun b => LeO.ite (impl_entrySame.mono_attrs k xs ys) (LeO.refl _))
theorem impl_entrySame.mono : ∀ a0_0 a0_1 a1_0 a1_1 k, LeO (impl_entrySame.f k a0_0 a0_1 a1_0 a1_1) (impl_entrySame.f (k + 1) a0_0 a0_1 a1_0 a1_1) := fun _ _ _ _ _ => LeO.bind (impl_dnSame.mono _ _ _) (fun _ => LeO.ite (LeO.ite (impl_entrySame.mono_attrs _ _ _) (LeO.refl _)) (LeO.refl _))
set_option maxHeartbeats 8000000 in
set_option maxRecDepth 100000 in
theorem impl_entrySame.val_calls (k : Nat) (a0 a1 : ByteArray) (r : Bool) (w : World) (h : impl_entrySame.val k a0 a1 = some r) :
  Calls Tryd.prog 146 #[.string a0, .string a1] w fun e w' => e = .returned (.bool r) ∧ Below w.heap.size w w' := by
 have HB := Aside0.mk (Below.refl w.heap.size w)
 unfold impl_entrySame.val at h
 obtain ⟨t0, A30, h⟩ := Option.bind_eq_some_iff.1 h
 obtain ⟨t1, A40, h⟩ := Option.bind_eq_some_iff.1 h
 obtain rfl := Option.some.inj h
 have A3 := Aside0.mk A30
 have A4 := Aside0.mk A40
 clear A30 A40
 go_enter Tryd.func146, Tryd.ntmps146
 go_wp2_with (first | (go_at_call 126; (with_reducible refine (impl_Norm.calls k a0 t0 _ A3.out).mono ?_); rintro e w6 ⟨rfl, hb⟩; have n9_ := Aside0.mk (below_step HB.out hb); clear HB; have HB := n9_; clear n9_; clear hb) | (go_at_call 126; (with_reducible refine (impl_Norm.calls k a1 t1 _ A4.out).mono ?_); rintro e w7 ⟨rfl, hb⟩; have n9_ := Aside0.mk (below_step HB.out hb); clear HB; have HB := n9_; clear n9_; clear hb))
 go_ret
 exact ⟨by first | rfl | (simp; done) | (simp [*]; done), HBa⟩
set_option maxHeartbeats 8000000 in
set_option maxRecDepth 100000 in
theorem impl_entrySame.vals_calls (k : Nat) (A0 : Option Addr) (c0 : Nat) (l0 : List ByteArray) (A1 : Option Addr) (c1 : Nat) (l1 : List ByteArray) (r : Bool) (w : World) (hr0 : Kd.C Kd.string w A0 l0.length l0) (hr1 : Kd.C Kd.string w A1 l1.length l1) (h : impl_entrySame.eqv k l0 l1 = some r) :
  Calls Tryd.prog 145 #[.slice A0 l0.length c0, .slice A1 l1.length c1, .func (.func 146) #[] #[]] w fun e w' => e = .returned (.bool r) ∧ Below w.heap.size w w' := by
 have HR0 := Aside0.mk hr0
 have HR1 := Aside0.mk hr1
 clear hr0 hr1
 have HB := Aside0.mk (Below.refl w.heap.size w)
 unfold impl_entrySame.eqv at h
 by_cases cl : l0.length = l1.length
 ·rw [if_pos cl] at h
  have clb0 : ((l0.length : Int) == (l1.length : Int)) = true := beq_iff_eq.mpr (by rw [cl])
  have clb1 : ((l0.length : Int) != (l1.length : Int)) = false := bne_eq_false_iff_eq.mpr (by rw [cl])
  have clb2 : (l0.length == l1.length) = true := beq_iff_eq.mpr cl
  have clb3 : (l0.length != l1.length) = false := bne_eq_false_iff_eq.mpr cl
  have CL := Aside0.mk cl
  have H' := Aside0.mk h
  clear h cl
  go_enter Tryd.func145, Tryd.ntmps145
  go_wp2
  go_loopg [17] l0.length (fun kq v17 w' => ∃ j : Nat, v17 = .int .i64 (j : Int) ∧ Aside0 (impl_entrySame.vals k (l0.drop j) (l1.drop j) = some r) ∧ Aside0 (l0.length - j ≤ kq) ∧ Aside0 (Below w.heap.size w w'))
  case atStart => exact ⟨0, rfl, H', ⟨by omega⟩, HB⟩
  case round =>
   clear H'
   obtain ⟨j, rfl, HA, HK, HB⟩ := hrel
   by_cases d1 : (j : Int) < (l0.length : Int)
   ·have d1b0 : decide ((j : Int) < (l0.length : Int)) = true := decide_eq_true d1
    have d1b1 : decide (j < l0.length) = true := decide_eq_true (by omega)
    have d2 : (j : Int) < (l1.length : Int) := by have := CL.out; omega
    have d2b0 : decide ((j : Int) < (l1.length : Int)) = true := decide_eq_true d2
    have d2b1 : decide (j < l1.length) = true := decide_eq_true (by omega)
    have H := HA.out
    clear HA
    have hj : j < l0.length := by omega
    have hj1 : j < l1.length := by omega
    have p1 : 0 ≤ (j : Int) := by omega
    obtain ⟨ad1, f1, hx1⟩ := Kd.at_string HR0.out (j : Int) p1 d1
    cases f1
    replace hx1 := HXz HB hx1
    simp only [Int.toNat_natCast] at hx1
    obtain ⟨ad2, f2, hx2⟩ := Kd.at_string HR1.out (j : Int) p1 d2
    cases f2
    replace hx2 := HXz HB hx2
    simp only [Int.toNat_natCast] at hx2
    have hel0 : l0.drop j = rdOf ByteArray.empty l0 (j : Int) :: l0.drop (j + 1) := by
     rw [List.drop_eq_getElem_cons hj]
     congr 1
     unfold rdOf
     rw [List.getD_eq_getElem?_getD, show (j : Int).toNat = j from rfl, List.getElem?_eq_getElem hj]; rfl
    have hel1 : l1.drop j = rdOf ByteArray.empty l1 (j : Int) :: l1.drop (j + 1) := by
     rw [List.drop_eq_getElem_cons hj1]
     congr 1
     unfold rdOf
     rw [List.getD_eq_getElem?_getD, show (j : Int).toNat = j from rfl, List.getElem?_eq_getElem hj1]; rfl
    rw [hel0, hel1] at H
    simp only [impl_entrySame.vals] at H
    obtain ⟨b, Ab0, H⟩ := Option.bind_eq_some_iff.1 H
    have Ab := Aside0.mk Ab0
    clear Ab0 hel0 hel1
    have d1i := eq_true d1
    have d2i := eq_true d2
    have HJ := Aside0.mk hj
    clear hj hj1 d1 d2
    cases b with
    | true =>
     simp only [if_true] at H
     have HN := Aside0.mk H
     clear H
     go_wp2_with (go_at_call 146; (with_reducible refine (impl_entrySame.val_calls k _ _ true _ Ab.out).mono ?_); rintro e w5 ⟨rfl, hb⟩; have n9_ := Aside0.mk (below_step HB.out hb); clear HB; have HB := n9_; clear n9_; clear hb)
     go_roundg (l0.length - (j + 1))
     case measure => have := HK.out; have := HJ.out; omega
     case rel => exact ⟨j + 1, by have hb := HR0.out.2.1; have := HJ.out; first | rfl | go_num | (congr 1; unfold wrap64; omega), HN, ⟨Nat.le_refl _⟩, HB⟩
    | false =>
     simp only [Bool.false_eq_true, if_false] at H
     obtain rfl := Option.some.inj H
     go_wp2_with (go_at_call 146; (with_reducible refine (impl_entrySame.val_calls k _ _ false _ Ab.out).mono ?_); rintro e w5 ⟨rfl, hb⟩; have n9_ := Aside0.mk (below_step HB.out hb); clear HB; have HB := n9_; clear n9_; clear hb)
     go_ret
     exact ⟨by first | rfl | (simp; done) | (simp [*]; done), HBa⟩
   ·have d1b0 : decide ((j : Int) < (l0.length : Int)) = false := decide_eq_false d1
    have d1b1 : decide (j < l0.length) = false := decide_eq_false (by omega)
    have H := HA.out
    rw [List.drop_of_length_le (by omega)] at H
    simp only [impl_entrySame.vals] at H
    obtain rfl := Option.some.inj H
    clear d1
    go_wp2
    go_ret
    exact ⟨rfl, HB.out⟩
 ·rw [if_neg cl] at h
  have clb0 : ((l0.length : Int) == (l1.length : Int)) = false := beq_eq_false_iff_ne.mpr (by omega)
  have clb1 : ((l0.length : Int) != (l1.length : Int)) = true := bne_iff_ne.mpr (by omega)
  have clb2 : (l0.length == l1.length) = false := beq_eq_false_iff_ne.mpr cl
  have clb3 : (l0.length != l1.length) = true := bne_iff_ne.mpr cl
  obtain rfl := Option.some.inj h
  clear cl
  go_enter Tryd.func145, Tryd.ntmps145
  go_wp2
  go_ret
  exact ⟨rfl, HB.out⟩
set_option maxHeartbeats 8000000 in
set_option maxRecDepth 100000 in
theorem impl_entrySame.attr_calls (k : Nat) (a0 : ByteArray) (A0 : Option Addr) (c0 : Nat) (l0 : List ByteArray) (a1 : ByteArray) (A1 : Option Addr) (c1 : Nat) (l1 : List ByteArray) (r : Bool) (w : World) (hr0 : Kd.C Kd.string w A0 l0.length l0) (hr1 : Kd.C Kd.string w A1 l1.length l1) (h : impl_entrySame.attr k a0 l0 a1 l1 = some r) :
  Calls Tryd.prog 144 #[.agg #[.string a0, .slice A0 l0.length c0], .agg #[.string a1, .slice A1 l1.length c1]] w fun e w' => e = .returned (.bool r) ∧ Below w.heap.size w w' := by
 have hu := Tryd.underlying114
 have HR0 := Aside0.mk hr0
 have HR1 := Aside0.mk hr1
 clear hr0 hr1
 have HB := Aside0.mk (Below.refl w.heap.size w)
 unfold impl_entrySame.attr at h
 by_cases ca : a0.toList = a1.toList
 ·rw [if_pos ca] at h
  have cab0 : (a0.toList == a1.toList) = true := beq_iff_eq.mpr ca
  have cab1 : (a0.toList != a1.toList) = false := bne_eq_false_iff_eq.mpr ca
  have AE := Aside0.mk h
  clear h ca
  go_enter Tryd.func144, Tryd.ntmps144
  go_wp2_with (first | ((with_reducible refine gate_dst (N := 2) rfl ?_); (try (refine gate_guard (by rfl) ?_; dsimp only)); refine box_event ?hg (N := 2) ?hd (cs := #[.string a0, .slice A0 l0.length c0]) (t := 114) ?hr ?_; (case hd => rfl); (case hg => rfl); (case hr => first | (go_simp; done) | (go_simp; rfl)); intro ga hg w3 hbox hb; have Gga := Aside0.mk ((by rw [hg]; exact (below_size HB.out)) : w.heap.size ≤ ga); have n9_ := Aside0.mk (below_step HB.out hb); clear HB; have HB := n9_; clear n9_; have Bga := Aside0.mk hbox; clear hb hbox hg; have hcgaw30 : w3.cell? ⟨ga, 0, none⟩ = some (.string a0) := (blk_cell Bga.out 0).trans rfl; have hfgaw30 := blk_frozen Bga.out 0; have hcgaw31 : w3.cell? ⟨ga, 1, none⟩ = some (.slice A0 l0.length c0) := (blk_cell Bga.out 1).trans rfl; have hfgaw31 := blk_frozen Bga.out 1) | ((with_reducible refine gate_dst (N := 3) rfl ?_); (try (refine gate_guard (by rfl) ?_; dsimp only)); refine box_event ?hg (N := 3) ?hd (cs := #[.string a1, .slice A1 l1.length c1]) (t := 114) ?hr ?_; (case hd => rfl); (case hg => rfl); (case hr => first | (go_simp; done) | (go_simp; rfl)); intro gb hg w4 hbox hb; have Ggb := Aside0.mk ((by rw [hg]; exact (below_size HB.out)) : w.heap.size ≤ gb); have Nga_gb := Aside0.mk ((by rw [hg]; exact Nat.ne_of_lt (blk_lt (g := ga) (o := .cells #[.string a0, .slice A0 l0.length c0] 114 (0, 0)) Bga.out)) : ga ≠ gb); have n0_ := Aside0.mk (blk_below (g := ga) (o := .cells #[.string a0, .slice A0 l0.length c0] 114 (0, 0)) Bga.out hb); clear Bga; have Bga := n0_; clear n0_; have n9_ := Aside0.mk (below_step HB.out hb); clear HB; have HB := n9_; clear n9_; have Bgb := Aside0.mk hbox; clear hb hbox hg; have hcgaw40 : w4.cell? ⟨ga, 0, none⟩ = some (.string a0) := (blk_cell Bga.out 0).trans rfl; have hfgaw40 := blk_frozen Bga.out 0; have hcgaw41 : w4.cell? ⟨ga, 1, none⟩ = some (.slice A0 l0.length c0) := (blk_cell Bga.out 1).trans rfl; have hfgaw41 := blk_frozen Bga.out 1; have hcgbw40 : w4.cell? ⟨gb, 0, none⟩ = some (.string a1) := (blk_cell Bgb.out 0).trans rfl; have hfgbw40 := blk_frozen Bgb.out 0; have hcgbw41 : w4.cell? ⟨gb, 1, none⟩ = some (.slice A1 l1.length c1) := (blk_cell Bgb.out 1).trans rfl; have hfgbw41 := blk_frozen Bgb.out 1) | (go_at_call 145; (with_reducible refine (impl_entrySame.vals_calls k _ _ _ _ _ _ r _ ?s0 ?s1 AE.out).mono ?_); (case s0 => exact KCz (Kd.C_below HR0.out HB.out)); (case s1 => exact KCz (Kd.C_below HR1.out HB.out)); rintro e w9 ⟨rfl, hb⟩; have n9_ := Aside0.mk (below_step HB.out hb); clear HB; have HB := n9_; clear n9_; clear hb))
  go_ret
  exact ⟨by first | rfl | (simp; done) | (simp [*]; done), HBa⟩
 ·rw [if_neg ca] at h
  have cab0 : (a0.toList == a1.toList) = false := beq_eq_false_iff_ne.mpr ca
  have cab1 : (a0.toList != a1.toList) = true := bne_iff_ne.mpr ca
  obtain rfl := Option.some.inj h
  clear ca
  go_enter Tryd.func144, Tryd.ntmps144
  go_wp2_with (first | ((with_reducible refine gate_dst (N := 2) rfl ?_); (try (refine gate_guard (by rfl) ?_; dsimp only)); refine box_event ?hg (N := 2) ?hd (cs := #[.string a0, .slice A0 l0.length c0]) (t := 114) ?hr ?_; (case hd => rfl); (case hg => rfl); (case hr => first | (go_simp; done) | (go_simp; rfl)); intro ga hg w3 hbox hb; have Gga := Aside0.mk ((by rw [hg]; exact (below_size HB.out)) : w.heap.size ≤ ga); have n9_ := Aside0.mk (below_step HB.out hb); clear HB; have HB := n9_; clear n9_; have Bga := Aside0.mk hbox; clear hb hbox hg; have hcgaw30 : w3.cell? ⟨ga, 0, none⟩ = some (.string a0) := (blk_cell Bga.out 0).trans rfl; have hfgaw30 := blk_frozen Bga.out 0; have hcgaw31 : w3.cell? ⟨ga, 1, none⟩ = some (.slice A0 l0.length c0) := (blk_cell Bga.out 1).trans rfl; have hfgaw31 := blk_frozen Bga.out 1) | ((with_reducible refine gate_dst (N := 3) rfl ?_); (try (refine gate_guard (by rfl) ?_; dsimp only)); refine box_event ?hg (N := 3) ?hd (cs := #[.string a1, .slice A1 l1.length c1]) (t := 114) ?hr ?_; (case hd => rfl); (case hg => rfl); (case hr => first | (go_simp; done) | (go_simp; rfl)); intro gb hg w4 hbox hb; have Ggb := Aside0.mk ((by rw [hg]; exact (below_size HB.out)) : w.heap.size ≤ gb); have Nga_gb := Aside0.mk ((by rw [hg]; exact Nat.ne_of_lt (blk_lt (g := ga) (o := .cells #[.string a0, .slice A0 l0.length c0] 114 (0, 0)) Bga.out)) : ga ≠ gb); have n0_ := Aside0.mk (blk_below (g := ga) (o := .cells #[.string a0, .slice A0 l0.length c0] 114 (0, 0)) Bga.out hb); clear Bga; have Bga := n0_; clear n0_; have n9_ := Aside0.mk (below_step HB.out hb); clear HB; have HB := n9_; clear n9_; have Bgb := Aside0.mk hbox; clear hb hbox hg; have hcgaw40 : w4.cell? ⟨ga, 0, none⟩ = some (.string a0) := (blk_cell Bga.out 0).trans rfl; have hfgaw40 := blk_frozen Bga.out 0; have hcgaw41 : w4.cell? ⟨ga, 1, none⟩ = some (.slice A0 l0.length c0) := (blk_cell Bga.out 1).trans rfl; have hfgaw41 := blk_frozen Bga.out 1; have hcgbw40 : w4.cell? ⟨gb, 0, none⟩ = some (.string a1) := (blk_cell Bgb.out 0).trans rfl; have hfgbw40 := blk_frozen Bgb.out 0; have hcgbw41 : w4.cell? ⟨gb, 1, none⟩ = some (.slice A1 l1.length c1) := (blk_cell Bgb.out 1).trans rfl; have hfgbw41 := blk_frozen Bgb.out 1))
  go_ret
  exact ⟨by first | rfl | (simp; done) | (simp [*]; done), HBa⟩
set_option maxHeartbeats 8000000 in
set_option maxRecDepth 100000 in
theorem impl_entrySame.attrs_calls (k : Nat) (A0 : Option Addr) (c0 : Nat) (l0 : List (S114)) (A1 : Option Addr) (c1 : Nat) (l1 : List (S114)) (r : Bool) (w : World) (hr0 : Kd.C k114 w A0 l0.length l0) (hr1 : Kd.C k114 w A1 l1.length l1) (h : impl_entrySame.eqa k l0 l1 = some r) :
  Calls Tryd.prog 143 #[.slice A0 l0.length c0, .slice A1 l1.length c1, .func (.func 144) #[] #[]] w fun e w' => e = .returned (.bool r) ∧ Below w.heap.size w w' := by
 have hu := Tryd.underlying114
 have HR0 := Aside0.mk hr0
 have HR1 := Aside0.mk hr1
 clear hr0 hr1
 have HB := Aside0.mk (Below.refl w.heap.size w)
 unfold impl_entrySame.eqa at h
 by_cases cl : l0.length = l1.length
 ·rw [if_pos cl] at h
  have clb0 : ((l0.length : Int) == (l1.length : Int)) = true := beq_iff_eq.mpr (by rw [cl])
  have clb1 : ((l0.length : Int) != (l1.length : Int)) = false := bne_eq_false_iff_eq.mpr (by rw [cl])
  have clb2 : (l0.length == l1.length) = true := beq_iff_eq.mpr cl
  have clb3 : (l0.length != l1.length) = false := bne_eq_false_iff_eq.mpr cl
  have CL := Aside0.mk cl
  have H' := Aside0.mk h
  clear h cl
  go_enter Tryd.func143, Tryd.ntmps143
  go_wp2
  go_loopg [17] l0.length (fun kq v17 w' => ∃ j : Nat, v17 = .int .i64 (j : Int) ∧ Aside0 (impl_entrySame.attrs k (l0.drop j) (l1.drop j) = some r) ∧ Aside0 (l0.length - j ≤ kq) ∧ Aside0 (Below w.heap.size w w'))
  case atStart => exact ⟨0, rfl, H', ⟨by omega⟩, HB⟩
  case round =>
   clear H'
   obtain ⟨j, rfl, HA, HK, HB⟩ := hrel
   by_cases d1 : (j : Int) < (l0.length : Int)
   ·have d1b0 : decide ((j : Int) < (l0.length : Int)) = true := decide_eq_true d1
    have d1b1 : decide (j < l0.length) = true := decide_eq_true (by omega)
    have d2 : (j : Int) < (l1.length : Int) := by have := CL.out; omega
    have d2b0 : decide ((j : Int) < (l1.length : Int)) = true := decide_eq_true d2
    have d2b1 : decide (j < l1.length) = true := decide_eq_true (by omega)
    have H := HA.out
    clear HA
    have hj : j < l0.length := by omega
    have hj1 : j < l1.length := by omega
    have p1 : 0 ≤ (j : Int) := by omega
    obtain ⟨ad1, D1, e1, f1, hx1_0, hx1_1, m1, g1⟩ := at_T114 HR0.out (j : Int) p1 d1
    cases f1
    have hx1_0' := hx1_0
    replace hx1_0 := HXz HB hx1_0
    have hx1_1' := hx1_1
    replace hx1_1 := HXz HB hx1_1
    simp only [Int.toNat_natCast] at hx1_0 hx1_1 hx1_0' hx1_1'
    have X10 := Aside0.mk hx1_0'
    have X11 := Aside0.mk hx1_1'
    have G1 := Aside0.mk g1
    have M1 := Aside0.mk m1
    clear g1 m1 hx1_0' hx1_1'
    obtain ⟨ad2, D2, e2, f2, hx2_0, hx2_1, m2, g2⟩ := at_T114 HR1.out (j : Int) p1 d2
    cases f2
    have hx2_0' := hx2_0
    replace hx2_0 := HXz HB hx2_0
    have hx2_1' := hx2_1
    replace hx2_1 := HXz HB hx2_1
    simp only [Int.toNat_natCast] at hx2_0 hx2_1 hx2_0' hx2_1'
    have X20 := Aside0.mk hx2_0'
    have X21 := Aside0.mk hx2_1'
    have G2 := Aside0.mk g2
    have M2 := Aside0.mk m2
    clear g2 m2 hx2_0' hx2_1'
    have hel0 : l0.drop j = rd_T114 l0 (j : Int) :: l0.drop (j + 1) := by
     rw [List.drop_eq_getElem_cons hj]
     congr 1
     unfold rd_T114
     rw [List.getD_eq_getElem?_getD, show (j : Int).toNat = j from rfl, List.getElem?_eq_getElem hj]; rfl
    have hel1 : l1.drop j = rd_T114 l1 (j : Int) :: l1.drop (j + 1) := by
     rw [List.drop_eq_getElem_cons hj1]
     congr 1
     unfold rd_T114
     rw [List.getD_eq_getElem?_getD, show (j : Int).toNat = j from rfl, List.getElem?_eq_getElem hj1]; rfl
    rw [hel0, hel1] at H
    simp only [impl_entrySame.attrs] at H
    obtain ⟨b, Ab0, H⟩ := Option.bind_eq_some_iff.1 H
    have Ab := Aside0.mk Ab0
    clear Ab0 hel0 hel1
    have d1i := eq_true d1
    have d2i := eq_true d2
    have HJ := Aside0.mk hj
    clear hj hj1 d1 d2
    cases b with
    | true =>
     simp only [if_true] at H
     have HN := Aside0.mk H
     clear H
     go_upto_region 6 with ((with_reducible refine gate_dst (N := 8) rfl ?_); (try (refine gate_guard (by rfl) ?_; dsimp only)); refine box_event ?hg (N := 8) ?hd (cs := #[.string (⟨#[]⟩ : ByteArray), .slice none 0 0]) (t := 114) ?hr ?_; (case hd => rfl); (case hg => rfl); (case hr => first | (go_simp; done) | (go_simp; rfl)); intro ga hg w25 hbox hb; have Gga := Aside0.mk ((by rw [hg]; exact (below_size HB.out)) : w.heap.size ≤ ga); have n9_ := Aside0.mk (below_step HB.out hb); clear HB; have HB := n9_; clear n9_; have Bga := Aside0.mk hbox; clear hb hbox hg; have hcgaw250 : w25.cell? ⟨ga, 0, none⟩ = some (.string (⟨#[]⟩ : ByteArray)) := (blk_cell Bga.out 0).trans rfl; have hfgaw250 := blk_frozen Bga.out 0; have hcgaw251 : w25.cell? ⟨ga, 1, none⟩ = some (.slice none 0 0) := (blk_cell Bga.out 1).trans rfl; have hfgaw251 := blk_frozen Bga.out 1)
     have n0_ : Aside0 (((w25.setCell ⟨ga, 0, none⟩ (.string ((rd_T114 l0 (j : Int)).f0))).setCell ⟨ga, 1, none⟩ (.slice D1 ((rd_T114 l0 (j : Int)).f1).length e1)).heap[ga]? = some (.cells #[.string ((rd_T114 l0 (j : Int)).f0), .slice D1 ((rd_T114 l0 (j : Int)).f1).length e1] 114 (0, 0))) := ⟨blk_put (cs := #[.string ((rd_T114 l0 (j : Int)).f0), .slice none 0 0]) (blk_put (cs := #[.string (⟨#[]⟩ : ByteArray), .slice none 0 0]) Bga.out 0 _ rfl) 1 _ rfl⟩
     have n1_ : Aside0 (Below w.heap.size w ((w25.setCell ⟨ga, 0, none⟩ (.string ((rd_T114 l0 (j : Int)).f0))).setCell ⟨ga, 1, none⟩ (.slice D1 ((rd_T114 l0 (j : Int)).f1).length e1))) := ⟨below_set (below_set HB.out Gga.out) Gga.out⟩
     clear HB Bga 
     generalize ((w25.setCell ⟨ga, 0, none⟩ (.string ((rd_T114 l0 (j : Int)).f0))).setCell ⟨ga, 1, none⟩ (.slice D1 ((rd_T114 l0 (j : Int)).f1).length e1)) = w26 at n0_ n1_ ⊢
     have Bga := n0_
     have HB := n1_
     clear n0_ n1_
     have hcgaw260 : w26.cell? ⟨ga, 0, none⟩ = some (.string ((rd_T114 l0 (j : Int)).f0)) := (blk_cell Bga.out 0).trans rfl
     have hfgaw260 := blk_frozen Bga.out 0
     have hcgaw261 : w26.cell? ⟨ga, 1, none⟩ = some (.slice D1 ((rd_T114 l0 (j : Int)).f1).length e1) := (blk_cell Bga.out 1).trans rfl
     have hfgaw261 := blk_frozen Bga.out 1
     have hy2_0 := (HB.out.cell (World.block_lt_of_cell? w _ X20.out)).trans X20.out
     have hy2_1 := (HB.out.cell (World.block_lt_of_cell? w _ X21.out)).trans X21.out
     go_upto_region 7 with ((with_reducible refine gate_dst (N := 9) rfl ?_); (try (refine gate_guard (by rfl) ?_; dsimp only)); refine box_event ?hg (N := 9) ?hd (cs := #[.string (⟨#[]⟩ : ByteArray), .slice none 0 0]) (t := 114) ?hr ?_; (case hd => rfl); (case hg => rfl); (case hr => first | (go_simp; done) | (go_simp; rfl)); intro gb hg w27 hbox hb; have Ggb := Aside0.mk ((by rw [hg]; exact (below_size HB.out)) : w.heap.size ≤ gb); have Nga_gb := Aside0.mk ((by rw [hg]; exact Nat.ne_of_lt (blk_lt (g := ga) (o := .cells #[.string ((rd_T114 l0 (j : Int)).f0), .slice D1 ((rd_T114 l0 (j : Int)).f1).length e1] 114 (0, 0)) Bga.out)) : ga ≠ gb); have n0_ := Aside0.mk (blk_below (g := ga) (o := .cells #[.string ((rd_T114 l0 (j : Int)).f0), .slice D1 ((rd_T114 l0 (j : Int)).f1).length e1] 114 (0, 0)) Bga.out hb); clear Bga; have Bga := n0_; clear n0_; have n9_ := Aside0.mk (below_step HB.out hb); clear HB; have HB := n9_; clear n9_; have Bgb := Aside0.mk hbox; clear hb hbox hg; have hcgaw270 : w27.cell? ⟨ga, 0, none⟩ = some (.string ((rd_T114 l0 (j : Int)).f0)) := (blk_cell Bga.out 0).trans rfl; have hfgaw270 := blk_frozen Bga.out 0; have hcgaw271 : w27.cell? ⟨ga, 1, none⟩ = some (.slice D1 ((rd_T114 l0 (j : Int)).f1).length e1) := (blk_cell Bga.out 1).trans rfl; have hfgaw271 := blk_frozen Bga.out 1; have hcgbw270 : w27.cell? ⟨gb, 0, none⟩ = some (.string (⟨#[]⟩ : ByteArray)) := (blk_cell Bgb.out 0).trans rfl; have hfgbw270 := blk_frozen Bgb.out 0; have hcgbw271 : w27.cell? ⟨gb, 1, none⟩ = some (.slice none 0 0) := (blk_cell Bgb.out 1).trans rfl; have hfgbw271 := blk_frozen Bgb.out 1)
     have n0_ : Aside0 (((w27.setCell ⟨gb, 0, none⟩ (.string ((rd_T114 l1 (j : Int)).f0))).setCell ⟨gb, 1, none⟩ (.slice D2 ((rd_T114 l1 (j : Int)).f1).length e2)).heap[gb]? = some (.cells #[.string ((rd_T114 l1 (j : Int)).f0), .slice D2 ((rd_T114 l1 (j : Int)).f1).length e2] 114 (0, 0))) := ⟨blk_put (cs := #[.string ((rd_T114 l1 (j : Int)).f0), .slice none 0 0]) (blk_put (cs := #[.string (⟨#[]⟩ : ByteArray), .slice none 0 0]) Bgb.out 0 _ rfl) 1 _ rfl⟩
     have n1_ : Aside0 (Below w.heap.size w ((w27.setCell ⟨gb, 0, none⟩ (.string ((rd_T114 l1 (j : Int)).f0))).setCell ⟨gb, 1, none⟩ (.slice D2 ((rd_T114 l1 (j : Int)).f1).length e2))) := ⟨below_set (below_set HB.out Ggb.out) Ggb.out⟩
     have n2_ : Aside0 (((w27.setCell ⟨gb, 0, none⟩ (.string ((rd_T114 l1 (j : Int)).f0))).setCell ⟨gb, 1, none⟩ (.slice D2 ((rd_T114 l1 (j : Int)).f1).length e2)).heap[ga]? = some (.cells #[.string ((rd_T114 l0 (j : Int)).f0), .slice D1 ((rd_T114 l0 (j : Int)).f1).length e1] 114 (0, 0))) := ⟨blk_far (blk_far Bga.out Nga_gb.out _) Nga_gb.out _⟩
     clear HB Bgb Bga
     generalize ((w27.setCell ⟨gb, 0, none⟩ (.string ((rd_T114 l1 (j : Int)).f0))).setCell ⟨gb, 1, none⟩ (.slice D2 ((rd_T114 l1 (j : Int)).f1).length e2)) = w28 at n0_ n1_ n2_ ⊢
     have Bgb := n0_
     have HB := n1_
     have Bga := n2_
     clear n0_ n1_ n2_
     have hcgbw280 : w28.cell? ⟨gb, 0, none⟩ = some (.string ((rd_T114 l1 (j : Int)).f0)) := (blk_cell Bgb.out 0).trans rfl
     have hfgbw280 := blk_frozen Bgb.out 0
     have hcgbw281 : w28.cell? ⟨gb, 1, none⟩ = some (.slice D2 ((rd_T114 l1 (j : Int)).f1).length e2) := (blk_cell Bgb.out 1).trans rfl
     have hfgbw281 := blk_frozen Bgb.out 1
     have hcgaw280 : w28.cell? ⟨ga, 0, none⟩ = some (.string ((rd_T114 l0 (j : Int)).f0)) := (blk_cell Bga.out 0).trans rfl
     have hfgaw280 := blk_frozen Bga.out 0
     have hcgaw281 : w28.cell? ⟨ga, 1, none⟩ = some (.slice D1 ((rd_T114 l0 (j : Int)).f1).length e1) := (blk_cell Bga.out 1).trans rfl
     have hfgaw281 := blk_frozen Bga.out 1
     go_wp2_with (go_at_call 144; (with_reducible refine (impl_entrySame.attr_calls k _ _ _ _ _ _ _ _ true _ ?s0 ?s1 Ab.out).mono ?_); (case s0 => exact KCz (Kd.C_below G1.out HB.out)); (case s1 => exact KCz (Kd.C_below G2.out HB.out)); rintro e w29 ⟨rfl, hb⟩; have n9_ := Aside0.mk (below_step HB.out hb); clear HB; have HB := n9_; clear n9_; clear hb)
     go_roundg (l0.length - (j + 1))
     case measure => have := HK.out; have := HJ.out; omega
     case rel => exact ⟨j + 1, by have hb := HR0.out.2.1; have := HJ.out; first | rfl | go_num | (congr 1; unfold wrap64; omega), HN, ⟨Nat.le_refl _⟩, HB⟩
    | false =>
     simp only [Bool.false_eq_true, if_false] at H
     obtain rfl := Option.some.inj H
     go_upto_region 6 with ((with_reducible refine gate_dst (N := 8) rfl ?_); (try (refine gate_guard (by rfl) ?_; dsimp only)); refine box_event ?hg (N := 8) ?hd (cs := #[.string (⟨#[]⟩ : ByteArray), .slice none 0 0]) (t := 114) ?hr ?_; (case hd => rfl); (case hg => rfl); (case hr => first | (go_simp; done) | (go_simp; rfl)); intro ga hg w25 hbox hb; have Gga := Aside0.mk ((by rw [hg]; exact (below_size HB.out)) : w.heap.size ≤ ga); have n9_ := Aside0.mk (below_step HB.out hb); clear HB; have HB := n9_; clear n9_; have Bga := Aside0.mk hbox; clear hb hbox hg; have hcgaw250 : w25.cell? ⟨ga, 0, none⟩ = some (.string (⟨#[]⟩ : ByteArray)) := (blk_cell Bga.out 0).trans rfl; have hfgaw250 := blk_frozen Bga.out 0; have hcgaw251 : w25.cell? ⟨ga, 1, none⟩ = some (.slice none 0 0) := (blk_cell Bga.out 1).trans rfl; have hfgaw251 := blk_frozen Bga.out 1)
     have n0_ : Aside0 (((w25.setCell ⟨ga, 0, none⟩ (.string ((rd_T114 l0 (j : Int)).f0))).setCell ⟨ga, 1, none⟩ (.slice D1 ((rd_T114 l0 (j : Int)).f1).length e1)).heap[ga]? = some (.cells #[.string ((rd_T114 l0 (j : Int)).f0), .slice D1 ((rd_T114 l0 (j : Int)).f1).length e1] 114 (0, 0))) := ⟨blk_put (cs := #[.string ((rd_T114 l0 (j : Int)).f0), .slice none 0 0]) (blk_put (cs := #[.string (⟨#[]⟩ : ByteArray), .slice none 0 0]) Bga.out 0 _ rfl) 1 _ rfl⟩
     have n1_ : Aside0 (Below w.heap.size w ((w25.setCell ⟨ga, 0, none⟩ (.string ((rd_T114 l0 (j : Int)).f0))).setCell ⟨ga, 1, none⟩ (.slice D1 ((rd_T114 l0 (j : Int)).f1).length e1))) := ⟨below_set (below_set HB.out Gga.out) Gga.out⟩
     clear HB Bga 
     generalize ((w25.setCell ⟨ga, 0, none⟩ (.string ((rd_T114 l0 (j : Int)).f0))).setCell ⟨ga, 1, none⟩ (.slice D1 ((rd_T114 l0 (j : Int)).f1).length e1)) = w26 at n0_ n1_ ⊢
     have Bga := n0_
     have HB := n1_
     clear n0_ n1_
     have hcgaw260 : w26.cell? ⟨ga, 0, none⟩ = some (.string ((rd_T114 l0 (j : Int)).f0)) := (blk_cell Bga.out 0).trans rfl
     have hfgaw260 := blk_frozen Bga.out 0
     have hcgaw261 : w26.cell? ⟨ga, 1, none⟩ = some (.slice D1 ((rd_T114 l0 (j : Int)).f1).length e1) := (blk_cell Bga.out 1).trans rfl
     have hfgaw261 := blk_frozen Bga.out 1
     have hy2_0 := (HB.out.cell (World.block_lt_of_cell? w _ X20.out)).trans X20.out
     have hy2_1 := (HB.out.cell (World.block_lt_of_cell? w _ X21.out)).trans X21.out
     go_upto_region 7 with ((with_reducible refine gate_dst (N := 9) rfl ?_); (try (refine gate_guard (by rfl) ?_; dsimp only)); refine box_event ?hg (N := 9) ?hd (cs := #[.string (⟨#[]⟩ : ByteArray), .slice none 0 0]) (t := 114) ?hr ?_; (case hd => rfl); (case hg => rfl); (case hr => first | (go_simp; done) | (go_simp; rfl)); intro gb hg w27 hbox hb; have Ggb := Aside0.mk ((by rw [hg]; exact (below_size HB.out)) : w.heap.size ≤ gb); have Nga_gb := Aside0.mk ((by rw [hg]; exact Nat.ne_of_lt (blk_lt (g := ga) (o := .cells #[.string ((rd_T114 l0 (j : Int)).f0), .slice D1 ((rd_T114 l0 (j : Int)).f1).length e1] 114 (0, 0)) Bga.out)) : ga ≠ gb); have n0_ := Aside0.mk (blk_below (g := ga) (o := .cells #[.string ((rd_T114 l0 (j : Int)).f0), .slice D1 ((rd_T114 l0 (j : Int)).f1).length e1] 114 (0, 0)) Bga.out hb); clear Bga; have Bga := n0_; clear n0_; have n9_ := Aside0.mk (below_step HB.out hb); clear HB; have HB := n9_; clear n9_; have Bgb := Aside0.mk hbox; clear hb hbox hg; have hcgaw270 : w27.cell? ⟨ga, 0, none⟩ = some (.string ((rd_T114 l0 (j : Int)).f0)) := (blk_cell Bga.out 0).trans rfl; have hfgaw270 := blk_frozen Bga.out 0; have hcgaw271 : w27.cell? ⟨ga, 1, none⟩ = some (.slice D1 ((rd_T114 l0 (j : Int)).f1).length e1) := (blk_cell Bga.out 1).trans rfl; have hfgaw271 := blk_frozen Bga.out 1; have hcgbw270 : w27.cell? ⟨gb, 0, none⟩ = some (.string (⟨#[]⟩ : ByteArray)) := (blk_cell Bgb.out 0).trans rfl; have hfgbw270 := blk_frozen Bgb.out 0; have hcgbw271 : w27.cell? ⟨gb, 1, none⟩ = some (.slice none 0 0) := (blk_cell Bgb.out 1).trans rfl; have hfgbw271 := blk_frozen Bgb.out 1)
     have n0_ : Aside0 (((w27.setCell ⟨gb, 0, none⟩ (.string ((rd_T114 l1 (j : Int)).f0))).setCell ⟨gb, 1, none⟩ (.slice D2 ((rd_T114 l1 (j : Int)).f1).length e2)).heap[gb]? = some (.cells #[.string ((rd_T114 l1 (j : Int)).f0), .slice D2 ((rd_T114 l1 (j : Int)).f1).length e2] 114 (0, 0))) := ⟨blk_put (cs := #[.string ((rd_T114 l1 (j : Int)).f0), .slice none 0 0]) (blk_put (cs := #[.string (⟨#[]⟩ : ByteArray), .slice none 0 0]) Bgb.out 0 _ rfl) 1 _ rfl⟩
     have n1_ : Aside0 (Below w.heap.size w ((w27.setCell ⟨gb, 0, none⟩ (.string ((rd_T114 l1 (j : Int)).f0))).setCell ⟨gb, 1, none⟩ (.slice D2 ((rd_T114 l1 (j : Int)).f1).length e2))) := ⟨below_set (below_set HB.out Ggb.out) Ggb.out⟩
     have n2_ : Aside0 (((w27.setCell ⟨gb, 0, none⟩ (.string ((rd_T114 l1 (j : Int)).f0))).setCell ⟨gb, 1, none⟩ (.slice D2 ((rd_T114 l1 (j : Int)).f1).length e2)).heap[ga]? = some (.cells #[.string ((rd_T114 l0 (j : Int)).f0), .slice D1 ((rd_T114 l0 (j : Int)).f1).length e1] 114 (0, 0))) := ⟨blk_far (blk_far Bga.out Nga_gb.out _) Nga_gb.out _⟩
     clear HB Bgb Bga
     generalize ((w27.setCell ⟨gb, 0, none⟩ (.string ((rd_T114 l1 (j : Int)).f0))).setCell ⟨gb, 1, none⟩ (.slice D2 ((rd_T114 l1 (j : Int)).f1).length e2)) = w28 at n0_ n1_ n2_ ⊢
     have Bgb := n0_
     have HB := n1_
     have Bga := n2_
     clear n0_ n1_ n2_
     have hcgbw280 : w28.cell? ⟨gb, 0, none⟩ = some (.string ((rd_T114 l1 (j : Int)).f0)) := (blk_cell Bgb.out 0).trans rfl
     have hfgbw280 := blk_frozen Bgb.out 0
     have hcgbw281 : w28.cell? ⟨gb, 1, none⟩ = some (.slice D2 ((rd_T114 l1 (j : Int)).f1).length e2) := (blk_cell Bgb.out 1).trans rfl
     have hfgbw281 := blk_frozen Bgb.out 1
     have hcgaw280 : w28.cell? ⟨ga, 0, none⟩ = some (.string ((rd_T114 l0 (j : Int)).f0)) := (blk_cell Bga.out 0).trans rfl
     have hfgaw280 := blk_frozen Bga.out 0
     have hcgaw281 : w28.cell? ⟨ga, 1, none⟩ = some (.slice D1 ((rd_T114 l0 (j : Int)).f1).length e1) := (blk_cell Bga.out 1).trans rfl
     have hfgaw281 := blk_frozen Bga.out 1
     go_wp2_with (go_at_call 144; (with_reducible refine (impl_entrySame.attr_calls k _ _ _ _ _ _ _ _ false _ ?s0 ?s1 Ab.out).mono ?_); (case s0 => exact KCz (Kd.C_below G1.out HB.out)); (case s1 => exact KCz (Kd.C_below G2.out HB.out)); rintro e w29 ⟨rfl, hb⟩; have n9_ := Aside0.mk (below_step HB.out hb); clear HB; have HB := n9_; clear n9_; clear hb)
     go_ret
     exact ⟨by first | rfl | (simp; done) | (simp [*]; done), HBa⟩
   ·have d1b0 : decide ((j : Int) < (l0.length : Int)) = false := decide_eq_false d1
    have d1b1 : decide (j < l0.length) = false := decide_eq_false (by omega)
    have H := HA.out
    rw [List.drop_of_length_le (by omega)] at H
    simp only [impl_entrySame.attrs] at H
    obtain rfl := Option.some.inj H
    clear d1
    go_wp2
    go_ret
    exact ⟨rfl, HB.out⟩
 ·rw [if_neg cl] at h
  have clb0 : ((l0.length : Int) == (l1.length : Int)) = false := beq_eq_false_iff_ne.mpr (by omega)
  have clb1 : ((l0.length : Int) != (l1.length : Int)) = true := bne_iff_ne.mpr (by omega)
  have clb2 : (l0.length == l1.length) = false := beq_eq_false_iff_ne.mpr cl
  have clb3 : (l0.length != l1.length) = true := bne_iff_ne.mpr cl
  obtain rfl := Option.some.inj h
  clear cl
  go_enter Tryd.func143, Tryd.ntmps143
  go_wp2
  go_ret
  exact ⟨rfl, HB.out⟩
set_option maxHeartbeats 8000000 in
set_option maxRecDepth 100000 in
theorem impl_entrySame.calls (k : Nat) (A0_0 : Option Addr) (c0_0 : Nat) (l0_0 : List (S42)) (A0_1 : Option Addr) (c0_1 : Nat) (l0_1 : List (S114)) (A1_0 : Option Addr) (c1_0 : Nat) (l1_0 : List (S42)) (A1_1 : Option Addr) (c1_1 : Nat) (l1_1 : List (S114)) (r : Bool) (w : World) (hr0_0 : Kd.C k42 w A0_0 l0_0.length l0_0) (hc0_0 : l0_0.length ≤ c0_0) (hr0_1 : Kd.C k114 w A0_1 l0_1.length l0_1) (hc0_1 : l0_1.length ≤ c0_1) (hr1_0 : Kd.C k42 w A1_0 l1_0.length l1_0) (hc1_0 : l1_0.length ≤ c1_0) (hr1_1 : Kd.C k114 w A1_1 l1_1.length l1_1) (hc1_1 : l1_1.length ≤ c1_1) (h : impl_entrySame.f k l0_0 l0_1 l1_0 l1_1 = some r) :
  Calls Tryd.prog 112 #[.agg #[.slice A0_0 l0_0.length c0_0, .slice A0_1 l0_1.length c0_1], .agg #[.slice A1_0 l1_0.length c1_0, .slice A1_1 l1_1.length c1_1]] w fun e w' => e = .returned (.bool r) ∧ Below w.heap.size w w' := by
 have hu := Tryd.underlying71
 have HR00 := Aside0.mk hr0_0
 have HC00 := Aside0.mk hc0_0
 clear hr0_0 hc0_0
 have HR01 := Aside0.mk hr0_1
 have HC01 := Aside0.mk hc0_1
 clear hr0_1 hc0_1
 have HR10 := Aside0.mk hr1_0
 have HC10 := Aside0.mk hc1_0
 clear hr1_0 hc1_0
 have HR11 := Aside0.mk hr1_1
 have HC11 := Aside0.mk hc1_1
 clear hr1_1 hc1_1
 have HB := Aside0.mk (Below.refl w.heap.size w)
 unfold impl_entrySame.f at h
 obtain ⟨t, A60, h⟩ := Option.bind_eq_some_iff.1 h
 have A6 := Aside0.mk A60
 clear A60
 cases t with
 | true =>
  rw [if_pos rfl] at h
  have AE := Aside0.mk h
  clear h
  go_enter Tryd.func112, Tryd.ntmps112
  go_wp2_with (first | ((with_reducible refine gate_dst (N := 2) rfl ?_); (try (refine gate_guard (by rfl) ?_; dsimp only)); refine box_event ?hg (N := 2) ?hd (cs := #[.slice A0_0 l0_0.length c0_0, .slice A0_1 l0_1.length c0_1]) (t := 71) ?hr ?_; (case hd => rfl); (case hg => rfl); (case hr => first | (go_simp; done) | (go_simp; rfl)); intro ga hg w3 hbox hb; have Gga := Aside0.mk ((by rw [hg]; exact (below_size HB.out)) : w.heap.size ≤ ga); have n9_ := Aside0.mk (below_step HB.out hb); clear HB; have HB := n9_; clear n9_; have Bga := Aside0.mk hbox; clear hb hbox hg; have hcgaw30 : w3.cell? ⟨ga, 0, none⟩ = some (.slice A0_0 l0_0.length c0_0) := (blk_cell Bga.out 0).trans rfl; have hfgaw30 := blk_frozen Bga.out 0; have hcgaw31 : w3.cell? ⟨ga, 1, none⟩ = some (.slice A0_1 l0_1.length c0_1) := (blk_cell Bga.out 1).trans rfl; have hfgaw31 := blk_frozen Bga.out 1) | ((with_reducible refine gate_dst (N := 3) rfl ?_); (try (refine gate_guard (by rfl) ?_; dsimp only)); refine box_event ?hg (N := 3) ?hd (cs := #[.slice A1_0 l1_0.length c1_0, .slice A1_1 l1_1.length c1_1]) (t := 71) ?hr ?_; (case hd => rfl); (case hg => rfl); (case hr => first | (go_simp; done) | (go_simp; rfl)); intro gb hg w4 hbox hb; have Ggb := Aside0.mk ((by rw [hg]; exact (below_size HB.out)) : w.heap.size ≤ gb); have Nga_gb := Aside0.mk ((by rw [hg]; exact Nat.ne_of_lt (blk_lt (g := ga) (o := .cells #[.slice A0_0 l0_0.length c0_0, .slice A0_1 l0_1.length c0_1] 71 (0, 0)) Bga.out)) : ga ≠ gb); have n0_ := Aside0.mk (blk_below (g := ga) (o := .cells #[.slice A0_0 l0_0.length c0_0, .slice A0_1 l0_1.length c0_1] 71 (0, 0)) Bga.out hb); clear Bga; have Bga := n0_; clear n0_; have n9_ := Aside0.mk (below_step HB.out hb); clear HB; have HB := n9_; clear n9_; have Bgb := Aside0.mk hbox; clear hb hbox hg; have hcgaw40 : w4.cell? ⟨ga, 0, none⟩ = some (.slice A0_0 l0_0.length c0_0) := (blk_cell Bga.out 0).trans rfl; have hfgaw40 := blk_frozen Bga.out 0; have hcgaw41 : w4.cell? ⟨ga, 1, none⟩ = some (.slice A0_1 l0_1.length c0_1) := (blk_cell Bga.out 1).trans rfl; have hfgaw41 := blk_frozen Bga.out 1; have hcgbw40 : w4.cell? ⟨gb, 0, none⟩ = some (.slice A1_0 l1_0.length c1_0) := (blk_cell Bgb.out 0).trans rfl; have hfgbw40 := blk_frozen Bgb.out 0; have hcgbw41 : w4.cell? ⟨gb, 1, none⟩ = some (.slice A1_1 l1_1.length c1_1) := (blk_cell Bgb.out 1).trans rfl; have hfgbw41 := blk_frozen Bgb.out 1) | (go_at_call 80; (with_reducible refine (impl_dnSame.calls k _ _ l0_0 _ _ l1_0 true _ ?s0 HC00.out ?s1 HC10.out A6.out).mono ?_); (case s0 => exact KCz (Kd.C_below HR00.out HB.out)); (case s1 => exact KCz (Kd.C_below HR10.out HB.out)); rintro e w9 ⟨rfl, hb⟩; have n0_ := Aside0.mk (blk_below (g := ga) (o := .cells #[.slice A0_0 l0_0.length c0_0, .slice A0_1 l0_1.length c0_1] 71 (0, 0)) Bga.out hb); clear Bga; have Bga := n0_; clear n0_; have n1_ := Aside0.mk (blk_below (g := gb) (o := .cells #[.slice A1_0 l1_0.length c1_0, .slice A1_1 l1_1.length c1_1] 71 (0, 0)) Bgb.out hb); clear Bgb; have Bgb := n1_; clear n1_; have n9_ := Aside0.mk (below_step HB.out hb); clear HB; have HB := n9_; clear n9_; clear hb; have hcgaw90 : w9.cell? ⟨ga, 0, none⟩ = some (.slice A0_0 l0_0.length c0_0) := (blk_cell Bga.out 0).trans rfl; have hfgaw90 := blk_frozen Bga.out 0; have hcgaw91 : w9.cell? ⟨ga, 1, none⟩ = some (.slice A0_1 l0_1.length c0_1) := (blk_cell Bga.out 1).trans rfl; have hfgaw91 := blk_frozen Bga.out 1; have hcgbw90 : w9.cell? ⟨gb, 0, none⟩ = some (.slice A1_0 l1_0.length c1_0) := (blk_cell Bgb.out 0).trans rfl; have hfgbw90 := blk_frozen Bgb.out 0; have hcgbw91 : w9.cell? ⟨gb, 1, none⟩ = some (.slice A1_1 l1_1.length c1_1) := (blk_cell Bgb.out 1).trans rfl; have hfgbw91 := blk_frozen Bgb.out 1) | (go_at_call 143; (with_reducible refine (impl_entrySame.attrs_calls k _ _ _ _ _ _ r _ ?s0 ?s1 AE.out).mono ?_); (case s0 => exact KCz (Kd.C_below HR01.out HB.out)); (case s1 => exact KCz (Kd.C_below HR11.out HB.out)); rintro e w15 ⟨rfl, hb⟩; have n9_ := Aside0.mk (below_step HB.out hb); clear HB; have HB := n9_; clear n9_; clear hb))
  go_ret
  exact ⟨by first | rfl | (simp; done) | (simp [*]; done), HBa⟩
 | false =>
  rw [if_neg (by simp)] at h
  obtain rfl := Option.some.inj h
  go_enter Tryd.func112, Tryd.ntmps112
  go_wp2_with (first | ((with_reducible refine gate_dst (N := 2) rfl ?_); (try (refine gate_guard (by rfl) ?_; dsimp only)); refine box_event ?hg (N := 2) ?hd (cs := #[.slice A0_0 l0_0.length c0_0, .slice A0_1 l0_1.length c0_1]) (t := 71) ?hr ?_; (case hd => rfl); (case hg => rfl); (case hr => first | (go_simp; done) | (go_simp; rfl)); intro ga hg w3 hbox hb; have Gga := Aside0.mk ((by rw [hg]; exact (below_size HB.out)) : w.heap.size ≤ ga); have n9_ := Aside0.mk (below_step HB.out hb); clear HB; have HB := n9_; clear n9_; have Bga := Aside0.mk hbox; clear hb hbox hg; have hcgaw30 : w3.cell? ⟨ga, 0, none⟩ = some (.slice A0_0 l0_0.length c0_0) := (blk_cell Bga.out 0).trans rfl; have hfgaw30 := blk_frozen Bga.out 0; have hcgaw31 : w3.cell? ⟨ga, 1, none⟩ = some (.slice A0_1 l0_1.length c0_1) := (blk_cell Bga.out 1).trans rfl; have hfgaw31 := blk_frozen Bga.out 1) | ((with_reducible refine gate_dst (N := 3) rfl ?_); (try (refine gate_guard (by rfl) ?_; dsimp only)); refine box_event ?hg (N := 3) ?hd (cs := #[.slice A1_0 l1_0.length c1_0, .slice A1_1 l1_1.length c1_1]) (t := 71) ?hr ?_; (case hd => rfl); (case hg => rfl); (case hr => first | (go_simp; done) | (go_simp; rfl)); intro gb hg w4 hbox hb; have Ggb := Aside0.mk ((by rw [hg]; exact (below_size HB.out)) : w.heap.size ≤ gb); have Nga_gb := Aside0.mk ((by rw [hg]; exact Nat.ne_of_lt (blk_lt (g := ga) (o := .cells #[.slice A0_0 l0_0.length c0_0, .slice A0_1 l0_1.length c0_1] 71 (0, 0)) Bga.out)) : ga ≠ gb); have n0_ := Aside0.mk (blk_below (g := ga) (o := .cells #[.slice A0_0 l0_0.length c0_0, .slice A0_1 l0_1.length c0_1] 71 (0, 0)) Bga.out hb); clear Bga; have Bga := n0_; clear n0_; have n9_ := Aside0.mk (below_step HB.out hb); clear HB; have HB := n9_; clear n9_; have Bgb := Aside0.mk hbox; clear hb hbox hg; have hcgaw40 : w4.cell? ⟨ga, 0, none⟩ = some (.slice A0_0 l0_0.length c0_0) := (blk_cell Bga.out 0).trans rfl; have hfgaw40 := blk_frozen Bga.out 0; have hcgaw41 : w4.cell? ⟨ga, 1, none⟩ = some (.slice A0_1 l0_1.length c0_1) := (blk_cell Bga.out 1).trans rfl; have hfgaw41 := blk_frozen Bga.out 1; have hcgbw40 : w4.cell? ⟨gb, 0, none⟩ = some (.slice A1_0 l1_0.length c1_0) := (blk_cell Bgb.out 0).trans rfl; have hfgbw40 := blk_frozen Bgb.out 0; have hcgbw41 : w4.cell? ⟨gb, 1, none⟩ = some (.slice A1_1 l1_1.length c1_1) := (blk_cell Bgb.out 1).trans rfl; have hfgbw41 := blk_frozen Bgb.out 1) | (go_at_call 80; (with_reducible refine (impl_dnSame.calls k _ _ l0_0 _ _ l1_0 false _ ?s0 HC00.out ?s1 HC10.out A6.out).mono ?_); (case s0 => exact KCz (Kd.C_below HR00.out HB.out)); (case s1 => exact KCz (Kd.C_below HR10.out HB.out)); rintro e w9 ⟨rfl, hb⟩; have n0_ := Aside0.mk (blk_below (g := ga) (o := .cells #[.slice A0_0 l0_0.length c0_0, .slice A0_1 l0_1.length c0_1] 71 (0, 0)) Bga.out hb); clear Bga; have Bga := n0_; clear n0_; have n1_ := Aside0.mk (blk_below (g := gb) (o := .cells #[.slice A1_0 l1_0.length c1_0, .slice A1_1 l1_1.length c1_1] 71 (0, 0)) Bgb.out hb); clear Bgb; have Bgb := n1_; clear n1_; have n9_ := Aside0.mk (below_step HB.out hb); clear HB; have HB := n9_; clear n9_; clear hb; have hcgaw90 : w9.cell? ⟨ga, 0, none⟩ = some (.slice A0_0 l0_0.length c0_0) := (blk_cell Bga.out 0).trans rfl; have hfgaw90 := blk_frozen Bga.out 0; have hcgaw91 : w9.cell? ⟨ga, 1, none⟩ = some (.slice A0_1 l0_1.length c0_1) := (blk_cell Bga.out 1).trans rfl; have hfgaw91 := blk_frozen Bga.out 1; have hcgbw90 : w9.cell? ⟨gb, 0, none⟩ = some (.slice A1_0 l1_0.length c1_0) := (blk_cell Bgb.out 0).trans rfl; have hfgbw90 := blk_frozen Bgb.out 0; have hcgbw91 : w9.cell? ⟨gb, 1, none⟩ = some (.slice A1_1 l1_1.length c1_1) := (blk_cell Bgb.out 1).trans rfl; have hfgbw91 := blk_frozen Bgb.out 1))
  go_ret
  exact ⟨by first | rfl | (simp; done) | (simp [*]; done), HBa⟩
end Go.Proofs.YtdbboelacgehoaaDoor.PFnExactEntrySame
