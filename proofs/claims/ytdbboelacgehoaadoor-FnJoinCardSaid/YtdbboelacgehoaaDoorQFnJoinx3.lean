-- Laid by this session's own program out of the translation; Lean checks it.
import Derived.Test.YtdbboelacgehoaaDoorQFnJoinx0
import Derived.Test.YtdbboelacgehoaaDoorQFnJoinx2
import Derived.RangeFuncNested
import Derived.RangeFuncBound
import Derived.RangeFuncCalls
import Derived.RangeFuncLeaves
import Derived.Shelf.Abstract
import Derived.Shelf.RegionOpen
import Derived.WalkKit
import Derived.OwnWalkIn
import Derived.TacticsInMore
import Derived.LoopNIn
import Derived.LoopIn
namespace Go.Proofs.YtdbboelacgehoaaDoor.PFnJoin
open Go.RowKit Go.Proofs.YtdbboelacgehoaaDoorW.PrintWords Go.Proofs.YtdbboelacgehoaaDoorW.PrintLast Go.Proofs.YtdbboelacgehoaaDoorW.PrintMore
attribute [local go_sem] max2_int min2_int max_two min_two max_three min_three max_four min_four   -- for this text's walks alone
set_option linter.unusedVariables false
set_option linter.unusedSimpArgs false
def impl_isProper.f (k : Nat) (a0 : ByteArray) : Option (Bool) := if (a0.size : Int) ≥ 1 then (if (a0.size : Int) ≤ 40 then ((impl_Norm.f k a0).bind fun t123 => (some (t123.toList != ([] : List UInt8)))) else (some false)) else (some false)
theorem impl_isProper.mono : ∀ a0 k, LeO (impl_isProper.f k a0) (impl_isProper.f (k + 1) a0) := by
 intro a0 k
 unfold impl_isProper.f
 repeat' first
   | (with_reducible exact impl_Norm.mono _ _)
   | (with_reducible exact LeO.refl _)
   | (with_reducible exact LeO.none _)
   | (with_reducible refine LeO.ite ?_ ?_)
   | (with_reducible refine LeO.bind ?_ (fun _ => ?_))
   | exact impl_Norm.mono _ _
   | exact LeO.none _
   | refine LeO.ite ?_ ?_
   | refine LeO.bind ?_ (fun _ => ?_)
set_option maxHeartbeats 8000000 in
set_option maxRecDepth 100000 in
theorem impl_isProper.calls (k : Nat) (a0 : ByteArray) (r : Bool) (w : World) (h : impl_isProper.f k a0 = some r) :
  Calls Tryd.prog 121 #[.string a0] w fun e w' => e = .returned (.bool r) ∧ Below w.heap.size w w' := by
 have HB := Aside0.mk (Below.refl w.heap.size w)
 have H : (if (a0.size : Int) ≥ 1 then (if (a0.size : Int) ≤ 40 then ((impl_Norm.f k a0).bind fun t123 => (some (t123.toList != ([] : List UInt8)))) else (some false)) else (some false)) = some r := h
 clear h
 by_cases c2 : (a0.size : Int) ≥ 1
 ·rw [if_pos c2] at H
  have c2b0 : decide (1 ≤ (a0.size : Int)) = true := decide_eq_true c2
  have c2b1 : decide (1 ≤ a0.size) = true := decide_eq_true (by omega)
  clear c2
  by_cases c3 : (a0.size : Int) ≤ 40
  ·rw [if_pos c3] at H
   have c3b0 : decide ((a0.size : Int) ≤ 40) = true := decide_eq_true c3
   have c3b1 : decide (a0.size ≤ 40) = true := decide_eq_true (by omega)
   clear c3
   replace H := Option.bind_eq_some_iff.mp H
   obtain ⟨t123, A40, H⟩ := H
   replace H : (some (t123.toList != ([] : List UInt8))) = some r := H
   have A4 := Aside0.mk A40
   clear A40
   obtain rfl := Option.some.inj H
   go_enter Tryd.func121, Tryd.ntmps121
   go_wp2_with (first | (go_at_call 126; (with_reducible refine (impl_Norm.calls k a0 t123 _ A4.out).mono ?_); rintro e w5 ⟨rfl, hb⟩; have n0_ := Aside0.mk (below_step HBa hb); clear HB; have HB := n0_; clear n0_; (try clear hb); (try clear hb2); (try clear hk); (try clear hi)))
   go_ret
   exact ⟨EZa, HBa⟩
  ·rw [if_neg c3] at H
   have c3b0 : decide ((a0.size : Int) ≤ 40) = false := decide_eq_false c3
   have c3b1 : decide (a0.size ≤ 40) = false := decide_eq_false (by omega)
   clear c3
   obtain rfl := Option.some.inj H
   go_enter Tryd.func121, Tryd.ntmps121
   go_wp2
   go_ret
   exact ⟨EZa, HBa⟩
 ·rw [if_neg c2] at H
  have c2b0 : decide (1 ≤ (a0.size : Int)) = false := decide_eq_false c2
  have c2b1 : decide (1 ≤ a0.size) = false := decide_eq_false (by omega)
  clear c2
  obtain rfl := Option.some.inj H
  go_enter Tryd.func121, Tryd.ntmps121
  go_wp2
  go_ret
  exact ⟨EZa, HBa⟩
def impl_isRdn.f (k : Nat) (a0_0 : ByteArray) (a0_1 : ByteArray) : Option (Bool) := (impl_NameRight.f a0_0).bind fun t125 => (if t125 = true then ((impl_isProper.f k a0_1).bind fun t126 => (some t126)) else (some false))
theorem impl_isRdn.mono : ∀ a0 a1 k, LeO (impl_isRdn.f k a0 a1) (impl_isRdn.f (k + 1) a0 a1) := by
 intro a0 a1 k
 unfold impl_isRdn.f
 repeat' first
   | (with_reducible exact impl_isProper.mono _ _)
   | (with_reducible exact LeO.refl _)
   | (with_reducible exact LeO.none _)
   | (with_reducible refine LeO.ite ?_ ?_)
   | (with_reducible refine LeO.bind ?_ (fun _ => ?_))
   | exact impl_isProper.mono _ _
   | exact LeO.none _
   | refine LeO.ite ?_ ?_
   | refine LeO.bind ?_ (fun _ => ?_)
set_option maxHeartbeats 8000000 in
set_option maxRecDepth 100000 in
theorem impl_isRdn.calls (k : Nat) (a0_0 : ByteArray) (a0_1 : ByteArray) (r : Bool) (w : World) (h : impl_isRdn.f k a0_0 a0_1 = some r) :
  Calls Tryd.prog 88 #[.agg #[.string a0_0, .string a0_1]] w fun e w' => e = .returned (.bool r) ∧ Below w.heap.size w w' := by
 have hu42 := Tryd.underlying42
 have HB := Aside0.mk (Below.refl w.heap.size w)
 have H : ((impl_NameRight.f a0_0).bind fun t125 => (if t125 = true then ((impl_isProper.f k a0_1).bind fun t126 => (some t126)) else (some false))) = some r := h
 clear h
 replace H := Option.bind_eq_some_iff.mp H
 obtain ⟨t125, A20, H⟩ := H
 replace H : (if t125 = true then ((impl_isProper.f k a0_1).bind fun t126 => (some t126)) else (some false)) = some r := H
 have A2 := Aside0.mk A20
 clear A20
 by_cases c3 : t125 = true
 ·subst c3
  have H1 : ((impl_isProper.f k a0_1).bind fun t126 => (some t126)) = some r := by rw [if_pos rfl] at H; exact H
  clear H
  have H := H1
  clear H1
  replace H := Option.bind_eq_some_iff.mp H
  obtain ⟨t126, A40, H⟩ := H
  replace H : (some t126) = some r := H
  have A4 := Aside0.mk A40
  clear A40
  obtain rfl := Option.some.inj H
  go_enter Tryd.func88, Tryd.ntmps88
  go_wp2_with (first | ((with_reducible refine gate_dst (N := 1) rfl ?_); refine box_event ?hg (N := 1) ?hd (cs := #[.string a0_0, .string a0_1]) (t := 42) ?hr ?_; (case hd => rfl); (case hg => rfl); (case hr => first | (go_simp; done) | (go_simp; rfl)); intro gb124 hg w5 hbox hb; have n0_ := Aside0.mk (below_step HBa hb); have n1_ := Aside0.mk (hbox); have n2_ := Aside0.mk ((by rw [hg]; exact (below_size HBa) : w.heap.size ≤ gb124)); have n3_ := Aside0.mk ((by rw [hg]; exact (below_size HBa) : w.heap.size ≤ gb124)); clear HB; have HB := n0_; have BK124 := n1_; have GW124 := n2_; have GE124 := n3_; clear n0_ n1_ n2_ n3_; clear hb hbox hg; have hcz6_0 : w5.cell? ⟨gb124, 0, none⟩ = some (.string a0_0) := (blk_cell BK124.out 0).trans rfl; have hcz6_1 : w5.cell? ⟨gb124, 1, none⟩ = some (.string a0_1) := (blk_cell BK124.out 1).trans rfl; have hfz6_0 := blk_frozen BK124.out 0; have hfz6_1 := blk_frozen BK124.out 1) | ((with_reducible refine gate_callee (f := 115) rfl ?_); refine goesL_ (some 5) rfl rfl Tryd.func115 (by kernel_rfl) rfl #[.string a0_0] rfl MPz ?_; (with_reducible refine (impl_NameRight.calls a0_0 true _ A2.out).mono ?_); rintro e w7 ⟨rfl, hb⟩; refine ⟨_, rfl, ?_⟩; have n0_ := Aside0.mk (blk_below (g := gb124) (o := .cells #[.string a0_0, .string a0_1] 42 (0, 0)) (BKz BK124) hb); have n1_ := Aside0.mk (below_step (HBb GE124) hb); clear BK124; clear HB; have BK124 := n0_; have HB := n1_; clear n0_ n1_; (try clear hb); (try clear hb2); (try clear hk); (try clear hi); have hcz8_0 : w7.cell? ⟨gb124, 0, none⟩ = some (.string a0_0) := (blk_cell BK124.out 0).trans rfl; have hcz8_1 : w7.cell? ⟨gb124, 1, none⟩ = some (.string a0_1) := (blk_cell BK124.out 1).trans rfl; have hfz8_0 := blk_frozen BK124.out 0; have hfz8_1 := blk_frozen BK124.out 1) | (go_at_call 121; (with_reducible refine (impl_isProper.calls k a0_1 t126 _ A4.out).mono ?_); rintro e w9 ⟨rfl, hb⟩; have n0_ := Aside0.mk (blk_below (g := gb124) (o := .cells #[.string a0_0, .string a0_1] 42 (0, 0)) (BKz BK124) hb); have n1_ := Aside0.mk (below_step (HBb GE124) hb); clear BK124; clear HB; have BK124 := n0_; have HB := n1_; clear n0_ n1_; (try clear hb); (try clear hb2); (try clear hk); (try clear hi)))
  go_ret
  exact ⟨EZa, HBb GE124⟩
 ·replace c3 := Bool.eq_false_iff.mpr c3
  subst c3
  have H1 : (some false) = some r := by rw [if_neg (show ¬ (false = true) by decide)] at H; exact H
  clear H
  have H := H1
  clear H1
  obtain rfl := Option.some.inj H
  go_enter Tryd.func88, Tryd.ntmps88
  go_wp2_with (first | ((with_reducible refine gate_dst (N := 1) rfl ?_); refine box_event ?hg (N := 1) ?hd (cs := #[.string a0_0, .string a0_1]) (t := 42) ?hr ?_; (case hd => rfl); (case hg => rfl); (case hr => first | (go_simp; done) | (go_simp; rfl)); intro gb124 hg w10 hbox hb; have n0_ := Aside0.mk (below_step HBa hb); have n1_ := Aside0.mk (hbox); have n2_ := Aside0.mk ((by rw [hg]; exact (below_size HBa) : w.heap.size ≤ gb124)); have n3_ := Aside0.mk ((by rw [hg]; exact (below_size HBa) : w.heap.size ≤ gb124)); clear HB; have HB := n0_; have BK124 := n1_; have GW124 := n2_; have GE124 := n3_; clear n0_ n1_ n2_ n3_; clear hb hbox hg; have hcz11_0 : w10.cell? ⟨gb124, 0, none⟩ = some (.string a0_0) := (blk_cell BK124.out 0).trans rfl; have hcz11_1 : w10.cell? ⟨gb124, 1, none⟩ = some (.string a0_1) := (blk_cell BK124.out 1).trans rfl; have hfz11_0 := blk_frozen BK124.out 0; have hfz11_1 := blk_frozen BK124.out 1) | ((with_reducible refine gate_callee (f := 115) rfl ?_); refine goesL_ (some 5) rfl rfl Tryd.func115 (by kernel_rfl) rfl #[.string a0_0] rfl MPz ?_; (with_reducible refine (impl_NameRight.calls a0_0 false _ A2.out).mono ?_); rintro e w12 ⟨rfl, hb⟩; refine ⟨_, rfl, ?_⟩; have n0_ := Aside0.mk (blk_below (g := gb124) (o := .cells #[.string a0_0, .string a0_1] 42 (0, 0)) (BKz BK124) hb); have n1_ := Aside0.mk (below_step (HBb GE124) hb); clear BK124; clear HB; have BK124 := n0_; have HB := n1_; clear n0_ n1_; (try clear hb); (try clear hb2); (try clear hk); (try clear hi)))
  go_ret
  exact ⟨EZa, HBb GE124⟩
def impl_DnRight_1.f (k : Nat) (a0_0 : ByteArray) (a0_1 : ByteArray) : Option (Bool) := (impl_isRdn.f k a0_0 a0_1).bind fun t128 => (some (!t128))
theorem impl_DnRight_1.mono : ∀ a0 a1 k, LeO (impl_DnRight_1.f k a0 a1) (impl_DnRight_1.f (k + 1) a0 a1) := by
 intro a0 a1 k
 unfold impl_DnRight_1.f
 repeat' first
   | (with_reducible exact impl_isRdn.mono _ _ _)
   | (with_reducible exact LeO.refl _)
   | (with_reducible exact LeO.none _)
   | (with_reducible refine LeO.ite ?_ ?_)
   | (with_reducible refine LeO.bind ?_ (fun _ => ?_))
   | exact impl_isRdn.mono _ _ _
   | exact LeO.none _
   | refine LeO.ite ?_ ?_
   | refine LeO.bind ?_ (fun _ => ?_)
set_option maxHeartbeats 8000000 in
set_option maxRecDepth 100000 in
theorem impl_DnRight_1.calls (k : Nat) (a0_0 : ByteArray) (a0_1 : ByteArray) (r : Bool) (w : World) (h : impl_DnRight_1.f k a0_0 a0_1 = some r) :
  Calls Tryd.prog 108 #[.agg #[.string a0_0, .string a0_1]] w fun e w' => e = .returned (.bool r) ∧ Below w.heap.size w w' := by
 have hu42 := Tryd.underlying42
 have HB := Aside0.mk (Below.refl w.heap.size w)
 have H : ((impl_isRdn.f k a0_0 a0_1).bind fun t128 => (some (!t128))) = some r := h
 clear h
 replace H := Option.bind_eq_some_iff.mp H
 obtain ⟨t128, A20, H⟩ := H
 replace H : (some (!t128)) = some r := H
 have A2 := Aside0.mk A20
 clear A20
 obtain rfl := Option.some.inj H
 go_enter Tryd.func108, Tryd.ntmps108
 go_wp2_with (first | ((with_reducible refine gate_dst (N := 1) rfl ?_); refine box_event ?hg (N := 1) ?hd (cs := #[.string a0_0, .string a0_1]) (t := 42) ?hr ?_; (case hd => rfl); (case hg => rfl); (case hr => first | (go_simp; done) | (go_simp; rfl)); intro gb127 hg w3 hbox hb; have n0_ := Aside0.mk (below_step HBa hb); have n1_ := Aside0.mk (hbox); have n2_ := Aside0.mk ((by rw [hg]; exact (below_size HBa) : w.heap.size ≤ gb127)); have n3_ := Aside0.mk ((by rw [hg]; exact (below_size HBa) : w.heap.size ≤ gb127)); clear HB; have HB := n0_; have BK127 := n1_; have GW127 := n2_; have GE127 := n3_; clear n0_ n1_ n2_ n3_; clear hb hbox hg; have hcz4_0 : w3.cell? ⟨gb127, 0, none⟩ = some (.string a0_0) := (blk_cell BK127.out 0).trans rfl; have hcz4_1 : w3.cell? ⟨gb127, 1, none⟩ = some (.string a0_1) := (blk_cell BK127.out 1).trans rfl; have hfz4_0 := blk_frozen BK127.out 0; have hfz4_1 := blk_frozen BK127.out 1) | ((with_reducible refine gate_callee (f := 88) rfl ?_); refine goesL_ (some 4) rfl rfl Tryd.func88 (by kernel_rfl) rfl #[.agg #[.string a0_0, .string a0_1]] rfl MPz ?_; (with_reducible refine (impl_isRdn.calls k a0_0 a0_1 t128 _ A2.out).mono ?_); rintro e w5 ⟨rfl, hb⟩; refine ⟨_, rfl, ?_⟩; have n0_ := Aside0.mk (blk_below (g := gb127) (o := .cells #[.string a0_0, .string a0_1] 42 (0, 0)) (BKz BK127) hb); have n1_ := Aside0.mk (below_step (HBb GE127) hb); clear BK127; clear HB; have BK127 := n0_; have HB := n1_; clear n0_ n1_; (try clear hb); (try clear hb2); (try clear hk); (try clear hi)))
 go_ret
 exact ⟨EZa, HBb GE127⟩
def impl_DnRight.ix (k : Nat) : List S42 → Int → Option Int
 | [], _ => some (-1)
 | x :: xs, i => (impl_DnRight_1.f k x.f0 x.f1).bind fun b => if b = true then some i else impl_DnRight.ix k xs (i + 1)
def impl_DnRight.f (k : Nat) (l0 : List (S42)) : Option (Bool) := if (l0.length : Int) ≤ 6 then ((impl_DnRight.ix k l0 0).bind fun t => some (!(decide (t ≥ 0)))) else some false
theorem impl_DnRight.mono_ix (k : Nat) : ∀ (l : List S42) (i : Int), LeO (impl_DnRight.ix k l i) (impl_DnRight.ix (k + 1) l i)
 | [], _ => LeO.refl _
 | x :: xs, i => by
  simp only [impl_DnRight.ix]
  refine LeO.bind (impl_DnRight_1.mono _ _ _) (fun b => ?_)
  cases b
  ·exact impl_DnRight.mono_ix k xs (i + 1)
  ·exact LeO.refl _
theorem impl_DnRight.mono : ∀ a0 k, LeO (impl_DnRight.f k a0) (impl_DnRight.f (k + 1) a0) := by
 intro a0 k
 unfold impl_DnRight.f
 exact LeO.ite (LeO.bind (impl_DnRight.mono_ix k _ _) (fun _ => LeO.refl _)) (LeO.refl _)
theorem impl_DnRight.ix_ge (k : Nat) : ∀ (l : List S42) (i : Int) (r : Int), 0 ≤ i → impl_DnRight.ix k l i = some r → -1 ≤ r
 | [], i, r, h0, h => by simp only [impl_DnRight.ix, Option.some.injEq] at h; omega
 | x :: xs, i, r, h0, h => by
  simp only [impl_DnRight.ix] at h
  obtain ⟨b, _, h⟩ := Option.bind_eq_some_iff.1 h
  cases b
  ·exact impl_DnRight.ix_ge k xs (i + 1) r (by omega) h
  ·simp at h; omega
set_option maxHeartbeats 8000000 in
set_option maxRecDepth 100000 in
theorem impl_DnRight.index (k : Nat) (A0 : Option Addr) (c0 : Nat) (l0 : List (S42)) (r : Int) (w : World) (hr0 : Kd.C k42 w A0 l0.length l0) (h : impl_DnRight.ix k l0 0 = some r) :
  Calls Tryd.prog 142 #[.slice A0 l0.length c0, .func (.func 108) #[] #[]] w fun e w' => e = .returned (.int .i64 r) ∧ Below w.heap.size w w' := by
 have hu := Tryd.underlying42
 have HR0 := Aside0.mk hr0
 clear hr0
 have HB := Aside0.mk (Below.refl w.heap.size w)
 have H' := Aside0.mk h
 clear h
 go_enter Tryd.func142, Tryd.ntmps142
 go_wp2
 go_loopg [5, 8] l0.length (fun kq _ v8 w' => ∃ j : Nat, v8 = .int .i64 (j : Int) ∧ Aside0 (impl_DnRight.ix k (l0.drop j) (j : Int) = some r) ∧ Aside0 (l0.length - j ≤ kq) ∧ Aside0 (Below w.heap.size w w'))
 case atStart => exact ⟨0, rfl, H', ⟨by omega⟩, HB⟩
 case round =>
  clear H'
  obtain ⟨j, rfl, HA, HK, HB⟩ := hrel
  by_cases c1 : (j : Int) < (l0.length : Int)
  ·have c1b0 : decide ((j : Int) < (l0.length : Int)) = true := decide_eq_true c1
   have c1b1 : decide (j < l0.length) = true := decide_eq_true (by omega)
   have H := HA.out
   clear HA
   have hj : j < l0.length := by omega
   have p1 : 0 ≤ (j : Int) := by omega
   obtain ⟨ad1, e1, hx1_0, hx1_1⟩ := at_T42 HR0.out (j : Int) p1 c1
   cases e1
   replace hx1_0 := (HB.out.cell (World.block_lt_of_cell? w _ hx1_0)).trans hx1_0
   replace hx1_1 := (HB.out.cell (World.block_lt_of_cell? w _ hx1_1)).trans hx1_1
   simp only [Int.toNat_natCast] at hx1_0 hx1_1
   have hel : l0.drop j = rd_T42 l0 (j : Int) :: l0.drop (j + 1) := by
    rw [List.drop_eq_getElem_cons hj]
    congr 1
    unfold rd_T42
    rw [List.getD_eq_getElem?_getD, show (j : Int).toNat = j from rfl, List.getElem?_eq_getElem hj]; rfl
   rw [hel] at H
   simp only [impl_DnRight.ix] at H
   obtain ⟨b, Ab0, H⟩ := Option.bind_eq_some_iff.1 H
   have Ab := Aside0.mk Ab0
   clear Ab0 hel
   have c1i := eq_true c1
   cases b with
   | false =>
    simp only [Bool.false_eq_true, if_false] at H
    have HN := Aside0.mk H
    clear H
    have HJ := Aside0.mk hj
    clear hj c1
    go_wp2_with (go_at_call 108; refine (impl_DnRight_1.calls k _ _ false _ Ab.out).mono ?_; rintro e w5 ⟨rfl, hb⟩; have n0_ := Aside0.mk (below_step HB.out hb); clear HB; have HB := n0_; clear n0_ hb)
    go_roundg (l0.length - (j + 1))
    case measure => have := HK.out; have := HJ.out; omega
    case rel => exact ⟨j + 1, by have hb := HR0.out.2.1; have := HJ.out; first | rfl | go_num | (congr 1; unfold wrap64; omega), by have h2 := HN.out; rw [show (j : Int) + 1 = ((j + 1 : Nat) : Int) by omega] at h2; exact ⟨h2⟩, ⟨Nat.le_refl _⟩, HB⟩
   | true =>
    simp only [if_true] at H
    obtain rfl := Option.some.inj H
    clear hj c1
    go_wp2_with (go_at_call 108; refine (impl_DnRight_1.calls k _ _ true _ Ab.out).mono ?_; rintro e w5 ⟨rfl, hb⟩; have n0_ := Aside0.mk (below_step HB.out hb); clear HB; have HB := n0_; clear n0_ hb)
    go_ret
    exact ⟨rfl, HB.out⟩
  ·have c1b0 : decide ((j : Int) < (l0.length : Int)) = false := decide_eq_false c1
   have c1b1 : decide (j < l0.length) = false := decide_eq_false (by omega)
   have H := HA.out
   rw [List.drop_of_length_le (by omega)] at H
   simp only [impl_DnRight.ix] at H
   obtain rfl := Option.some.inj H
   clear c1
   go_wp2
   go_ret
   exact ⟨rfl, HB.out⟩
set_option maxHeartbeats 8000000 in
set_option maxRecDepth 100000 in
theorem impl_DnRight.contains (k : Nat) (A0 : Option Addr) (c0 : Nat) (l0 : List (S42)) (r : Int) (w : World) (hr0 : Kd.C k42 w A0 l0.length l0) (h : impl_DnRight.ix k l0 0 = some r) :
  Calls Tryd.prog 107 #[.slice A0 l0.length c0, .func (.func 108) #[] #[]] w fun e w' => e = .returned (.bool (decide (0 ≤ r))) ∧ Below w.heap.size w w' := by
 have hc := impl_DnRight.index k A0 c0 l0 r w hr0 h
 clear hr0 h
 go_enter Tryd.func107, Tryd.ntmps107
 go_wp2_with (go_at_call 142; refine hc.mono ?_; rintro e w' ⟨rfl, hb⟩)
 go_ret
 exact ⟨rfl, hb⟩
set_option maxHeartbeats 8000000 in
set_option maxRecDepth 100000 in
theorem impl_DnRight.calls (k : Nat) (A0 : Option Addr) (c0 : Nat) (l0 : List (S42)) (r : Bool) (w : World) (hr0 : Kd.C k42 w A0 l0.length l0) (hc0 : l0.length ≤ c0) (h : impl_DnRight.f k l0 = some r) :
  Calls Tryd.prog 60 #[.slice A0 l0.length c0] w fun e w' => e = .returned (.bool r) ∧ Below w.heap.size w w' := by
 unfold impl_DnRight.f at h
 by_cases c : (l0.length : Int) ≤ 6
 ·rw [if_pos c] at h
  obtain ⟨t, At, h⟩ := Option.bind_eq_some_iff.1 h
  obtain rfl := Option.some.inj h
  have cb0 : decide ((l0.length : Int) ≤ 6) = true := decide_eq_true c
  have cb1 : decide (l0.length ≤ 6) = true := decide_eq_true (by omega)
  have hc := impl_DnRight.contains k A0 c0 l0 t w hr0 At
  clear c hr0 hc0 At h
  go_enter Tryd.func60, Tryd.ntmps60
  go_wp2_with (go_at_call 107; refine hc.mono ?_; rintro e w' ⟨rfl, hb⟩)
  go_ret
  exact ⟨rfl, hb⟩
 ·rw [if_neg c] at h
  obtain rfl := Option.some.inj h
  have cb0 : decide ((l0.length : Int) ≤ 6) = false := decide_eq_false c
  have cb1 : decide (l0.length ≤ 6) = false := decide_eq_false (by omega)
  clear c hr0 hc0 h
  go_enter Tryd.func60, Tryd.ntmps60
  go_wp2
  go_ret
  exact ⟨rfl, Below.refl _ _⟩
section
open Go.Shelf
attribute [local go_sem] Oper.semAt_some
theorem impl_dnKey.round_any {P : Program} {ops : Array Oper} {Q : Exit → Act → World → Prop} {md : Region.Mode} {l n : Nat} (hnd : ∀ (i : Nat) (o : Oper), ops[i]? = some o → ∀ c, o.op ≠ .defer c) (hL : ¬ LetsOut Q) :
  ∀ (fuel : Nat) (listed : Array Bool) (a : Act) (w : World), wpAny P md ops Q fuel listed a w → wpAnyIn (Fence.wide.inRound l) n P md ops Q fuel listed a w
 | 0, _, _, _, h => h
 | fuel + 1, listed, a, w, h => by
  refine ⟨h.1, fun i hi => ?_⟩
  have h2 := h.2 i hi
  have ih := fun l' a' w' => impl_dnKey.round_any (P := P) (md := md) (n := n) (l := l) hnd hL fuel l' a' w'
  unfold wpOp at h2
  unfold wpOpIn
  cases ho : ops[i]? with
  | none => rw [ho] at h2; exact ih _ _ _ h2
  | some o =>
   rw [ho] at h2
   simp only at h2 ⊢
   by_cases hw : Region.wanted o (yielded ops a.tmps) = true
   ·rw [if_pos hw] at h2 ⊢
    rcases h2 with h2 | ⟨_, h2⟩
    ·refine ⟨fun _ _ => trivial, ?_⟩
     rw [show (Fence.wide.inRound l).round = some l from rfl, Oper.semAt_eq _ _ _ (hnd i o ho)]
     unfold Oper.wp at h2
     generalize (execOp a.eval o).run P w = r at h2 ⊢
     cases r with
     | ok x w' =>
      cases x <;> simp only [Oper.upon] at h2 <;> simp only [Oper.uponIn]
      case value => exact ih _ _ _ h2
      case skip => exact ih _ _ _ h2
      case defer => exact ih _ _ _ h2
      case enter =>
       refine ⟨fun h => (by cases h), ?_⟩
       refine CallsIn.inRound l ((callsIn_wide.2 h2).mono ?_)
       intro e w'' he
       cases e with
       | returned v => exact ih _ _ _ he
       | panicked c => exact he
       | outgrown => exact he
      case row =>
       refine ⟨fun h => (by cases h), ?_⟩
       intro c cs _
       obtain ⟨v, w'', hR, hs⟩ := h2 c cs
       exact ⟨v, w'', ih _ _ _ hR, stepsIn_wide.2 hs⟩
     | halt x w' =>
      cases x <;> simp only [Oper.upon] at h2 <;> simp only [Oper.uponIn]
      exact h2
    ·exact absurd h2 hL
   ·rw [if_neg hw] at h2 ⊢
    exact ⟨fun _ _ => trivial, ih _ _ _ h2⟩
theorem impl_dnKey.region_round {P : Program} {ops : Array Oper} {Q : Exit → Act → World → Prop} {id l n : Nat} {a : Act} {w : World} (hm : P.follows .mixedOrders = true) (hnd : (ops.all fun o => match o.op with | .defer _ => false | _ => true) = true) (hL : ¬ LetsOut Q)
  (h : wpAny P .any ops Q ops.size (Array.replicate ops.size false) a w.drew) : (Code.region id ops true).wpIn (Fence.wide.inRound l) n P Q a w :=
 wpIn_region_any hm (impl_dnKey.round_any (fun i o ho c e => by
  have h1 := (Array.all_eq_true_iff_forall_mem.1 hnd) o (Array.mem_of_getElem? ho)
  rw [e] at h1
  cases h1) hL _ _ _ _ h)
abbrev impl_dnKey.El (k : Nat) := { x : Int × S42 × ByteArray // impl_Norm.f k x.2.1.f1 = some x.2.2 ∧ x.2.1.f0.size + x.2.2.size ≤ 4294967296 }
def impl_dnKey.keyStep (x a t : ByteArray) : ByteArray := x ++ ((((⟨#[1]⟩ : ByteArray) ++ a) ++ (⟨#[61]⟩ : ByteArray)) ++ t)
def impl_dnKey.go (k : Nat) : List S42 → ByteArray → Option ByteArray
 | [], x => some x
 | y :: ys, x => (impl_Norm.f k y.f1).bind fun t => if y.f0.size + t.size ≤ 4294967296 then impl_dnKey.go k ys (impl_dnKey.keyStep x y.f0 t) else none
def impl_dnKey.f (k : Nat) (l0 : List S42) : Option ByteArray := if l0.length ≤ 1048576 then impl_dnKey.go k l0.reverse (⟨#[]⟩ : ByteArray) else none
theorem impl_dnKey.mono_go (k : Nat) : ∀ (l : List S42) (x : ByteArray), LeO (impl_dnKey.go k l x) (impl_dnKey.go (k + 1) l x)
 | [], _ => LeO.refl _
 | y :: ys, x => LeO.bind (impl_Norm.mono _ _) (fun _ => LeO.ite (impl_dnKey.mono_go k ys _) (LeO.refl _))
theorem impl_dnKey.mono : ∀ a0 k, LeO (impl_dnKey.f k a0) (impl_dnKey.f (k + 1) a0) := fun a0 k => LeO.ite (impl_dnKey.mono_go k _ _) (LeO.refl _)
def impl_dnKey.keyAll {k : Nat} (es : List (impl_dnKey.El k)) : ByteArray := es.foldl (fun x e => impl_dnKey.keyStep x e.1.2.1.f0 e.1.2.2) (⟨#[]⟩ : ByteArray)
theorem impl_dnKey.keyAll_snoc {k : Nat} (es : List (impl_dnKey.El k)) (e : impl_dnKey.El k) : impl_dnKey.keyAll (es ++ [e]) = impl_dnKey.keyStep (impl_dnKey.keyAll es) e.1.2.1.f0 e.1.2.2 := by simp [impl_dnKey.keyAll]
theorem impl_dnKey.keyStep_size (x a t : ByteArray) : (impl_dnKey.keyStep x a t).size = x.size + (1 + a.size + 1 + t.size) := by
 unfold impl_dnKey.keyStep
 simp only [ByteArray.size_append]
 rfl
theorem impl_dnKey.keyAll_size {k : Nat} (es : List (impl_dnKey.El k)) : (impl_dnKey.keyAll es).size ≤ 4294967300 * es.length := by
 suffices h : ∀ (es : List (impl_dnKey.El k)) (x : ByteArray), (es.foldl (fun x e => impl_dnKey.keyStep x e.1.2.1.f0 e.1.2.2) x).size ≤ x.size + 4294967300 * es.length by
  have := h es (⟨#[]⟩ : ByteArray)
  unfold impl_dnKey.keyAll
  rw [show (⟨#[]⟩ : ByteArray).size = 0 from rfl] at this
  omega
 intro es
 induction es with
 | nil => intro x; simp
 | cons e es ih =>
  intro x
  have h1 := ih (impl_dnKey.keyStep x e.1.2.1.f0 e.1.2.2)
  rw [impl_dnKey.keyStep_size] at h1
  have h2 := e.2.2
  simp only [List.foldl_cons, List.length_cons]
  omega
theorem impl_dnKey.go_es (k : Nat) (r : ByteArray) : ∀ (l : List S42) (x : ByteArray) (n : Int), impl_dnKey.go k l x = some r →
  ∃ es : List (impl_dnKey.El k), es.length = l.length ∧ (∀ (j : Nat) (y : S42), l[j]? = some y → ∃ e : impl_dnKey.El k, es[j]? = some e ∧ e.1.1 = n - (j : Int) ∧ e.1.2.1 = y) ∧ r = es.foldl (fun x e => impl_dnKey.keyStep x e.1.2.1.f0 e.1.2.2) x
 | [], x, n, h => ⟨[], rfl, fun j y hj => by simp at hj, (Option.some.inj h).symm⟩
 | y :: ys, x, n, h => by
  obtain ⟨t, ht, h1⟩ := Option.bind_eq_some_iff.1 (show (impl_Norm.f k y.f1).bind _ = some r from h)
  by_cases hc : y.f0.size + t.size ≤ 4294967296
  ·rw [if_pos hc] at h1
   obtain ⟨es, h2, h3, h4⟩ := impl_dnKey.go_es k r ys _ (n - 1) h1
   refine ⟨⟨(n, y, t), ht, hc⟩ :: es, by simp [h2], fun j z hj => ?_, h4⟩
   cases j with
   | zero =>
    obtain rfl : y = z := by simpa using hj
    exact ⟨_, rfl, by simp, rfl⟩
   | succ j =>
    obtain ⟨e, h5, h6, h7⟩ := h3 j z (by simpa using hj)
    exact ⟨e, by simpa using h5, by rw [h6]; omega, h7⟩
  ·rw [if_neg hc] at h1; cases h1
def impl_dnKey.encE {k : Nat} (x : impl_dnKey.El k) : Array Value := #[.int .i64 x.1.1, .agg #[.string x.1.2.1.f0, .string x.1.2.1.f1]]
def impl_dnKey.KpB (n₀ Bs : Nat) (sv : Value) (A B : World) : Prop := Below n₀ A B ∧ (Boxed A Bs 32 sv → Boxed B Bs 32 sv)
theorem impl_dnKey.kpB_t {n₀ Bs : Nat} {sv : Value} {A B C : World} (h : impl_dnKey.KpB n₀ Bs sv A B) (g : impl_dnKey.KpB n₀ Bs sv B C) : impl_dnKey.KpB n₀ Bs sv A C := ⟨h.1.trans g.1, fun x => g.2 (h.2 x)⟩
theorem impl_dnKey.kpB_b {n₀ Bs : Nat} {sv : Value} {w : World} (hn : n₀ ≤ w.heap.size) (W : World) (l : Nat) (o o' : Obj) (hl : w.heap.size ≤ l) (h : W.heap[l]? = some o) (hc : o.isCells = false) (hw : o.isWalk = false) : impl_dnKey.KpB n₀ Bs sv W (W.putObj l o') :=
 ⟨belowK_b hn W l o o' hl h hc hw, fun hb => hb.kept (grownBy_putObj' W l o') (fun e => by cases e; rw [show W.heap[Bs]? = _ from hb] at h; cases h; cases hc)⟩
set_option maxRecDepth 100000 in
set_option maxHeartbeats 2000000 in
theorem impl_dnKey.backward1_in (k n : Nat) (hn : 1 ≤ n) (l Bs : Nat) (A0 : Option Addr) (c0 : Nat) (l0 : List S42) (w0 : World) (hr0 : Kd.C k42 w0 A0 l0.length l0) (hlen : l0.length ≤ 1048576) (es : List (impl_dnKey.El k)) (hes : es.length = l0.length)
  (hee : ∀ (j : Nat) (y : S42), l0.reverse[j]? = some y → ∃ e : impl_dnKey.El k, es[j]? = some e ∧ e.1.1 = ((l0.length : Int) - 1) - (j : Int) ∧ e.1.2.1 = y) (J Jx : List (impl_dnKey.El k) → World → Prop)
  (hY : ∀ pre x W, J pre W → pre.length < l0.length → YieldAt Fence.wide (n - 1) Tryd.prog l (impl_dnKey.encE x) W fun e W' =>
   (e = .returned (.bool true) ∧ J (pre ++ [x]) W' ∧ impl_dnKey.KpB w0.heap.size Bs (.slice A0 l0.length c0) W W') ∨ (e = .returned (.bool false) ∧ Jx (pre ++ [x]) W'))
  (W : World) (hW0 : Below w0.heap.size w0 W) (hBs : Boxed W Bs 32 (.slice A0 l0.length c0)) (h0 : J [] W) :
  CallsIn Fence.wide n Tryd.prog 159 #[.func (.yield l) #[] #[], .pointer (some ⟨Bs, 0, none⟩)] W fun e W' => (∃ v, e = .returned v) ∧
   ((∃ ys, ys = es ∧ J ys W') ∨ (∃ pre, pre <+: es ∧ Jx pre W')) := by
 have hcs := hBs.cell
 refine callsIn_of_wp Tryd.func159 rfl trivial ?_ rfl
 simp only [Tryd.ntmps159, List.size_toArray, List.length_cons, List.length_nil, Nat.reduceAdd, Nat.reduceSub, Array.replicate_succ, Array.replicate_zero, List.push_toArray, List.append_toArray, List.nil_append, List.cons_append]
 gi_wp2
 gi_loopw [3] (fun i wr => ∃ q : Nat, q ≤ l0.length ∧ i = .int .i64 ((l0.length : Int) - 1 - (q : Int)) ∧ J (es.take q) wr ∧ Below w0.heap.size w0 wr ∧ Boxed wr Bs 32 (.slice A0 l0.length c0))
  (fun i _ => (intOf i + 1).toNat)
 case atStart => exact ⟨0, Nat.zero_le _, by first | rfl | (congr 1; simp; done) | (congr 1; unfold wrap64; omega), h0, hW0, hBs⟩
 case round =>
  obtain ⟨q, hq, rfl, hJs, hnx, hbx⟩ := hrel
  have hcb := hbx.cell
  by_cases hlt : q < l0.length
  ·have hrev : l0.reverse[q]? = some (rd_T42 l0 ((l0.length : Int) - 1 - (q : Int))) := by
    rw [List.getElem?_reverse hlt]
    unfold rd_T42
    rw [show ((l0.length : Int) - 1 - (q : Int)).toNat = l0.length - 1 - q by omega, List.getD_eq_getElem?_getD, List.getElem?_eq_getElem (by omega)]
    rfl
   obtain ⟨e, he, hi, hy⟩ := hee q _ hrev
   obtain ⟨fn, tmps, assign, body, hyy, hR⟩ := hY (es.take q) e wr hJs (by rw [List.length_take]; omega)
   simp only [impl_dnKey.encE, hi, hy] at hyy
   have hp : 0 ≤ (l0.length : Int) - 1 - (q : Int) := by omega
   have hp2 : (l0.length : Int) - 1 - (q : Int) < (l0.length : Int) := by omega
   obtain ⟨ad, e1, hx0, hx1⟩ := at_T42 hr0 ((l0.length : Int) - 1 - (q : Int)) hp hp2
   cases e1
   replace hx0 := (hnx.cell (World.block_lt_of_cell? w0 _ hx0)).trans hx0
   replace hx1 := (hnx.cell (World.block_lt_of_cell? w0 _ hx1)).trans hx1
   rw [show ((l0.length : Int) - 1 - (q : Int)).toNat = l0.length - 1 - q by omega] at hx0 hx1
   have hpd := decide_eq_true hp
   have hp2d := decide_eq_true hp2
   gi_wp2
   refine hR.mono ?_
   rintro e' W3 (⟨rfl, hJ3, hk3⟩ | ⟨rfl, hJx3⟩)
   ·gi_wp2
    go_roundw
    case rel => exact ⟨q + 1, by omega, by first | rfl | (congr 1; omega) | (congr 1; unfold wrap64; omega), by rw [List.take_add_one, he]; exact hJ3, hnx.trans hk3.1, hk3.2 hbx⟩
    case measure => first | (simp [intOf]; omega) | (simp [intOf]; unfold wrap64; omega)
   ·gi_wp2
    refine bodyPost_ret (results_none rfl _ _ _) rfl ?_
    exact ⟨⟨_, rfl⟩, .inr ⟨_, ⟨es.drop (q + 1), by have h9 := List.take_append_drop (q + 1) es; rw [List.take_add_one, he] at h9; exact h9⟩, hJx3⟩⟩
  ·obtain rfl : q = l0.length := by omega
   gi_wp2
   go_end0
   exact ⟨⟨_, rfl⟩, .inl ⟨_, rfl, by rw [← hes, List.take_length] at hJs; exact hJs⟩⟩
set_option maxHeartbeats 1000000 in
theorem impl_dnKey.backward_in (n : Nat) (a : Option Addr) (len cap : Nat) (w : World) :
  CallsIn Fence.wide n Tryd.prog 125 #[.slice a len cap] w fun e w' => e = .returned (.func (.func 159) #[] #[.pointer (some ⟨w.heap.size, 0, none⟩)]) ∧ w' = w.alloc (.cells #[.slice a len cap] 32) := by
 refine callsIn_of_wp Tryd.func125 rfl trivial ?_ rfl
 simp only [Tryd.ntmps125, List.size_toArray, List.length_cons, List.length_nil, Nat.reduceAdd, Nat.reduceSub, Array.replicate_succ, Array.replicate_zero, List.push_toArray, List.append_toArray, List.nil_append, List.cons_append]
 gi_wp2
 go_ret
 exact ⟨rfl, rfl⟩
theorem impl_dnKey.backward_stops (k n : Nat) (hn : 1 ≤ n) (Bs : Nat) (A0 : Option Addr) (c0 : Nat) (l0 : List S42) (w0 : World) (hr0 : Kd.C k42 w0 A0 l0.length l0) (hlen : l0.length ≤ 1048576) (es : List (impl_dnKey.El k)) (hes : es.length = l0.length)
  (hee : ∀ (j : Nat) (y : S42), l0.reverse[j]? = some y → ∃ e : impl_dnKey.El k, es[j]? = some e ∧ e.1.1 = ((l0.length : Int) - 1) - (j : Int) ∧ e.1.2.1 = y) (w : World) (hB : Below w0.heap.size w0 w) (hc : Boxed w Bs 32 (.slice A0 l0.length c0)) :
  SeqStopsK Fence.wide n Tryd.prog 159 #[.pointer (some ⟨Bs, 0, none⟩)] (impl_dnKey.encE (k := k)) (impl_dnKey.KpB w0.heap.size Bs (.slice A0 l0.length c0)) (fun ys => ys = es) (fun pre => pre <+: es) l0.length w := fun l J Jx W hW _ _ hY h0 =>
 impl_dnKey.backward1_in k n hn l Bs A0 c0 l0 w0 hr0 hlen es hes hee J Jx hY W (hB.trans (hW.mono hB.size)) ((hW.block Bs hc.lt).trans hc) h0
theorem impl_dnKey.keepsFrom {W W' : World} (h : Below W.heap.size W W') (B : Nat) : KeepsFrom B W W' := ⟨h.size, fun k o _ h0 _ => (h.block k (Array.getElem?_eq_some_iff.1 h0).1).trans h0⟩
set_option maxRecDepth 100000 in
set_option maxHeartbeats 4000000 in
theorem impl_dnKey.calls (k : Nat) (A0 : Option Addr) (c0 : Nat) (l0 : List S42) (r : ByteArray) (w : World) (hr0 : Kd.C k42 w A0 l0.length l0) (hc0 : l0.length ≤ c0) (h : impl_dnKey.f k l0 = some r) :
  Calls Tryd.prog 83 #[.slice A0 l0.length c0] w fun e w' => e = .returned (.string r) ∧ Below w.heap.size w w' := by
 unfold impl_dnKey.f at h
 by_cases hlen : l0.length ≤ 1048576
 case neg => rw [if_neg hlen] at h; cases h
 rw [if_pos hlen] at h
 obtain ⟨es, hes, hee, hr⟩ := impl_dnKey.go_es k r _ _ ((l0.length : Int) - 1) h
 rw [List.length_reverse] at hes
 obtain rfl : r = impl_dnKey.keyAll es := hr
 clear h
 refine (callsIn_wide (n := 6)).1 ?_
 refine callsIn_of_wp_marks Tryd.func83 rfl trivial ?_ rfl
 simp only [Tryd.ntmps83, List.size_toArray, List.length_cons, List.length_nil, Nat.reduceAdd, Nat.reduceSub, Array.replicate_succ, Array.replicate_zero, List.push_toArray, List.append_toArray, List.nil_append, List.cons_append]
 gi_wp2_with (refine ⟨trivial, ?_⟩; gi_at_call 125; refine (impl_dnKey.backward_in 5 _ _ _ _).mono ?_; rintro e w' ⟨rfl, rfl⟩)
 have bO := (Boxed.new w 9 (.string (⟨#[]⟩ : ByteArray))).alloc (.cells #[.slice A0 l0.length c0] 32)
 have bS := Boxed.new (w.alloc (.cells #[.string (⟨#[]⟩ : ByteArray)] 9)) 32 (.slice A0 l0.length c0)
 simp only [World.size_alloc] at bS
 have hB0 : Below w.heap.size w ((w.alloc (.cells #[.string (⟨#[]⟩ : ByteArray)] 9)).alloc (.cells #[.slice A0 l0.length c0] 32)) := ((Below.refl _ w).alloc (Nat.le_refl _) _).alloc (by simp) _
 have hsz : ((w.alloc (.cells #[.string (⟨#[]⟩ : ByteArray)] 9)).alloc (.cells #[.slice A0 l0.length c0] 32)).heap.size = w.heap.size + 2 := by simp
 obtain ⟨W0, hW0⟩ : ∃ W0, (w.alloc (.cells #[.string (⟨#[]⟩ : ByteArray)] 9)).alloc (.cells #[.slice A0 l0.length c0] 32) = W0 := ⟨_, rfl⟩
 rw [hW0] at bO bS hB0 hsz ⊢
 clear hW0
 refine wpIn_rangeFunc_ownH rfl (by omega) (gf := 159) (lb := #[.pointer (some ⟨w.heap.size + 1, 0, none⟩)]) rfl trivial (enters_of Tryd.func159 (by kernel_rfl) rfl)
  (impl_dnKey.backward_stops k 5 (by omega) (w.heap.size + 1) A0 c0 l0 w hr0 hlen es hes hee W0 hB0 bS) impl_dnKey.kpB_t (impl_dnKey.kpB_b (by omega)) (Below.refl _ _) (fun _ => rfl)
  (fun pre W => (Boxed W w.heap.size 9 (.string (impl_dnKey.keyAll pre)) ∧ Boxed W (w.heap.size + 1) 32 (.slice A0 l0.length c0)) ∧ Below w.heap.size w W)
  (fun _ _ _ => False)
  (OwnFrom.and (OwnFrom.and (Own.from (boxed_own _ _ _) _) (Own.from (boxed_own _ _ _) _)) (ownFrom_below (Nat.le_refl _) (by omega)))
  (fun _ _ _ _ _ hs _ _ => hs)
  ⟨⟨bO, bS⟩, hB0⟩
  (fun x a' W => ∃ Bx, w.heap.size + 1 < Bx ∧ W.heap[Bx]? = some (.cells #[.string x.1.2.1.f0, .string x.1.2.1.f1] 42 (0, 0)) ∧ a' = { tmps := #[.slice A0 l0.length c0, undef, .string (⟨#[]⟩ : ByteArray), .pointer (some ⟨w.heap.size, 0, none⟩), undef, .pointer (some ⟨Bx, 0, none⟩), .slice A0 l0.length c0, .func (.func 159) #[] #[.pointer (some ⟨w.heap.size + 1, 0, none⟩)], .int .i64 x.1.1, .agg #[.string x.1.2.1.f0, .string x.1.2.1.f1], undef, undef, undef, undef, undef, undef, undef, undef, undef, undef, undef], defers := [] })
  (fun x a' _ X Y row hs hg hr => by
   obtain ⟨Bx, h1, h2, h3⟩ := hs
   exact ⟨Bx, h1, (hg.block Bx (Array.getElem?_eq_some_iff.1 h2).1 (fun e => by obtain ⟨_, o, ho, hc⟩ := hr Bx e.symm; rw [h2] at ho; cases ho; cases hc)).trans h2, h3⟩)
  ?assign ?body ?done ?stop
 case assign =>
  rintro l pre x W K ⟨⟨bO1, bS1⟩, hB1⟩ hK
  simp only [impl_dnKey.encE]
  gi_wp2
  have hBW := (Below.refl W.heap.size W).alloc (Nat.le_refl _) (.cells #[.string x.1.2.1.f0, .string x.1.2.1.f1] 42)
  exact hK _ _ (impl_dnKey.keepsFrom hBW _) ⟨hBW.mono hB1.size, fun hb => (hBW.block _ hb.lt).trans hb⟩ ⟨⟨(hBW.block _ bO1.lt).trans bO1, (hBW.block _ bS1.lt).trans bS1⟩, hB1.trans (hBW.mono hB1.size)⟩
   ⟨W.heap.size, bS1.lt, World.alloc_heap_new W _, rfl⟩
 case body =>
  rintro l pre x a' W hl ⟨r, hr⟩ ⟨⟨bO1, bS1⟩, hB1⟩ ⟨Bx, hBx, bX, rfl⟩ hlt
  have hsO := impl_dnKey.keyAll_size pre
  have hx2 := x.2.2
  have hBR := Aside0.mk (Below.refl W.heap.size W)
  have hN := x.2.1
  have cO : W.drew.cell? ⟨w.heap.size, 0, none⟩ = some (.string (impl_dnKey.keyAll pre)) := bO1.cell
  have cX0 : W.drew.cell? ⟨Bx, 0, none⟩ = some (.string x.1.2.1.f0) := blk_cell (w := W.drew) bX 0
  have cX1 : W.drew.cell? ⟨Bx, 1, none⟩ = some (.string x.1.2.1.f1) := blk_cell (w := W.drew) bX 1
  have c1 : (9223372036854775807 < 1 + x.1.2.1.f0.size) = False := eq_false (by omega)
  have c2 : (9223372036854775807 < 1 + x.1.2.1.f0.size + 1) = False := eq_false (by omega)
  have c3 : (9223372036854775807 < 1 + x.1.2.1.f0.size + 1 + x.1.2.2.size) = False := eq_false (by omega)
  have c4 : (9223372036854775807 < (impl_dnKey.keyAll pre).size + (1 + x.1.2.1.f0.size + 1 + x.1.2.2.size)) = False := eq_false (by omega)
  refine wpIn_block ?_
  refine impl_dnKey.region_round (by kernel_rfl) (by kernel_rfl) (by rintro ⟨_, _, h⟩; exact h) ?_
  have hS : W.drew.cell? ⟨w.heap.size, 0, none⟩ = some (.string (impl_dnKey.keyAll pre)) ∧ W.drew.cell? ⟨Bx, 0, none⟩ = some (.string x.1.2.1.f0) ∧ W.drew.cell? ⟨Bx, 1, none⟩ = some (.string x.1.2.1.f1) := ⟨cO, cX0, cX1⟩
  refine wpAny_of_last (S := fun w' => w'.cell? ⟨w.heap.size, 0, none⟩ = some (.string (impl_dnKey.keyAll pre)) ∧ w'.cell? ⟨Bx, 0, none⟩ = some (.string x.1.2.1.f0) ∧ w'.cell? ⟨Bx, 1, none⟩ = some (.string x.1.2.1.f1)) (ds := [10]) _ _ _ _ ?_
  show wpAnyLast _ _ _ _ _ _ 11 #[false, false, false, false, false, false, false, false, false, false, false] _ _
  refine take_ (i := 0) (N := some 10) (v := ?_) (a' := ?_) #[true, false, false, false, false, false, false, false, false, false, false] rfl rfl (by kernel_rfl) (fun _ _ _ h => h) (Or.inl ⟨by rfl, ?_⟩) hS ?_ ?_
  rotate_left
  ·rintro w' ⟨s0, s1, s2⟩
   go_simp
   with_reducible rfl
  rotate_left
  ·simp only [Act.put, List.setIfInBounds_toArray, List.set_cons_zero, List.set_cons_succ, i64_w, i32_w]
   rfl
  refine pure_ (i := 1) (N := some 11) (v := ?_) (a' := ?_) #[true, true, false, false, false, false, false, false, false, false, false] rfl rfl (by kernel_rfl) (fun _ _ _ h => h) (Or.inl ⟨by rfl, ?_⟩) ?_ ?_
  rotate_left
  ·intro w'
   go_simp
   with_reducible rfl
  rotate_left
  ·simp only [Act.put, List.setIfInBounds_toArray, List.set_cons_zero, List.set_cons_succ, i64_w, i32_w]
   rfl
  refine take_ (i := 2) (N := some 12) (v := ?_) (a' := ?_) #[true, true, true, false, false, false, false, false, false, false, false] rfl rfl (by kernel_rfl) (fun _ _ _ h => h) (Or.inl ⟨by rfl, ?_⟩) hS ?_ ?_
  rotate_left
  ·rintro w' ⟨s0, s1, s2⟩
   go_simp
   with_reducible rfl
  rotate_left
  ·simp only [Act.put, List.setIfInBounds_toArray, List.set_cons_zero, List.set_cons_succ, i64_w, i32_w]
   rfl
  refine pure_ (i := 3) (N := some 13) (v := ?_) (a' := ?_) #[true, true, true, true, false, false, false, false, false, false, false] rfl rfl (by kernel_rfl) (fun _ _ _ h => h) (Or.inl ⟨by rfl, ?_⟩) ?_ ?_
  rotate_left
  ·intro w'
   go_simp
   with_reducible rfl
  rotate_left
  ·simp only [Act.put, List.setIfInBounds_toArray, List.set_cons_zero, List.set_cons_succ, i64_w, i32_w]
   rfl
  refine pure_ (i := 4) (N := some 14) (v := ?_) (a' := ?_) #[true, true, true, true, true, false, false, false, false, false, false] rfl rfl (by kernel_rfl) (fun _ _ _ h => h) (Or.inl ⟨by rfl, ?_⟩) ?_ ?_
  rotate_left
  ·intro w'
   go_simp
   with_reducible rfl
  rotate_left
  ·simp only [Act.put, List.setIfInBounds_toArray, List.set_cons_zero, List.set_cons_succ, i64_w, i32_w]
   rfl
  refine pure_ (i := 5) (N := some 15) (v := ?_) (a' := ?_) #[true, true, true, true, true, true, false, false, false, false, false] rfl rfl (by kernel_rfl) (fun _ _ _ h => h) (Or.inl ⟨by rfl, ?_⟩) ?_ ?_
  rotate_left
  ·intro w'
   go_simp
   with_reducible rfl
  rotate_left
  ·simp only [Act.put, List.setIfInBounds_toArray, List.set_cons_zero, List.set_cons_succ, i64_w, i32_w]
   rfl
  refine take_ (i := 6) (N := some 16) (v := ?_) (a' := ?_) #[true, true, true, true, true, true, true, false, false, false, false] rfl rfl (by kernel_rfl) (fun _ _ _ h => h) (Or.inl ⟨by rfl, ?_⟩) hS ?_ ?_
  rotate_left
  ·rintro w' ⟨s0, s1, s2⟩
   go_simp
   with_reducible rfl
  rotate_left
  ·simp only [Act.put, List.setIfInBounds_toArray, List.set_cons_zero, List.set_cons_succ, i64_w, i32_w]
   rfl
  refine one_ (i := 7) (N := some 17) #[true, true, true, true, true, true, true, true, false, false, false] rfl rfl (by kernel_rfl) (by decide) (fun K hK => ?_)
  refine goes_ Tryd.func126 (by kernel_rfl) rfl #[.string x.1.2.1.f1] (by rfl) rfl rfl (by (try simp only [List.map_toArray, List.map_cons, List.map_nil]); first | done | rfl) ?_
  refine (impl_Norm.calls k x.1.2.1.f1 x.1.2.2 _ hN).mono ?_
  rintro e w5 ⟨rfl, hb⟩
  refine ⟨_, rfl, ?_⟩
  have hb' : Below W.heap.size W w5 := (Below.refl W.heap.size W).drew.trans hb
  refine hK.out _ _ ⟨(hb.cell (p := ⟨w.heap.size, 0, none⟩) bO1.lt).trans cO, (hb.cell (p := ⟨Bx, 0, none⟩) (blk_lt bX)).trans cX0, (hb.cell (p := ⟨Bx, 1, none⟩) (blk_lt bX)).trans cX1⟩ (fun hS => ?_)
  clear hK K
  refine norm_ (a' := ?_) ?_ ?_
  rotate_left
  ·show Act.put _ (some 17) _ = _
   simp only [Act.put, List.setIfInBounds_toArray, List.set_cons_zero, List.set_cons_succ, i64_w, i32_w]
   rfl
  refine pure_ (i := 8) (N := some 18) (v := ?_) (a' := ?_) #[true, true, true, true, true, true, true, true, true, false, false] rfl rfl (by kernel_rfl) (fun _ _ _ h => h) (Or.inl ⟨by rfl, ?_⟩) ?_ ?_
  rotate_left
  ·intro w'
   go_simp
   with_reducible rfl
  rotate_left
  ·simp only [Act.put, List.setIfInBounds_toArray, List.set_cons_zero, List.set_cons_succ, i64_w, i32_w]
   rfl
  refine pure_ (i := 9) (N := some 19) (v := ?_) (a' := ?_) #[true, true, true, true, true, true, true, true, true, true, false] rfl rfl (by kernel_rfl) (fun _ _ _ h => h) (Or.inl ⟨by rfl, ?_⟩) ?_ ?_
  rotate_left
  ·intro w'
   go_simp
   with_reducible rfl
  rotate_left
  ·simp only [Act.put, List.setIfInBounds_toArray, List.set_cons_zero, List.set_cons_succ, i64_w, i32_w]
   rfl
  have bO5 : Boxed w5 w.heap.size 9 (.string (impl_dnKey.keyAll pre)) := (hb.block _ bO1.lt).trans bO1
  have hs29 := bO5.cell
  have hfs29 := bO5.frozen
  refine last_ (i := 10) (N := none) #[true, true, true, true, true, true, true, true, true, true, true] rfl rfl (by kernel_rfl) (by decide) (fun K hK => ?_)
  refine skip_ (w1 := ?_) (by rfl) rfl ?_ ?_
  rotate_left
  ·go_simp
   rfl
  refine hK.out _ _ ?_
  clear hK K
  refine done_ (by kernel_rfl) ?_
  have hK5 : KeepsFrom W0.heap.size W w5 := impl_dnKey.keepsFrom hb' _
  have hBw := hb'.mono hB1.size
  have bS5 : Boxed w5 (w.heap.size + 1) 32 (.slice A0 l0.length c0) := (hb'.block _ bS1.lt).trans bS1
  have hks : impl_dnKey.keyAll (pre ++ [x]) = impl_dnKey.keyAll pre ++ ((((⟨#[1]⟩ : ByteArray) ++ x.1.2.1.f0) ++ (⟨#[61]⟩ : ByteArray)) ++ x.1.2.2) := impl_dnKey.keyAll_snoc pre x
  rw [← hks]
  have hset := hBw.setCell (p := ⟨w.heap.size, 0, none⟩) (Nat.le_refl _) (.string (impl_dnKey.keyAll (pre ++ [x])))
  exact ⟨hK5.trans ((KeepsOthers.setCell _ _ _).from _), ⟨hset, fun hx => Boxed.other ((hb'.block _ hx.lt).trans hx) (by omega) _⟩, ⟨bO5.set _, bS5.other (by omega) _⟩, hB1.trans hset⟩
 case done =>
  rintro D zs W hD rfl ⟨⟨bO1, bS1⟩, hB1⟩ hK
  have cS := bO1.cell
  gi_wp2
  refine ⟨by simp, .inl ⟨_, _, rfl, run_takeDeferred hK, ?_⟩⟩
  exact ⟨_, results_tmp rfl _ _ _, rfl, hB1.trans (belowK_b (w := w) (Nat.le_refl _) W D _ _ (by omega) hK rfl rfl)⟩
 case stop =>
  rintro D c pre W _ _ h _
  exact h.elim
end
def impl_dnSame.f (k : Nat) (l0 : List (S42)) (l1 : List (S42)) : Option (Bool) := if (l0.length : Int) = (l1.length : Int) then ((impl_dnKey.f k l0).bind fun t129 => ((impl_dnKey.f k l1).bind fun t130 => (some (t129.toList == t130.toList)))) else (some false)
theorem impl_dnSame.mono : ∀ a0 a1 k, LeO (impl_dnSame.f k a0 a1) (impl_dnSame.f (k + 1) a0 a1) := by
 intro a0 a1 k
 unfold impl_dnSame.f
 repeat' first
   | (with_reducible exact impl_dnKey.mono _ _)
   | (with_reducible exact LeO.refl _)
   | (with_reducible exact LeO.none _)
   | (with_reducible refine LeO.ite ?_ ?_)
   | (with_reducible refine LeO.bind ?_ (fun _ => ?_))
   | exact impl_dnKey.mono _ _
   | exact LeO.none _
   | refine LeO.ite ?_ ?_
   | refine LeO.bind ?_ (fun _ => ?_)
set_option maxHeartbeats 8000000 in
set_option maxRecDepth 100000 in
theorem impl_dnSame.calls (k : Nat) (A0 : Option Addr) (c0 : Nat) (l0 : List (S42)) (A1 : Option Addr) (c1 : Nat) (l1 : List (S42)) (r : Bool) (w : World) (hr0 : Kd.C k42 w A0 l0.length l0) (hc0 : l0.length ≤ c0) (hr1 : Kd.C k42 w A1 l1.length l1) (hc1 : l1.length ≤ c1) (h : impl_dnSame.f k l0 l1 = some r) :
  Calls Tryd.prog 80 #[.slice A0 l0.length c0, .slice A1 l1.length c1] w fun e w' => e = .returned (.bool r) ∧ Below w.heap.size w w' := by
 have HR0 := Aside0.mk hr0
 have HC0 := Aside0.mk hc0
 clear hr0 hc0
 have HR1 := Aside0.mk hr1
 have HC1 := Aside0.mk hc1
 clear hr1 hc1
 have HB := Aside0.mk (Below.refl w.heap.size w)
 have H : (if (l0.length : Int) = (l1.length : Int) then ((impl_dnKey.f k l0).bind fun t129 => ((impl_dnKey.f k l1).bind fun t130 => (some (t129.toList == t130.toList)))) else (some false)) = some r := h
 clear h
 by_cases c3 : (l0.length : Int) = (l1.length : Int)
 ·rw [if_pos c3] at H
  have c3b0 : ((l0.length : Int) == (l1.length : Int)) = true := beq_iff_eq.mpr c3
  have c3b1 : ((l0.length : Int) != (l1.length : Int)) = false := bne_eq_false_iff_eq.mpr c3
  have c3b2 : (l0.length == l1.length) = true := by first | simpa using c3 | (simp at c3 ⊢; omega)
  clear c3
  replace H := Option.bind_eq_some_iff.mp H
  obtain ⟨t129, A40, H⟩ := H
  replace H : ((impl_dnKey.f k l1).bind fun t130 => (some (t129.toList == t130.toList))) = some r := H
  have A4 := Aside0.mk A40
  clear A40
  replace H := Option.bind_eq_some_iff.mp H
  obtain ⟨t130, A50, H⟩ := H
  replace H : (some (t129.toList == t130.toList)) = some r := H
  have A5 := Aside0.mk A50
  clear A50
  obtain rfl := Option.some.inj H
  go_enter Tryd.func80, Tryd.ntmps80
  go_wp2_with (first | (go_at_call 83; (with_reducible refine (impl_dnKey.calls k _ _ l0 t129 _ ?side1 ?side2 A4.out).mono ?_); (case side1 => repeat (first | exact HR0.out | (with_reducible refine Kd.C_alloc ?_ _) | (with_reducible refine Kd.C_drewN ?_ _) | (with_reducible refine Kd.C_drew ?_))); (case side2 => exact HC0.out); rintro e w6 ⟨rfl, hb⟩; have n0_ := Aside0.mk (below_step HBa hb); clear HB; have HB := n0_; clear n0_; (try clear hb); (try clear hb2); (try clear hk); (try clear hi)) | (go_at_call 83; (with_reducible refine (impl_dnKey.calls k _ _ l1 t130 _ ?side1 ?side2 A5.out).mono ?_); (case side1 => repeat (first | exact (Kd.C_below HR1.out HB.out) | (with_reducible refine Kd.C_alloc ?_ _) | (with_reducible refine Kd.C_drewN ?_ _) | (with_reducible refine Kd.C_drew ?_))); (case side2 => exact HC1.out); rintro e w7 ⟨rfl, hb⟩; have n0_ := Aside0.mk (below_step HBa hb); clear HB; have HB := n0_; clear n0_; (try clear hb); (try clear hb2); (try clear hk); (try clear hi)))
  go_ret
  exact ⟨EZa, HBa⟩
 ·rw [if_neg c3] at H
  have c3b0 : ((l0.length : Int) == (l1.length : Int)) = false := beq_eq_false_iff_ne.mpr c3
  have c3b1 : ((l0.length : Int) != (l1.length : Int)) = true := bne_iff_ne.mpr c3
  have c3b2 : (l0.length == l1.length) = false := by first | simpa using c3 | (simp at c3 ⊢; omega)
  obtain rfl := Option.some.inj H
  go_enter Tryd.func80, Tryd.ntmps80
  go_wp2
  go_ret
  exact ⟨EZa, HBa⟩
def impl_dnUnder.f (k : Nat) (l0 : List (S42)) (l1 : List (S42)) : Option (Bool) := if (l0.length : Int) ≥ (l1.length : Int) then (if 0 ≤ (wrap64 ((l0.length : Int) - (l1.length : Int))) then (if (wrap64 ((l0.length : Int) - (l1.length : Int))) ≤ (l0.length : Int) then ((impl_dnSame.f k (l0.drop ((wrap64 ((l0.length : Int) - (l1.length : Int))) : Int).toNat) l1).bind fun t135 => (some t135)) else (none)) else (none)) else (some false)
theorem impl_dnUnder.mono : ∀ a0 a1 k, LeO (impl_dnUnder.f k a0 a1) (impl_dnUnder.f (k + 1) a0 a1) := by
 intro a0 a1 k
 unfold impl_dnUnder.f
 repeat' first
   | (with_reducible exact impl_dnSame.mono _ _ _)
   | (with_reducible exact LeO.refl _)
   | (with_reducible exact LeO.none _)
   | (with_reducible refine LeO.ite ?_ ?_)
   | (with_reducible refine LeO.bind ?_ (fun _ => ?_))
   | exact impl_dnSame.mono _ _ _
   | exact LeO.none _
   | refine LeO.ite ?_ ?_
   | refine LeO.bind ?_ (fun _ => ?_)
set_option maxHeartbeats 8000000 in
set_option maxRecDepth 100000 in
theorem impl_dnUnder.calls (k : Nat) (A0 : Option Addr) (c0 : Nat) (l0 : List (S42)) (A1 : Option Addr) (c1 : Nat) (l1 : List (S42)) (r : Bool) (w : World) (hr0 : Kd.C k42 w A0 l0.length l0) (hc0 : l0.length ≤ c0) (hr1 : Kd.C k42 w A1 l1.length l1) (hc1 : l1.length ≤ c1) (h : impl_dnUnder.f k l0 l1 = some r) :
  Calls Tryd.prog 81 #[.slice A0 l0.length c0, .slice A1 l1.length c1] w fun e w' => e = .returned (.bool r) ∧ Below w.heap.size w w' := by
 have HR0 := Aside0.mk hr0
 have HC0 := Aside0.mk hc0
 clear hr0 hc0
 have HR1 := Aside0.mk hr1
 have HC1 := Aside0.mk hc1
 clear hr1 hc1
 have HB := Aside0.mk (Below.refl w.heap.size w)
 have H : (if (l0.length : Int) ≥ (l1.length : Int) then (if 0 ≤ (wrap64 ((l0.length : Int) - (l1.length : Int))) then (if (wrap64 ((l0.length : Int) - (l1.length : Int))) ≤ (l0.length : Int) then ((impl_dnSame.f k (l0.drop ((wrap64 ((l0.length : Int) - (l1.length : Int))) : Int).toNat) l1).bind fun t135 => (some t135)) else (none)) else (none)) else (some false)) = some r := h
 clear h
 by_cases c3 : (l0.length : Int) ≥ (l1.length : Int)
 ·rw [if_pos c3] at H
  have c3b0 : decide ((l1.length : Int) ≤ (l0.length : Int)) = true := decide_eq_true c3
  have c3b1 : decide (l1.length ≤ l0.length) = true := decide_eq_true (Int.ofNat_le.mp c3)
  clear c3
  obtain ⟨ji4, hji4⟩ : ∃ j_ : Int, (wrap64 ((l0.length : Int) - (l1.length : Int))) = j_ := ⟨_, rfl⟩
  replace H : (if 0 ≤ (ji4) then (if (ji4) ≤ (l0.length : Int) then ((impl_dnSame.f k (l0.drop ((ji4) : Int).toNat) l1).bind fun t135 => (some t135)) else (none)) else (none)) = some r := by first | (rw [hji4] at H; exact H) | (simp only [hji4] at H ⊢; exact H)
  have hji4w : (IntKind.i64.wrap ((l0.length : Int) - (l1.length : Int))) = ji4 := (i64_w _).trans hji4
  by_cases c5 : 0 ≤ (ji4)
  ·rw [if_pos c5] at H
   have c5b0 := eq_true c5
   have c5b1 : decide (0 ≤ (ji4)) = true := decide_eq_true c5
   clear c5
   by_cases c6 : (ji4) ≤ (l0.length : Int)
   ·rw [if_pos c6] at H
    have c6b0 := eq_true c6
    have c6b1 : decide ((ji4) ≤ (l0.length : Int)) = true := decide_eq_true c6
    clear c6
    obtain ⟨y131, hy131⟩ : ∃ y_ : List (S42), y_ = (l0.drop ((ji4) : Int).toNat) := ⟨_, rfl⟩
    replace H : ((impl_dnSame.f k y131 l1).bind fun t135 => (some t135)) = some r := by first | (rw [hy131]; with_reducible exact H) | (have H2_ := (Option.bind_some _ _).symm.trans H; rw [hy131]; with_reducible exact H2_) | (have H2_ := (Option.bind_some _ _).symm.trans H; with_reducible exact H2_) | with_reducible exact H | (rw [hy131]; exact H) | exact H
    have Ny131 := Aside0.mk hy131
    clear hy131
    replace H := Option.bind_eq_some_iff.mp H
    obtain ⟨t135, A70, H⟩ := H
    replace H : (some t135) = some r := H
    have A7 := Aside0.mk A70
    clear A70
    obtain rfl := Option.some.inj H
    have q8 : ((ji4) : Int) ≤ ((l0.length : Int) : Int) := ODz
    obtain ⟨i08, hi08, _, hsz8, _⟩ := info_parts info42
    have hroom8 : l0.length ≤ c0 := HC0.out
    have hC8 : Kd.C k42 _ A0 l0.length l0 := HR0.out
    have q08 : (0 : Int) ≤ ((ji4) : Int) := ODz
    have hcut8 := cut_from (P := Tryd.prog) 32 42 .i64 Tryd.underlying32 hi08 2 hsz8 A0 l0.length c0 (ji4) q08 q8
    have hr8 := Kd.C_drop (m := ((ji4) : Int).toNat) (c := c0) hC8 (by omega) hroom8
    obtain ⟨A8, hA8⟩ : ∃ A1, A1 = (if c0 = ((ji4) : Int).toNat then A0 else (A0 : Option Addr).map (·.add (((ji4) : Int).toNat * 2))) := ⟨_, rfl⟩
    obtain ⟨c8, hc8⟩ : ∃ c1, c1 = c0 - ((ji4) : Int).toNat := ⟨_, rfl⟩
    have hy8 : y131.length = l0.length - ((ji4) : Int).toNat := (by rw [Ny131.out, List.length_drop] <;> omega)
    rw [show (l0).drop ((ji4) : Int).toNat = y131 from Ny131.out.symm] at hr8
    replace hr8 : Kd.C k42 _ A8 y131.length y131 := (by rw [hA8]; exact hr8)
    rw [← hy8, ← hA8, ← hc8] at hcut8
    have HR134 := Aside0.mk hr8
    have HC134 := Aside0.mk (show y131.length ≤ c8 from by rw [hy8, hc8]; exact Nat.sub_le_sub_right hroom8 _)
    clear hr8 hC8 hroom8 hi08 hsz8 hc8
    have KY8 := Aside0.mk hy8
    have KA8 := Aside0.mk hA8
    clear hy8 hA8
    replace q8 := eq_true q8
    go_enter Tryd.func81, Tryd.ntmps81
    go_wp2_with (first | (go_at_call 80; (with_reducible refine (impl_dnSame.calls k _ _ y131 _ _ l1 t135 _ ?side1 ?side2 ?side3 ?side4 A7.out).mono ?_); (case side1 => repeat (first | exact HR134.out | (with_reducible refine Kd.C_alloc ?_ _) | (with_reducible refine Kd.C_drewN ?_ _) | (with_reducible refine Kd.C_drew ?_))); (case side2 => exact HC134.out); (case side3 => repeat (first | exact HR1.out | (with_reducible refine Kd.C_alloc ?_ _) | (with_reducible refine Kd.C_drewN ?_ _) | (with_reducible refine Kd.C_drew ?_))); (case side4 => exact HC1.out); rintro e w9 ⟨rfl, hb⟩; have n0_ := Aside0.mk (below_step HBa hb); clear HB; have HB := n0_; clear n0_; (try clear hb); (try clear hb2); (try clear hk); (try clear hi)))
    go_ret
    exact ⟨by first | rfl | (simp only [bne_nil_, beq_nil_]; rfl) | (simp [errW_none, errW_some] <;> rfl) | (simp only [← hji4]; first | rfl | (simp [errW_none, errW_some] <;> rfl)) | (simp [*, errW_none, errW_some] <;> rfl), HBa⟩
   ·rw [if_neg c6] at H
    exact absurd H (by simp)
  ·rw [if_neg c5] at H
   exact absurd H (by simp)
 ·rw [if_neg c3] at H
  have c3b0 : decide ((l1.length : Int) ≤ (l0.length : Int)) = false := decide_eq_false c3
  have c3b1 : decide (l1.length ≤ l0.length) = false := decide_eq_false (fun h => c3 (Int.ofNat_le.mpr h))
  clear c3
  obtain rfl := Option.some.inj H
  go_enter Tryd.func81, Tryd.ntmps81
  go_wp2
  go_ret
  exact ⟨EZa, HBa⟩
def impl_DnUnder.f (k : Nat) (l0 : List (S42)) (l1 : List (S42)) : Option (Bool) := (impl_DnRight.f k l0).bind fun t136 => (if t136 = true then ((impl_DnRight.f k l1).bind fun t137 => (if t137 = true then ((impl_dnUnder.f k l0 l1).bind fun t138 => (some t138)) else (some false))) else (some false))
theorem impl_DnUnder.mono : ∀ a0 a1 k, LeO (impl_DnUnder.f k a0 a1) (impl_DnUnder.f (k + 1) a0 a1) := by
 intro a0 a1 k
 unfold impl_DnUnder.f
 repeat' first
   | (with_reducible exact impl_DnRight.mono _ _)
   | (with_reducible exact impl_dnUnder.mono _ _ _)
   | (with_reducible exact LeO.refl _)
   | (with_reducible exact LeO.none _)
   | (with_reducible refine LeO.ite ?_ ?_)
   | (with_reducible refine LeO.bind ?_ (fun _ => ?_))
   | exact impl_DnRight.mono _ _
   | exact impl_dnUnder.mono _ _ _
   | exact LeO.none _
   | refine LeO.ite ?_ ?_
   | refine LeO.bind ?_ (fun _ => ?_)
set_option maxHeartbeats 8000000 in
set_option maxRecDepth 100000 in
theorem impl_DnUnder.calls (k : Nat) (A0 : Option Addr) (c0 : Nat) (l0 : List (S42)) (A1 : Option Addr) (c1 : Nat) (l1 : List (S42)) (r : Bool) (w : World) (hr0 : Kd.C k42 w A0 l0.length l0) (hc0 : l0.length ≤ c0) (hr1 : Kd.C k42 w A1 l1.length l1) (hc1 : l1.length ≤ c1) (h : impl_DnUnder.f k l0 l1 = some r) :
  Calls Tryd.prog 28 #[.slice A0 l0.length c0, .slice A1 l1.length c1] w fun e w' => e = .returned (.bool r) ∧ Below w.heap.size w w' := by
 have HR0 := Aside0.mk hr0
 have HC0 := Aside0.mk hc0
 clear hr0 hc0
 have HR1 := Aside0.mk hr1
 have HC1 := Aside0.mk hc1
 clear hr1 hc1
 have HB := Aside0.mk (Below.refl w.heap.size w)
 have H : ((impl_DnRight.f k l0).bind fun t136 => (if t136 = true then ((impl_DnRight.f k l1).bind fun t137 => (if t137 = true then ((impl_dnUnder.f k l0 l1).bind fun t138 => (some t138)) else (some false))) else (some false))) = some r := h
 clear h
 replace H := Option.bind_eq_some_iff.mp H
 obtain ⟨t136, A30, H⟩ := H
 replace H : (if t136 = true then ((impl_DnRight.f k l1).bind fun t137 => (if t137 = true then ((impl_dnUnder.f k l0 l1).bind fun t138 => (some t138)) else (some false))) else (some false)) = some r := H
 have A3 := Aside0.mk A30
 clear A30
 by_cases c4 : t136 = true
 ·subst c4
  have H1 : ((impl_DnRight.f k l1).bind fun t137 => (if t137 = true then ((impl_dnUnder.f k l0 l1).bind fun t138 => (some t138)) else (some false))) = some r := by rw [if_pos rfl] at H; exact H
  clear H
  have H := H1
  clear H1
  replace H := Option.bind_eq_some_iff.mp H
  obtain ⟨t137, A50, H⟩ := H
  replace H : (if t137 = true then ((impl_dnUnder.f k l0 l1).bind fun t138 => (some t138)) else (some false)) = some r := H
  have A5 := Aside0.mk A50
  clear A50
  by_cases c6 : t137 = true
  ·subst c6
   have H1 : ((impl_dnUnder.f k l0 l1).bind fun t138 => (some t138)) = some r := by rw [if_pos rfl] at H; exact H
   clear H
   have H := H1
   clear H1
   replace H := Option.bind_eq_some_iff.mp H
   obtain ⟨t138, A70, H⟩ := H
   replace H : (some t138) = some r := H
   have A7 := Aside0.mk A70
   clear A70
   obtain rfl := Option.some.inj H
   go_enter Tryd.func28, Tryd.ntmps28
   go_wp2_with (first | ((with_reducible refine gate_callee (f := 60) rfl ?_); refine goesL_ (some 6) rfl rfl Tryd.func60 (by kernel_rfl) rfl #[.slice A0 l0.length c0] rfl MPz ?_; (with_reducible refine (impl_DnRight.calls k _ _ l0 true _ ?side1 ?side2 A3.out).mono ?_); (case side1 => repeat (first | exact HR0.out | (with_reducible refine Kd.C_alloc ?_ _) | (with_reducible refine Kd.C_drewN ?_ _) | (with_reducible refine Kd.C_drew ?_))); (case side2 => exact HC0.out); rintro e w8 ⟨rfl, hb⟩; refine ⟨_, rfl, ?_⟩; have n0_ := Aside0.mk (below_step HBa hb); clear HB; have HB := n0_; clear n0_; (try clear hb); (try clear hb2); (try clear hk); (try clear hi)) | (go_at_call 60; (with_reducible refine (impl_DnRight.calls k _ _ l1 true _ ?side1 ?side2 A5.out).mono ?_); (case side1 => repeat (first | exact (Kd.C_below HR1.out HB.out) | (with_reducible refine Kd.C_alloc ?_ _) | (with_reducible refine Kd.C_drewN ?_ _) | (with_reducible refine Kd.C_drew ?_))); (case side2 => exact HC1.out); rintro e w9 ⟨rfl, hb⟩; have n0_ := Aside0.mk (below_step HBa hb); clear HB; have HB := n0_; clear n0_; (try clear hb); (try clear hb2); (try clear hk); (try clear hi)) | (go_at_call 81; (with_reducible refine (impl_dnUnder.calls k _ _ l0 _ _ l1 t138 _ ?side1 ?side2 ?side3 ?side4 A7.out).mono ?_); (case side1 => repeat (first | exact (Kd.C_below HR0.out HB.out) | (with_reducible refine Kd.C_alloc ?_ _) | (with_reducible refine Kd.C_drewN ?_ _) | (with_reducible refine Kd.C_drew ?_))); (case side2 => exact HC0.out); (case side3 => repeat (first | exact (Kd.C_below HR1.out HB.out) | (with_reducible refine Kd.C_alloc ?_ _) | (with_reducible refine Kd.C_drewN ?_ _) | (with_reducible refine Kd.C_drew ?_))); (case side4 => exact HC1.out); rintro e w10 ⟨rfl, hb⟩; have n0_ := Aside0.mk (below_step HBa hb); clear HB; have HB := n0_; clear n0_; (try clear hb); (try clear hb2); (try clear hk); (try clear hi)))
   go_ret
   exact ⟨EZa, HBa⟩
  ·replace c6 := Bool.eq_false_iff.mpr c6
   subst c6
   have H1 : (some false) = some r := by rw [if_neg (show ¬ (false = true) by decide)] at H; exact H
   clear H
   have H := H1
   clear H1
   obtain rfl := Option.some.inj H
   go_enter Tryd.func28, Tryd.ntmps28
   go_wp2_with (first | ((with_reducible refine gate_callee (f := 60) rfl ?_); refine goesL_ (some 6) rfl rfl Tryd.func60 (by kernel_rfl) rfl #[.slice A0 l0.length c0] rfl MPz ?_; (with_reducible refine (impl_DnRight.calls k _ _ l0 true _ ?side1 ?side2 A3.out).mono ?_); (case side1 => repeat (first | exact HR0.out | (with_reducible refine Kd.C_alloc ?_ _) | (with_reducible refine Kd.C_drewN ?_ _) | (with_reducible refine Kd.C_drew ?_))); (case side2 => exact HC0.out); rintro e w11 ⟨rfl, hb⟩; refine ⟨_, rfl, ?_⟩; have n0_ := Aside0.mk (below_step HBa hb); clear HB; have HB := n0_; clear n0_; (try clear hb); (try clear hb2); (try clear hk); (try clear hi)) | (go_at_call 60; (with_reducible refine (impl_DnRight.calls k _ _ l1 false _ ?side1 ?side2 A5.out).mono ?_); (case side1 => repeat (first | exact (Kd.C_below HR1.out HB.out) | (with_reducible refine Kd.C_alloc ?_ _) | (with_reducible refine Kd.C_drewN ?_ _) | (with_reducible refine Kd.C_drew ?_))); (case side2 => exact HC1.out); rintro e w12 ⟨rfl, hb⟩; have n0_ := Aside0.mk (below_step HBa hb); clear HB; have HB := n0_; clear n0_; (try clear hb); (try clear hb2); (try clear hk); (try clear hi)))
   go_ret
   exact ⟨EZa, HBa⟩
 ·replace c4 := Bool.eq_false_iff.mpr c4
  subst c4
  have H1 : (some false) = some r := by rw [if_neg (show ¬ (false = true) by decide)] at H; exact H
  clear H
  have H := H1
  clear H1
  obtain rfl := Option.some.inj H
  go_enter Tryd.func28, Tryd.ntmps28
  go_wp2_with (first | ((with_reducible refine gate_callee (f := 60) rfl ?_); refine goesL_ (some 6) rfl rfl Tryd.func60 (by kernel_rfl) rfl #[.slice A0 l0.length c0] rfl MPz ?_; (with_reducible refine (impl_DnRight.calls k _ _ l0 false _ ?side1 ?side2 A3.out).mono ?_); (case side1 => repeat (first | exact HR0.out | (with_reducible refine Kd.C_alloc ?_ _) | (with_reducible refine Kd.C_drewN ?_ _) | (with_reducible refine Kd.C_drew ?_))); (case side2 => exact HC0.out); rintro e w13 ⟨rfl, hb⟩; refine ⟨_, rfl, ?_⟩; have n0_ := Aside0.mk (below_step HBa hb); clear HB; have HB := n0_; clear n0_; (try clear hb); (try clear hb2); (try clear hk); (try clear hi)))
  go_ret
  exact ⟨EZa, HBa⟩
end Go.Proofs.YtdbboelacgehoaaDoor.PFnJoin
