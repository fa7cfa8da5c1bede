-- Laid by this session's own program out of the translation; Lean checks it.
import Derived.Test.YtdbboelacgehoaaDoorQFnExactDnReadx0
import Derived.Test.YtdbboelacgehoaaDoorQFnExactDnReadx9
import Derived.Test.YtdbboelacgehoaaDoorLayIndexByte
namespace Go.Proofs.YtdbboelacgehoaaDoor.PFnExactDnRead
open Go.RowKit Go.Proofs.YtdbboelacgehoaaDoorW.PrintWords Go.Proofs.YtdbboelacgehoaaDoorW.PrintLast Go.Proofs.YtdbboelacgehoaaDoorW.PrintMore
attribute [local go_sem] max2_int min2_int max_two min_two max_three min_three max_four min_four   -- for this text's walks alone
set_option linter.unusedVariables false
set_option linter.unusedSimpArgs false
def impl_isProper.f (k : Nat) (a0 : ByteArray) : Option (Bool) := if (a0.size : Int) ≥ 1 then (if (a0.size : Int) ≤ 40 then ((impl_Norm.f k a0).bind fun t251 => (some (t251.toList != ([] : List UInt8)))) else (some false)) else (some false)
theorem impl_isProper.mono : ∀ a0 k, LeO (impl_isProper.f k a0) (impl_isProper.f (k + 1) a0) := by
 intro a0 k
 unfold impl_isProper.f
 repeat' first
   | (with_reducible exact impl_Norm.mono _ _)
   | (with_reducible exact LeO.refl _)
   | (with_reducible exact LeO.none _)
   | (with_reducible refine LeO.ite ?_ ?_)
   | (with_reducible refine LeO.bind ?_ (fun _ => ?_))
   | exact impl_Norm.mono _ _
   | exact LeO.none _
   | refine LeO.ite ?_ ?_
   | refine LeO.bind ?_ (fun _ => ?_)
set_option maxHeartbeats 8000000 in
set_option maxRecDepth 100000 in
theorem impl_isProper.calls (k : Nat) (a0 : ByteArray) (r : Bool) (w : World) (h : impl_isProper.f k a0 = some r) :
  Calls Tryd.prog 121 #[.string a0] w fun e w' => e = .returned (.bool r) ∧ Below w.heap.size w w' := by
 have HB := Aside0.mk (Below.refl w.heap.size w)
 have H : (if (a0.size : Int) ≥ 1 then (if (a0.size : Int) ≤ 40 then ((impl_Norm.f k a0).bind fun t251 => (some (t251.toList != ([] : List UInt8)))) else (some false)) else (some false)) = some r := h
 clear h
 by_cases c2 : (a0.size : Int) ≥ 1
 ·rw [if_pos c2] at H
  have c2b0 : decide (1 ≤ (a0.size : Int)) = true := decide_eq_true c2
  have c2b1 : decide (1 ≤ a0.size) = true := decide_eq_true (by omega)
  clear c2
  by_cases c3 : (a0.size : Int) ≤ 40
  ·rw [if_pos c3] at H
   have c3b0 : decide ((a0.size : Int) ≤ 40) = true := decide_eq_true c3
   have c3b1 : decide (a0.size ≤ 40) = true := decide_eq_true (by omega)
   clear c3
   replace H := Option.bind_eq_some_iff.mp H
   obtain ⟨t251, A40, H⟩ := H
   replace H : (some (t251.toList != ([] : List UInt8))) = some r := H
   have A4 := Aside0.mk A40
   clear A40
   obtain rfl := Option.some.inj H
   go_enter Tryd.func121, Tryd.ntmps121
   go_wp2_with (first | (go_at_call 126; (with_reducible refine (impl_Norm.calls k a0 t251 _ A4.out).mono ?_); rintro e w5 ⟨rfl, hb⟩; have n0_ := Aside0.mk (below_step HBa hb); clear HB; have HB := n0_; clear n0_; (try clear hb); (try clear hb2); (try clear hk); (try clear hi)))
   go_ret
   exact ⟨EZa, HBa⟩
  ·rw [if_neg c3] at H
   have c3b0 : decide ((a0.size : Int) ≤ 40) = false := decide_eq_false c3
   have c3b1 : decide (a0.size ≤ 40) = false := decide_eq_false (by omega)
   clear c3
   obtain rfl := Option.some.inj H
   go_enter Tryd.func121, Tryd.ntmps121
   go_wp2
   go_ret
   exact ⟨EZa, HBa⟩
 ·rw [if_neg c2] at H
  have c2b0 : decide (1 ≤ (a0.size : Int)) = false := decide_eq_false c2
  have c2b1 : decide (1 ≤ a0.size) = false := decide_eq_false (by omega)
  clear c2
  obtain rfl := Option.some.inj H
  go_enter Tryd.func121, Tryd.ntmps121
  go_wp2
  go_ret
  exact ⟨EZa, HBa⟩
def impl_isRdn.f (k : Nat) (a0_0 : ByteArray) (a0_1 : ByteArray) : Option (Bool) := (impl_NameRight.f a0_0).bind fun t253 => (if t253 = true then ((impl_isProper.f k a0_1).bind fun t254 => (some t254)) else (some false))
theorem impl_isRdn.mono : ∀ a0 a1 k, LeO (impl_isRdn.f k a0 a1) (impl_isRdn.f (k + 1) a0 a1) := by
 intro a0 a1 k
 unfold impl_isRdn.f
 repeat' first
   | (with_reducible exact impl_isProper.mono _ _)
   | (with_reducible exact LeO.refl _)
   | (with_reducible exact LeO.none _)
   | (with_reducible refine LeO.ite ?_ ?_)
   | (with_reducible refine LeO.bind ?_ (fun _ => ?_))
   | exact impl_isProper.mono _ _
   | exact LeO.none _
   | refine LeO.ite ?_ ?_
   | refine LeO.bind ?_ (fun _ => ?_)
set_option maxHeartbeats 8000000 in
set_option maxRecDepth 100000 in
theorem impl_isRdn.calls (k : Nat) (a0_0 : ByteArray) (a0_1 : ByteArray) (r : Bool) (w : World) (h : impl_isRdn.f k a0_0 a0_1 = some r) :
  Calls Tryd.prog 88 #[.agg #[.string a0_0, .string a0_1]] w fun e w' => e = .returned (.bool r) ∧ Below w.heap.size w w' := by
 have hu42 := Tryd.underlying42
 have HB := Aside0.mk (Below.refl w.heap.size w)
 have H : ((impl_NameRight.f a0_0).bind fun t253 => (if t253 = true then ((impl_isProper.f k a0_1).bind fun t254 => (some t254)) else (some false))) = some r := h
 clear h
 replace H := Option.bind_eq_some_iff.mp H
 obtain ⟨t253, A20, H⟩ := H
 replace H : (if t253 = true then ((impl_isProper.f k a0_1).bind fun t254 => (some t254)) else (some false)) = some r := H
 have A2 := Aside0.mk A20
 clear A20
 by_cases c3 : t253 = true
 ·subst c3
  have H1 : ((impl_isProper.f k a0_1).bind fun t254 => (some t254)) = some r := by rw [if_pos rfl] at H; exact H
  clear H
  have H := H1
  clear H1
  replace H := Option.bind_eq_some_iff.mp H
  obtain ⟨t254, A40, H⟩ := H
  replace H : (some t254) = some r := H
  have A4 := Aside0.mk A40
  clear A40
  obtain rfl := Option.some.inj H
  go_enter Tryd.func88, Tryd.ntmps88
  go_wp2_with (first | ((with_reducible refine gate_dst (N := 1) rfl ?_); refine box_event ?hg (N := 1) ?hd (cs := #[.string a0_0, .string a0_1]) (t := 42) ?hr ?_; (case hd => rfl); (case hg => rfl); (case hr => first | (go_simp; done) | (go_simp; rfl)); intro gb252 hg w5 hbox hb; have n0_ := Aside0.mk (below_step HBa hb); have n1_ := Aside0.mk (hbox); have n2_ := Aside0.mk ((by rw [hg]; exact (below_size HBa) : w.heap.size ≤ gb252)); have n3_ := Aside0.mk ((by rw [hg]; exact (below_size HBa) : w.heap.size ≤ gb252)); clear HB; have HB := n0_; have BK252 := n1_; have GW252 := n2_; have GE252 := n3_; clear n0_ n1_ n2_ n3_; clear hb hbox hg; have hcz6_0 : w5.cell? ⟨gb252, 0, none⟩ = some (.string a0_0) := (blk_cell BK252.out 0).trans rfl; have hcz6_1 : w5.cell? ⟨gb252, 1, none⟩ = some (.string a0_1) := (blk_cell BK252.out 1).trans rfl; have hfz6_0 := blk_frozen BK252.out 0; have hfz6_1 := blk_frozen BK252.out 1) | ((with_reducible refine gate_callee (f := 115) rfl ?_); refine goesL_ (some 5) rfl rfl Tryd.func115 (by kernel_rfl) rfl #[.string a0_0] rfl MPz ?_; (with_reducible refine (impl_NameRight.calls a0_0 true _ A2.out).mono ?_); rintro e w7 ⟨rfl, hb⟩; refine ⟨_, rfl, ?_⟩; have n0_ := Aside0.mk (blk_below (g := gb252) (o := .cells #[.string a0_0, .string a0_1] 42 (0, 0)) (BKz BK252) hb); have n1_ := Aside0.mk (below_step (HBb GE252) hb); clear BK252; clear HB; have BK252 := n0_; have HB := n1_; clear n0_ n1_; (try clear hb); (try clear hb2); (try clear hk); (try clear hi); have hcz8_0 : w7.cell? ⟨gb252, 0, none⟩ = some (.string a0_0) := (blk_cell BK252.out 0).trans rfl; have hcz8_1 : w7.cell? ⟨gb252, 1, none⟩ = some (.string a0_1) := (blk_cell BK252.out 1).trans rfl; have hfz8_0 := blk_frozen BK252.out 0; have hfz8_1 := blk_frozen BK252.out 1) | (go_at_call 121; (with_reducible refine (impl_isProper.calls k a0_1 t254 _ A4.out).mono ?_); rintro e w9 ⟨rfl, hb⟩; have n0_ := Aside0.mk (blk_below (g := gb252) (o := .cells #[.string a0_0, .string a0_1] 42 (0, 0)) (BKz BK252) hb); have n1_ := Aside0.mk (below_step (HBb GE252) hb); clear BK252; clear HB; have BK252 := n0_; have HB := n1_; clear n0_ n1_; (try clear hb); (try clear hb2); (try clear hk); (try clear hi)))
  go_ret
  exact ⟨EZa, HBb GE252⟩
 ·replace c3 := Bool.eq_false_iff.mpr c3
  subst c3
  have H1 : (some false) = some r := by rw [if_neg (show ¬ (false = true) by decide)] at H; exact H
  clear H
  have H := H1
  clear H1
  obtain rfl := Option.some.inj H
  go_enter Tryd.func88, Tryd.ntmps88
  go_wp2_with (first | ((with_reducible refine gate_dst (N := 1) rfl ?_); refine box_event ?hg (N := 1) ?hd (cs := #[.string a0_0, .string a0_1]) (t := 42) ?hr ?_; (case hd => rfl); (case hg => rfl); (case hr => first | (go_simp; done) | (go_simp; rfl)); intro gb252 hg w10 hbox hb; have n0_ := Aside0.mk (below_step HBa hb); have n1_ := Aside0.mk (hbox); have n2_ := Aside0.mk ((by rw [hg]; exact (below_size HBa) : w.heap.size ≤ gb252)); have n3_ := Aside0.mk ((by rw [hg]; exact (below_size HBa) : w.heap.size ≤ gb252)); clear HB; have HB := n0_; have BK252 := n1_; have GW252 := n2_; have GE252 := n3_; clear n0_ n1_ n2_ n3_; clear hb hbox hg; have hcz11_0 : w10.cell? ⟨gb252, 0, none⟩ = some (.string a0_0) := (blk_cell BK252.out 0).trans rfl; have hcz11_1 : w10.cell? ⟨gb252, 1, none⟩ = some (.string a0_1) := (blk_cell BK252.out 1).trans rfl; have hfz11_0 := blk_frozen BK252.out 0; have hfz11_1 := blk_frozen BK252.out 1) | ((with_reducible refine gate_callee (f := 115) rfl ?_); refine goesL_ (some 5) rfl rfl Tryd.func115 (by kernel_rfl) rfl #[.string a0_0] rfl MPz ?_; (with_reducible refine (impl_NameRight.calls a0_0 false _ A2.out).mono ?_); rintro e w12 ⟨rfl, hb⟩; refine ⟨_, rfl, ?_⟩; have n0_ := Aside0.mk (blk_below (g := gb252) (o := .cells #[.string a0_0, .string a0_1] 42 (0, 0)) (BKz BK252) hb); have n1_ := Aside0.mk (below_step (HBb GE252) hb); clear BK252; clear HB; have BK252 := n0_; have HB := n1_; clear n0_ n1_; (try clear hb); (try clear hb2); (try clear hk); (try clear hi)))
  go_ret
  exact ⟨EZa, HBb GE252⟩
def impl_DnRight_1.f (k : Nat) (a0_0 : ByteArray) (a0_1 : ByteArray) : Option (Bool) := (impl_isRdn.f k a0_0 a0_1).bind fun t256 => (some (!t256))
theorem impl_DnRight_1.mono : ∀ a0 a1 k, LeO (impl_DnRight_1.f k a0 a1) (impl_DnRight_1.f (k + 1) a0 a1) := by
 intro a0 a1 k
 unfold impl_DnRight_1.f
 repeat' first
   | (with_reducible exact impl_isRdn.mono _ _ _)
   | (with_reducible exact LeO.refl _)
   | (with_reducible exact LeO.none _)
   | (with_reducible refine LeO.ite ?_ ?_)
   | (with_reducible refine LeO.bind ?_ (fun _ => ?_))
   | exact impl_isRdn.mono _ _ _
   | exact LeO.none _
   | refine LeO.ite ?_ ?_
   | refine LeO.bind ?_ (fun _ => ?_)
set_option maxHeartbeats 8000000 in
set_option maxRecDepth 100000 in
theorem impl_DnRight_1.calls (k : Nat) (a0_0 : ByteArray) (a0_1 : ByteArray) (r : Bool) (w : World) (h : impl_DnRight_1.f k a0_0 a0_1 = some r) :
  Calls Tryd.prog 108 #[.agg #[.string a0_0, .string a0_1]] w fun e w' => e = .returned (.bool r) ∧ Below w.heap.size w w' := by
 have hu42 := Tryd.underlying42
 have HB := Aside0.mk (Below.refl w.heap.size w)
 have H : ((impl_isRdn.f k a0_0 a0_1).bind fun t256 => (some (!t256))) = some r := h
 clear h
 replace H := Option.bind_eq_some_iff.mp H
 obtain ⟨t256, A20, H⟩ := H
 replace H : (some (!t256)) = some r := H
 have A2 := Aside0.mk A20
 clear A20
 obtain rfl := Option.some.inj H
 go_enter Tryd.func108, Tryd.ntmps108
 go_wp2_with (first | ((with_reducible refine gate_dst (N := 1) rfl ?_); refine box_event ?hg (N := 1) ?hd (cs := #[.string a0_0, .string a0_1]) (t := 42) ?hr ?_; (case hd => rfl); (case hg => rfl); (case hr => first | (go_simp; done) | (go_simp; rfl)); intro gb255 hg w3 hbox hb; have n0_ := Aside0.mk (below_step HBa hb); have n1_ := Aside0.mk (hbox); have n2_ := Aside0.mk ((by rw [hg]; exact (below_size HBa) : w.heap.size ≤ gb255)); have n3_ := Aside0.mk ((by rw [hg]; exact (below_size HBa) : w.heap.size ≤ gb255)); clear HB; have HB := n0_; have BK255 := n1_; have GW255 := n2_; have GE255 := n3_; clear n0_ n1_ n2_ n3_; clear hb hbox hg; have hcz4_0 : w3.cell? ⟨gb255, 0, none⟩ = some (.string a0_0) := (blk_cell BK255.out 0).trans rfl; have hcz4_1 : w3.cell? ⟨gb255, 1, none⟩ = some (.string a0_1) := (blk_cell BK255.out 1).trans rfl; have hfz4_0 := blk_frozen BK255.out 0; have hfz4_1 := blk_frozen BK255.out 1) | ((with_reducible refine gate_callee (f := 88) rfl ?_); refine goesL_ (some 4) rfl rfl Tryd.func88 (by kernel_rfl) rfl #[.agg #[.string a0_0, .string a0_1]] rfl MPz ?_; (with_reducible refine (impl_isRdn.calls k a0_0 a0_1 t256 _ A2.out).mono ?_); rintro e w5 ⟨rfl, hb⟩; refine ⟨_, rfl, ?_⟩; have n0_ := Aside0.mk (blk_below (g := gb255) (o := .cells #[.string a0_0, .string a0_1] 42 (0, 0)) (BKz BK255) hb); have n1_ := Aside0.mk (below_step (HBb GE255) hb); clear BK255; clear HB; have BK255 := n0_; have HB := n1_; clear n0_ n1_; (try clear hb); (try clear hb2); (try clear hk); (try clear hi)))
 go_ret
 exact ⟨EZa, HBb GE255⟩
def impl_DnRight.ix (k : Nat) : List S42 → Int → Option Int
 | [], _ => some (-1)
 | x :: xs, i => (impl_DnRight_1.f k x.f0 x.f1).bind fun b => if b = true then some i else impl_DnRight.ix k xs (i + 1)
def impl_DnRight.f (k : Nat) (l0 : List (S42)) : Option (Bool) := if (l0.length : Int) ≤ 6 then ((impl_DnRight.ix k l0 0).bind fun t => some (!(decide (t ≥ 0)))) else some false
theorem impl_DnRight.mono_ix (k : Nat) : ∀ (l : List S42) (i : Int), LeO (impl_DnRight.ix k l i) (impl_DnRight.ix (k + 1) l i)
 | [], _ => LeO.refl _
 | x :: xs, i => by
  simp only [impl_DnRight.ix]
  refine LeO.bind (impl_DnRight_1.mono _ _ _) (fun b => ?_)
  cases b
  ·exact impl_DnRight.mono_ix k xs (i + 1)
  ·exact LeO.refl _
theorem impl_DnRight.mono : ∀ a0 k, LeO (impl_DnRight.f k a0) (impl_DnRight.f (k + 1) a0) := by
 intro a0 k
 unfold impl_DnRight.f
 exact LeO.ite (LeO.bind (impl_DnRight.mono_ix k _ _) (fun _ => LeO.refl _)) (LeO.refl _)
theorem impl_DnRight.ix_ge (k : Nat) : ∀ (l : List S42) (i : Int) (r : Int), 0 ≤ i → impl_DnRight.ix k l i = some r → -1 ≤ r
 | [], i, r, h0, h => by simp only [impl_DnRight.ix, Option.some.injEq] at h; omega
 | x :: xs, i, r, h0, h => by
  simp only [impl_DnRight.ix] at h
  obtain ⟨b, _, h⟩ := Option.bind_eq_some_iff.1 h
  cases b
  ·exact impl_DnRight.ix_ge k xs (i + 1) r (by omega) h
  ·simp at h; omega
set_option maxHeartbeats 8000000 in
set_option maxRecDepth 100000 in
theorem impl_DnRight.index (k : Nat) (A0 : Option Addr) (c0 : Nat) (l0 : List (S42)) (r : Int) (w : World) (hr0 : Kd.C k42 w A0 l0.length l0) (h : impl_DnRight.ix k l0 0 = some r) :
  Calls Tryd.prog 142 #[.slice A0 l0.length c0, .func (.func 108) #[] #[]] w fun e w' => e = .returned (.int .i64 r) ∧ Below w.heap.size w w' := by
 have hu := Tryd.underlying42
 have HR0 := Aside0.mk hr0
 clear hr0
 have HB := Aside0.mk (Below.refl w.heap.size w)
 have H' := Aside0.mk h
 clear h
 go_enter Tryd.func142, Tryd.ntmps142
 go_wp2
 go_loopg [5, 8] l0.length (fun kq _ v8 w' => ∃ j : Nat, v8 = .int .i64 (j : Int) ∧ Aside0 (impl_DnRight.ix k (l0.drop j) (j : Int) = some r) ∧ Aside0 (l0.length - j ≤ kq) ∧ Aside0 (Below w.heap.size w w'))
 case atStart => exact ⟨0, rfl, H', ⟨by omega⟩, HB⟩
 case round =>
  clear H'
  obtain ⟨j, rfl, HA, HK, HB⟩ := hrel
  by_cases c1 : (j : Int) < (l0.length : Int)
  ·have c1b0 : decide ((j : Int) < (l0.length : Int)) = true := decide_eq_true c1
   have c1b1 : decide (j < l0.length) = true := decide_eq_true (by omega)
   have H := HA.out
   clear HA
   have hj : j < l0.length := by omega
   have p1 : 0 ≤ (j : Int) := by omega
   obtain ⟨ad1, e1, hx1_0, hx1_1⟩ := at_T42 HR0.out (j : Int) p1 c1
   cases e1
   replace hx1_0 := (HB.out.cell (World.block_lt_of_cell? w _ hx1_0)).trans hx1_0
   replace hx1_1 := (HB.out.cell (World.block_lt_of_cell? w _ hx1_1)).trans hx1_1
   simp only [Int.toNat_natCast] at hx1_0 hx1_1
   have hel : l0.drop j = rd_T42 l0 (j : Int) :: l0.drop (j + 1) := by
    rw [List.drop_eq_getElem_cons hj]
    congr 1
    unfold rd_T42
    rw [List.getD_eq_getElem?_getD, show (j : Int).toNat = j from rfl, List.getElem?_eq_getElem hj]; rfl
   rw [hel] at H
   simp only [impl_DnRight.ix] at H
   obtain ⟨b, Ab0, H⟩ := Option.bind_eq_some_iff.1 H
   have Ab := Aside0.mk Ab0
   clear Ab0 hel
   have c1i := eq_true c1
   cases b with
   | false =>
    simp only [Bool.false_eq_true, if_false] at H
    have HN := Aside0.mk H
    clear H
    have HJ := Aside0.mk hj
    clear hj c1
    go_wp2_with (go_at_call 108; refine (impl_DnRight_1.calls k _ _ false _ Ab.out).mono ?_; rintro e w5 ⟨rfl, hb⟩; have n0_ := Aside0.mk (below_step HB.out hb); clear HB; have HB := n0_; clear n0_ hb)
    go_roundg (l0.length - (j + 1))
    case measure => have := HK.out; have := HJ.out; omega
    case rel => exact ⟨j + 1, by have hb := HR0.out.2.1; have := HJ.out; first | rfl | go_num | (congr 1; unfold wrap64; omega), by have h2 := HN.out; rw [show (j : Int) + 1 = ((j + 1 : Nat) : Int) by omega] at h2; exact ⟨h2⟩, ⟨Nat.le_refl _⟩, HB⟩
   | true =>
    simp only [if_true] at H
    obtain rfl := Option.some.inj H
    clear hj c1
    go_wp2_with (go_at_call 108; refine (impl_DnRight_1.calls k _ _ true _ Ab.out).mono ?_; rintro e w5 ⟨rfl, hb⟩; have n0_ := Aside0.mk (below_step HB.out hb); clear HB; have HB := n0_; clear n0_ hb)
    go_ret
    exact ⟨rfl, HB.out⟩
  ·have c1b0 : decide ((j : Int) < (l0.length : Int)) = false := decide_eq_false c1
   have c1b1 : decide (j < l0.length) = false := decide_eq_false (by omega)
   have H := HA.out
   rw [List.drop_of_length_le (by omega)] at H
   simp only [impl_DnRight.ix] at H
   obtain rfl := Option.some.inj H
   clear c1
   go_wp2
   go_ret
   exact ⟨rfl, HB.out⟩
set_option maxHeartbeats 8000000 in
set_option maxRecDepth 100000 in
theorem impl_DnRight.contains (k : Nat) (A0 : Option Addr) (c0 : Nat) (l0 : List (S42)) (r : Int) (w : World) (hr0 : Kd.C k42 w A0 l0.length l0) (h : impl_DnRight.ix k l0 0 = some r) :
  Calls Tryd.prog 107 #[.slice A0 l0.length c0, .func (.func 108) #[] #[]] w fun e w' => e = .returned (.bool (decide (0 ≤ r))) ∧ Below w.heap.size w w' := by
 have hc := impl_DnRight.index k A0 c0 l0 r w hr0 h
 clear hr0 h
 go_enter Tryd.func107, Tryd.ntmps107
 go_wp2_with (go_at_call 142; refine hc.mono ?_; rintro e w' ⟨rfl, hb⟩)
 go_ret
 exact ⟨rfl, hb⟩
set_option maxHeartbeats 8000000 in
set_option maxRecDepth 100000 in
theorem impl_DnRight.calls (k : Nat) (A0 : Option Addr) (c0 : Nat) (l0 : List (S42)) (r : Bool) (w : World) (hr0 : Kd.C k42 w A0 l0.length l0) (hc0 : l0.length ≤ c0) (h : impl_DnRight.f k l0 = some r) :
  Calls Tryd.prog 60 #[.slice A0 l0.length c0] w fun e w' => e = .returned (.bool r) ∧ Below w.heap.size w w' := by
 unfold impl_DnRight.f at h
 by_cases c : (l0.length : Int) ≤ 6
 ·rw [if_pos c] at h
  obtain ⟨t, At, h⟩ := Option.bind_eq_some_iff.1 h
  obtain rfl := Option.some.inj h
  have cb0 : decide ((l0.length : Int) ≤ 6) = true := decide_eq_true c
  have cb1 : decide (l0.length ≤ 6) = true := decide_eq_true (by omega)
  have hc := impl_DnRight.contains k A0 c0 l0 t w hr0 At
  clear c hr0 hc0 At h
  go_enter Tryd.func60, Tryd.ntmps60
  go_wp2_with (go_at_call 107; refine hc.mono ?_; rintro e w' ⟨rfl, hb⟩)
  go_ret
  exact ⟨rfl, hb⟩
 ·rw [if_neg c] at h
  obtain rfl := Option.some.inj h
  have cb0 : decide ((l0.length : Int) ≤ 6) = false := decide_eq_false c
  have cb1 : decide (l0.length ≤ 6) = false := decide_eq_false (by omega)
  clear c hr0 hc0 h
  go_enter Tryd.func60, Tryd.ntmps60
  go_wp2
  go_ret
  exact ⟨rfl, Below.refl _ _⟩
def strings_IndexByte.f (a0 : ByteArray) (a1 : Int) : Option (Int) := some (Lib.indexByte a0.data.toList a1.toNat.toUInt8)
theorem strings_IndexByte.calls (a0 : ByteArray) (a1 : Int) (r : Int) (w : World) (h : strings_IndexByte.f a0 a1 = some r) :
  Calls Tryd.prog 157 #[.string a0, .int .u8 a1] w fun e w' => e = .returned (.int .i64 r) ∧ Drawn0 w w' := by
 obtain rfl := Option.some.inj h
 refine (show Calls Tryd.prog 157 _ _ _ from Any.strings_IndexByte Tryd.lays137 a0 a1 w).mono ?_
 rintro e w' ⟨he, rfl⟩
 exact ⟨he, Drawn0.refl _⟩
def impl_isMarked.f (a0 : ByteArray) (a1 : Int) : Option (Bool) := if 0 ≤ a1 then (if a1 < (a0.size : Int) then ((strings_IndexByte.f (⟨#[44, 43, 34, 92, 60, 62, 59, 61]⟩ : ByteArray) (bt a0 a1)).bind fun t257 => (if t257 ≥ 0 then (some true) else (if (bt a0 a1) = 35 then (if a1 = 0 then (some true) else (if (bt a0 a1) = 32 then (some (a1 == (wrap64 ((a0.size : Int) - 1)))) else (some false))) else (if (bt a0 a1) = 32 then (if a1 = 0 then (some true) else (some (a1 == (wrap64 ((a0.size : Int) - 1))))) else (some false))))) else (none)) else (none)
set_option maxHeartbeats 8000000 in
set_option maxRecDepth 100000 in
theorem impl_isMarked.calls (a0 : ByteArray) (a1 : Int) (r : Bool) (w : World) (h : impl_isMarked.f a0 a1 = some r) :
  Calls Tryd.prog 123 #[.string a0, .int .i64 a1] w fun e w' => e = .returned (.bool r) ∧ Drawn0 w w' := by
 have H : (if 0 ≤ a1 then (if a1 < (a0.size : Int) then ((strings_IndexByte.f (⟨#[44, 43, 34, 92, 60, 62, 59, 61]⟩ : ByteArray) (bt a0 a1)).bind fun t257 => (if t257 ≥ 0 then (some true) else (if (bt a0 a1) = 35 then (if a1 = 0 then (some true) else (if (bt a0 a1) = 32 then (some (a1 == (wrap64 ((a0.size : Int) - 1)))) else (some false))) else (if (bt a0 a1) = 32 then (if a1 = 0 then (some true) else (some (a1 == (wrap64 ((a0.size : Int) - 1))))) else (some false))))) else (none)) else (none)) = some r := h
 clear h
 by_cases c3 : 0 ≤ a1
 ·rw [if_pos c3] at H
  have c3b0 : decide (0 ≤ a1) = true := decide_eq_true c3
  clear c3
  by_cases c4 : a1 < (a0.size : Int)
  ·rw [if_pos c4] at H
   have c4b0 : decide (a1 < (a0.size : Int)) = true := decide_eq_true c4
   clear c4
   replace H := Option.bind_eq_some_iff.mp H
   obtain ⟨t257, A60, H⟩ := H
   replace H : (if t257 ≥ 0 then (some true) else (if (bt a0 a1) = 35 then (if a1 = 0 then (some true) else (if (bt a0 a1) = 32 then (some (a1 == (wrap64 ((a0.size : Int) - 1)))) else (some false))) else (if (bt a0 a1) = 32 then (if a1 = 0 then (some true) else (some (a1 == (wrap64 ((a0.size : Int) - 1))))) else (some false)))) = some r := H
   have A6 := Aside0.mk A60
   clear A60
   by_cases c7 : t257 ≥ 0
   ·rw [if_pos c7] at H
    have c7b0 : decide (0 ≤ t257) = true := decide_eq_true c7
    clear c7
    obtain rfl := Option.some.inj H
    have p5 : 0 ≤ (a1 : Int) := ODz
    have q5 : a1 < (a0.size : Int) := ODz
    have hx5 := bt_at a0 a1
    replace p5 := eq_true p5
    replace q5 := eq_true q5
    go_enter Tryd.func123, Tryd.ntmps123
    go_wp2_with (first | ((with_reducible refine gate_callee (f := 157) rfl ?_); refine goesL_ (some 10) rfl rfl Tryd.func157 (by kernel_rfl) rfl #[.string (⟨#[44, 43, 34, 92, 60, 62, 59, 61]⟩ : ByteArray), .int .u8 (bt a0 a1)] rfl MPz ?_; (with_reducible refine (strings_IndexByte.calls (⟨#[44, 43, 34, 92, 60, 62, 59, 61]⟩ : ByteArray) (bt a0 a1) t257 _ A6.out).mono ?_); rintro e w' ⟨rfl, ⟨nd, rfl⟩⟩; refine ⟨_, rfl, ?_⟩))
    go_ret
    exact ⟨EZb, DRz⟩
   ·rw [if_neg c7] at H
    have c7b0 : decide (0 ≤ t257) = false := decide_eq_false c7
    clear c7
    by_cases c8 : (bt a0 a1) = 35
    ·rw [if_pos c8] at H
     have c8b0 : ((bt a0 a1) == 35) = true := beq_iff_eq.mpr c8
     have c8b1 : ((bt a0 a1) != 35) = false := bne_eq_false_iff_eq.mpr c8
     clear c8
     by_cases c9 : a1 = 0
     ·rw [if_pos c9] at H
      have c9b0 : (a1 == 0) = true := beq_iff_eq.mpr c9
      have c9b1 : (a1 != 0) = false := bne_eq_false_iff_eq.mpr c9
      clear c9
      obtain rfl := Option.some.inj H
      have p5 : 0 ≤ (a1 : Int) := ODz
      have q5 : a1 < (a0.size : Int) := ODz
      have hx5 := bt_at a0 a1
      replace p5 := eq_true p5
      replace q5 := eq_true q5
      go_enter Tryd.func123, Tryd.ntmps123
      go_wp2_with (first | ((with_reducible refine gate_callee (f := 157) rfl ?_); refine goesL_ (some 10) rfl rfl Tryd.func157 (by kernel_rfl) rfl #[.string (⟨#[44, 43, 34, 92, 60, 62, 59, 61]⟩ : ByteArray), .int .u8 (bt a0 a1)] rfl MPz ?_; (with_reducible refine (strings_IndexByte.calls (⟨#[44, 43, 34, 92, 60, 62, 59, 61]⟩ : ByteArray) (bt a0 a1) t257 _ A6.out).mono ?_); rintro e w' ⟨rfl, ⟨nd, rfl⟩⟩; refine ⟨_, rfl, ?_⟩))
      go_ret
      exact ⟨EZb, DRz⟩
     ·rw [if_neg c9] at H
      have c9b0 : (a1 == 0) = false := beq_eq_false_iff_ne.mpr c9
      have c9b1 : (a1 != 0) = true := bne_iff_ne.mpr c9
      by_cases c10 : (bt a0 a1) = 32
      ·rw [if_pos c10] at H
       have c10b0 : ((bt a0 a1) == 32) = true := beq_iff_eq.mpr c10
       have c10b1 : ((bt a0 a1) != 32) = false := bne_eq_false_iff_eq.mpr c10
       clear c10
       obtain rfl := Option.some.inj H
       have p5 : 0 ≤ (a1 : Int) := ODz
       have q5 : a1 < (a0.size : Int) := ODz
       have hx5 := bt_at a0 a1
       replace p5 := eq_true p5
       replace q5 := eq_true q5
       go_enter Tryd.func123, Tryd.ntmps123
       go_wp2_with (first | ((with_reducible refine gate_callee (f := 157) rfl ?_); refine goesL_ (some 10) rfl rfl Tryd.func157 (by kernel_rfl) rfl #[.string (⟨#[44, 43, 34, 92, 60, 62, 59, 61]⟩ : ByteArray), .int .u8 (bt a0 a1)] rfl MPz ?_; (with_reducible refine (strings_IndexByte.calls (⟨#[44, 43, 34, 92, 60, 62, 59, 61]⟩ : ByteArray) (bt a0 a1) t257 _ A6.out).mono ?_); rintro e w' ⟨rfl, ⟨nd, rfl⟩⟩; refine ⟨_, rfl, ?_⟩))
       go_ret
       exact ⟨EZb, DRz⟩
      ·rw [if_neg c10] at H
       have c10b0 : ((bt a0 a1) == 32) = false := beq_eq_false_iff_ne.mpr c10
       have c10b1 : ((bt a0 a1) != 32) = true := bne_iff_ne.mpr c10
       obtain rfl := Option.some.inj H
       have p5 : 0 ≤ (a1 : Int) := ODz
       have q5 : a1 < (a0.size : Int) := ODz
       have hx5 := bt_at a0 a1
       replace p5 := eq_true p5
       replace q5 := eq_true q5
       go_enter Tryd.func123, Tryd.ntmps123
       go_wp2_with (first | ((with_reducible refine gate_callee (f := 157) rfl ?_); refine goesL_ (some 10) rfl rfl Tryd.func157 (by kernel_rfl) rfl #[.string (⟨#[44, 43, 34, 92, 60, 62, 59, 61]⟩ : ByteArray), .int .u8 (bt a0 a1)] rfl MPz ?_; (with_reducible refine (strings_IndexByte.calls (⟨#[44, 43, 34, 92, 60, 62, 59, 61]⟩ : ByteArray) (bt a0 a1) t257 _ A6.out).mono ?_); rintro e w' ⟨rfl, ⟨nd, rfl⟩⟩; refine ⟨_, rfl, ?_⟩))
       go_ret
       exact ⟨EZb, DRz⟩
    ·rw [if_neg c8] at H
     have c8b0 : ((bt a0 a1) == 35) = false := beq_eq_false_iff_ne.mpr c8
     have c8b1 : ((bt a0 a1) != 35) = true := bne_iff_ne.mpr c8
     by_cases c11 : (bt a0 a1) = 32
     ·rw [if_pos c11] at H
      have c11b0 : ((bt a0 a1) == 32) = true := beq_iff_eq.mpr c11
      have c11b1 : ((bt a0 a1) != 32) = false := bne_eq_false_iff_eq.mpr c11
      clear c11
      by_cases c12 : a1 = 0
      ·rw [if_pos c12] at H
       have c12b0 : (a1 == 0) = true := beq_iff_eq.mpr c12
       have c12b1 : (a1 != 0) = false := bne_eq_false_iff_eq.mpr c12
       clear c12
       obtain rfl := Option.some.inj H
       have p5 : 0 ≤ (a1 : Int) := ODz
       have q5 : a1 < (a0.size : Int) := ODz
       have hx5 := bt_at a0 a1
       replace p5 := eq_true p5
       replace q5 := eq_true q5
       go_enter Tryd.func123, Tryd.ntmps123
       go_wp2_with (first | ((with_reducible refine gate_callee (f := 157) rfl ?_); refine goesL_ (some 10) rfl rfl Tryd.func157 (by kernel_rfl) rfl #[.string (⟨#[44, 43, 34, 92, 60, 62, 59, 61]⟩ : ByteArray), .int .u8 (bt a0 a1)] rfl MPz ?_; (with_reducible refine (strings_IndexByte.calls (⟨#[44, 43, 34, 92, 60, 62, 59, 61]⟩ : ByteArray) (bt a0 a1) t257 _ A6.out).mono ?_); rintro e w' ⟨rfl, ⟨nd, rfl⟩⟩; refine ⟨_, rfl, ?_⟩))
       go_ret
       exact ⟨EZb, DRz⟩
      ·rw [if_neg c12] at H
       have c12b0 : (a1 == 0) = false := beq_eq_false_iff_ne.mpr c12
       have c12b1 : (a1 != 0) = true := bne_iff_ne.mpr c12
       obtain rfl := Option.some.inj H
       have p5 : 0 ≤ (a1 : Int) := ODz
       have q5 : a1 < (a0.size : Int) := ODz
       have hx5 := bt_at a0 a1
       replace p5 := eq_true p5
       replace q5 := eq_true q5
       go_enter Tryd.func123, Tryd.ntmps123
       go_wp2_with (first | ((with_reducible refine gate_callee (f := 157) rfl ?_); refine goesL_ (some 10) rfl rfl Tryd.func157 (by kernel_rfl) rfl #[.string (⟨#[44, 43, 34, 92, 60, 62, 59, 61]⟩ : ByteArray), .int .u8 (bt a0 a1)] rfl MPz ?_; (with_reducible refine (strings_IndexByte.calls (⟨#[44, 43, 34, 92, 60, 62, 59, 61]⟩ : ByteArray) (bt a0 a1) t257 _ A6.out).mono ?_); rintro e w' ⟨rfl, ⟨nd, rfl⟩⟩; refine ⟨_, rfl, ?_⟩))
       go_ret
       exact ⟨EZb, DRz⟩
     ·rw [if_neg c11] at H
      have c11b0 : ((bt a0 a1) == 32) = false := beq_eq_false_iff_ne.mpr c11
      have c11b1 : ((bt a0 a1) != 32) = true := bne_iff_ne.mpr c11
      obtain rfl := Option.some.inj H
      have p5 : 0 ≤ (a1 : Int) := ODz
      have q5 : a1 < (a0.size : Int) := ODz
      have hx5 := bt_at a0 a1
      replace p5 := eq_true p5
      replace q5 := eq_true q5
      go_enter Tryd.func123, Tryd.ntmps123
      go_wp2_with (first | ((with_reducible refine gate_callee (f := 157) rfl ?_); refine goesL_ (some 10) rfl rfl Tryd.func157 (by kernel_rfl) rfl #[.string (⟨#[44, 43, 34, 92, 60, 62, 59, 61]⟩ : ByteArray), .int .u8 (bt a0 a1)] rfl MPz ?_; (with_reducible refine (strings_IndexByte.calls (⟨#[44, 43, 34, 92, 60, 62, 59, 61]⟩ : ByteArray) (bt a0 a1) t257 _ A6.out).mono ?_); rintro e w' ⟨rfl, ⟨nd, rfl⟩⟩; refine ⟨_, rfl, ?_⟩))
      go_ret
      exact ⟨EZb, DRz⟩
  ·rw [if_neg c4] at H
   exact absurd H (by simp)
 ·rw [if_neg c3] at H
  exact absurd H (by simp)
mutual
def impl_dnText.l0 : Nat → List Int → List (S42) → Int → Int → Option (ByteArray)
 | 0, _, _, _, _ => none
 | k + 1, x3, x8, x9, x10 => if x10 < x9 then (if 0 ≤ x10 then (if x10 < (x8.length : Int) then (if x10 > 0 then (if x3.length < 140737488355328 then (impl_dnText.j1 k (x3 ++ [44]) x8 x9 x10 ((rd_T42 x8 x10).f0) ((rd_T42 x8 x10).f1)) else (none)) else (impl_dnText.j1 k x3 x8 x9 x10 ((rd_T42 x8 x10).f0) ((rd_T42 x8 x10).f1))) else (none)) else (none)) else (some (strOfNums x3))
def impl_dnText.j1 : Nat → List Int → List (S42) → Int → Int → ByteArray → ByteArray → Option (ByteArray)
 | 0, _, _, _, _, _, _ => none
 | k + 1, x3, x8, x9, x10, x263000, x263001 => if x3.length + x263000.size < 140737488355328 then ((some (x3 ++ bytesOf x263000 : List Int)).bind fun y266 => (if y266.length < 140737488355328 then (impl_dnText.l1 k (y266 ++ [61]) x8 x9 x10 (x263001.size : Int) 0 x263000 x263001) else (none))) else (none)
def impl_dnText.l1 : Nat → List Int → List (S42) → Int → Int → Int → Int → ByteArray → ByteArray → Option (ByteArray)
 | 0, _, _, _, _, _, _, _, _ => none
 | k + 1, x3, x8, x9, x10, x28, x29, x263000, x263001 => if x29 < x28 then ((impl_isMarked.f x263001 x29).bind fun t272 => (if t272 = true then (if x3.length < 140737488355328 then ((some (x3 ++ [92] : List Int)).bind fun y273 => (if 0 ≤ x29 then (if x29 < (x263001.size : Int) then (if y273.length < 140737488355328 then (impl_dnText.l1 k (y273 ++ [bt x263001 x29]) x8 x9 x10 x28 (wrap64 (x29 + 1)) x263000 x263001) else (none)) else (none)) else (none))) else (none)) else (if 0 ≤ x29 then (if x29 < (x263001.size : Int) then (if x3.length < 140737488355328 then (impl_dnText.l1 k (x3 ++ [bt x263001 x29]) x8 x9 x10 x28 (wrap64 (x29 + 1)) x263000 x263001) else (none)) else (none)) else (none)))) else (impl_dnText.l0 k x3 x8 x9 (wrap64 (x10 + 1)))
end
def impl_dnText.f (k : Nat) (l0 : List (S42)) : Option (ByteArray) := impl_dnText.l0 k (([] : List Int)) l0 (l0.length : Int) 0
theorem impl_dnText.mono_l : ∀ k, (∀ y0 y1 y2 y3, LeO (impl_dnText.l0 k y0 y1 y2 y3) (impl_dnText.l0 (k + 1) y0 y1 y2 y3)) ∧ (∀ y0 y1 y2 y3 y4 y5, LeO (impl_dnText.j1 k y0 y1 y2 y3 y4 y5) (impl_dnText.j1 (k + 1) y0 y1 y2 y3 y4 y5)) ∧ (∀ y0 y1 y2 y3 y4 y5 y6 y7, LeO (impl_dnText.l1 k y0 y1 y2 y3 y4 y5 y6 y7) (impl_dnText.l1 (k + 1) y0 y1 y2 y3 y4 y5 y6 y7))
 | 0 => ⟨fun _ _ _ _ r h => by simp [impl_dnText.l0] at h, fun _ _ _ _ _ _ r h => by simp [impl_dnText.j1] at h, fun _ _ _ _ _ _ _ _ r h => by simp [impl_dnText.l1] at h⟩
 | k + 1 => by
  obtain ⟨ih0, ih1, ih2⟩ := impl_dnText.mono_l k
  refine ⟨?_, ?_, ?_⟩
  ·intro y0 y1 y2 y3
   unfold impl_dnText.l0
   repeat' first
   | (with_reducible exact ih0 _ _ _ _)
   | (with_reducible exact ih1 _ _ _ _ _ _)
   | (with_reducible exact ih2 _ _ _ _ _ _ _ _)
   | (with_reducible exact LeO.refl _)
   | (with_reducible exact LeO.none _)
   | (with_reducible refine LeO.ite ?_ ?_)
   | (with_reducible refine LeO.bind ?_ (fun _ => ?_))
   | exact ih0 _ _ _ _
   | exact ih1 _ _ _ _ _ _
   | exact ih2 _ _ _ _ _ _ _ _
   | exact LeO.none _
   | refine LeO.ite ?_ ?_
   | refine LeO.bind ?_ (fun _ => ?_)
  ·intro y0 y1 y2 y3 y4 y5
   unfold impl_dnText.j1
   repeat' first
   | (with_reducible exact ih0 _ _ _ _)
   | (with_reducible exact ih1 _ _ _ _ _ _)
   | (with_reducible exact ih2 _ _ _ _ _ _ _ _)
   | (with_reducible exact LeO.refl _)
   | (with_reducible exact LeO.none _)
   | (with_reducible refine LeO.ite ?_ ?_)
   | (with_reducible refine LeO.bind ?_ (fun _ => ?_))
   | exact ih0 _ _ _ _
   | exact ih1 _ _ _ _ _ _
   | exact ih2 _ _ _ _ _ _ _ _
   | exact LeO.none _
   | refine LeO.ite ?_ ?_
   | refine LeO.bind ?_ (fun _ => ?_)
  ·intro y0 y1 y2 y3 y4 y5 y6 y7
   unfold impl_dnText.l1
   repeat' first
   | (with_reducible exact ih0 _ _ _ _)
   | (with_reducible exact ih1 _ _ _ _ _ _)
   | (with_reducible exact ih2 _ _ _ _ _ _ _ _)
   | (with_reducible exact LeO.refl _)
   | (with_reducible exact LeO.none _)
   | (with_reducible refine LeO.ite ?_ ?_)
   | (with_reducible refine LeO.bind ?_ (fun _ => ?_))
   | exact ih0 _ _ _ _
   | exact ih1 _ _ _ _ _ _
   | exact ih2 _ _ _ _ _ _ _ _
   | exact LeO.none _
   | refine LeO.ite ?_ ?_
   | refine LeO.bind ?_ (fun _ => ?_)
theorem impl_dnText.mono : ∀ a0 k, LeO (impl_dnText.f k a0) (impl_dnText.f (k + 1) a0) := by
 intro a0 k
 obtain ⟨ih0, ih1, ih2⟩ := impl_dnText.mono_l k
 unfold impl_dnText.f
 repeat' first
   | (with_reducible exact ih0 _ _ _ _)
   | (with_reducible exact ih1 _ _ _ _ _ _)
   | (with_reducible exact ih2 _ _ _ _ _ _ _ _)
   | (with_reducible exact LeO.refl _)
   | (with_reducible exact LeO.none _)
   | (with_reducible refine LeO.ite ?_ ?_)
   | (with_reducible refine LeO.bind ?_ (fun _ => ?_))
   | exact ih0 _ _ _ _
   | exact ih1 _ _ _ _ _ _
   | exact ih2 _ _ _ _ _ _ _ _
   | exact LeO.none _
   | refine LeO.ite ?_ ?_
   | refine LeO.bind ?_ (fun _ => ?_)
set_option maxHeartbeats 8000000 in
set_option maxRecDepth 100000 in
theorem impl_dnText.calls (k : Nat) (A0 : Option Addr) (c0 : Nat) (l0 : List (S42)) (r : ByteArray) (w : World) (hr0 : Kd.C k42 w A0 l0.length l0) (hc0 : l0.length ≤ c0) (h : impl_dnText.f k l0 = some r) :
  Calls Tryd.prog 74 #[.slice A0 l0.length c0] w fun e w' => e = .returned (.string r) ∧ Below w.heap.size w w' := by
 have hu42 := Tryd.underlying42
 have HR0 := Aside0.mk hr0
 have HC0 := Aside0.mk hc0
 clear hr0 hc0
 have HB := Aside0.mk (Below.refl w.heap.size w)
 have H : (impl_dnText.l0 k (([] : List Int)) l0 (l0.length : Int) 0) = some r := h
 clear h
 obtain ⟨y258, hy258⟩ : ∃ y_ : List Int, y_ = (([] : List Int)) := ⟨_, rfl⟩
 replace H : (impl_dnText.l0 k y258 l0 (l0.length : Int) 0) = some r := by first | (rw [hy258]; with_reducible exact H) | (have H2_ := (Option.bind_some _ _).symm.trans H; rw [hy258]; with_reducible exact H2_) | (have H2_ := (Option.bind_some _ _).symm.trans H; with_reducible exact H2_) | with_reducible exact H | (rw [hy258]; exact H) | exact H
 have Ny258 := Aside0.mk hy258
 clear hy258
 have H' := Aside0.mk H
 clear H
 go_enter Tryd.func74, Tryd.ntmps74
 go_wp2_with (first | ((with_reducible refine gate_dst (N := 7) rfl ?_); refine Kd.R_lit (Kd.int .u8) _ 5 ?hg (N := 7) ?hd (xs := ([] : List Int)) (inner := []) (ok := fun _ => True) (okp := fun _ => True) ?hr ?hp (fun _ hk => hk) trivial (Below.refl _ _) (Nat.le_refl _) (by simp) ?_; (case hd => rfl); (case hg => rfl); (case hr => first | (go_simp; done) | (go_simp; rfl)); (case hp => exact (Reps.none _ _)); intro v259 w2 ho3 hb hg_ hnew_; clear hg_ hnew_; (first | rw [← Ny258.out] at ho3 | (simp only [Int.reduceToNat] at ho3; rw [← Ny258.out] at ho3)); have n0_ := Aside0.mk (Kd.R_lower ho3 (below_size HBa)); have n1_ := Aside0.mk (below_step HBa hb); clear HB; have HO260 := n0_; have HB := n1_; clear n0_ n1_; clear hb ho3))
 go_loopg [3, 10] k (fun kq v3 v10 w' => ∃ (x3_1 : List Int) (x10_1 : Int), v10 = .int .i64 x10_1 ∧ Aside0 (impl_dnText.l0 kq x3_1 l0 (l0.length : Int) x10_1 = some r) ∧ Aside0 (kq ≤ k) ∧ Aside0 (Kd.R (Kd.int .u8) 5 w' w.heap.size (fun _ => True) v3 x3_1) ∧ Aside0 (Below w.heap.size w w'))
 case atStart => exact ⟨(y258), (0), EZc, H', ⟨Nat.le_refl _⟩, ⟨by (with_reducible repeat (first | apply Kd.R_alloc | apply Kd.R_drewN | apply Kd.R_drew)); exact HO260.out⟩, ⟨HBa⟩⟩
 case round =>
  clear H'
  try clear p2
  obtain ⟨x3_1, x10_1, rfl, HA, HK1, HO_3, HB⟩ := hrel
  cases gk with
  | zero => exact absurd HA.out (by simp [impl_dnText.l0])
  | succ k1 =>
   have H := HA.out
   clear HA
   simp only [impl_dnText.l0] at H
   by_cases c4 : x10_1 < (l0.length : Int)
   ·rw [if_pos c4] at H
    have c4b0 : decide (x10_1 < (l0.length : Int)) = true := decide_eq_true c4
    clear c4
    by_cases c5 : 0 ≤ x10_1
    ·rw [if_pos c5] at H
     have c5b0 : decide (0 ≤ x10_1) = true := decide_eq_true c5
     clear c5
     by_cases c6 : x10_1 < (l0.length : Int)
     ·rw [if_pos c6] at H
      have c6b0 : decide (x10_1 < (l0.length : Int)) = true := decide_eq_true c6
      clear c6
      have HC7 := Aside0.mk H
      clear H
      have p261 : 0 ≤ (x10_1 : Int) := ODz
      have q261 : x10_1 < (l0.length : Int) := ODz
      obtain ⟨ad261, e261, hx261_0, hx261_1⟩ := at_T42 HR0.out x10_1 p261 q261
      cases e261
      replace hx261_0 := (HB.out.cell (World.block_lt_of_cell? w _ hx261_0)).trans hx261_0
      replace hx261_1 := (HB.out.cell (World.block_lt_of_cell? w _ hx261_1)).trans hx261_1
      replace p261 := eq_true p261
      replace q261 := eq_true q261
      go_upto_if 16 with (first | ((with_reducible refine gate_dst (N := 5) rfl ?_); refine box_event ?hg (N := 5) ?hd (cs := #[.string (⟨#[]⟩ : ByteArray), .string (⟨#[]⟩ : ByteArray)]) (t := 42) ?hr ?_; (case hd => rfl); (case hg => rfl); (case hr => first | (go_simp; done) | (go_simp; rfl)); intro gb262 hg w8 hbox hb; have n0_ := Aside0.mk (Kd.R_below (by (with_reducible repeat (first | apply Kd.R_alloc | apply Kd.R_drewN | apply Kd.R_drew)); exact HO_3.out) hb); have n1_ := Aside0.mk (below_step HBa hb); have n2_ := Aside0.mk (hbox); have n3_ := Aside0.mk ((by rw [hg]; exact (below_size HBa) : w.heap.size ≤ gb262)); have n4_ := Aside0.mk ((by rw [hg]; exact (below_size HBa) : w.heap.size ≤ gb262)); clear HO_3; clear HB; have HO_3 := n0_; have HB := n1_; have BK262 := n2_; have GW262 := n3_; have GE262 := n4_; clear n0_ n1_ n2_ n3_ n4_; clear hb hbox hg; have hcz9_0 : w8.cell? ⟨gb262, 0, none⟩ = some (.string (⟨#[]⟩ : ByteArray)) := (blk_cell BK262.out 0).trans rfl; have hcz9_1 : w8.cell? ⟨gb262, 1, none⟩ = some (.string (⟨#[]⟩ : ByteArray)) := (blk_cell BK262.out 1).trans rfl; have hfz9_0 := blk_frozen BK262.out 0; have hfz9_1 := blk_frozen BK262.out 1))
      (try simp only [Act.put, List.setIfInBounds_toArray, List.set_cons_zero, List.set_cons_succ])
      go_cut [3] (fun v3 wc => ∃ (kq : Nat) (x3_6 : List Int), Aside0 (impl_dnText.j1 kq x3_6 l0 (l0.length : Int) x10_1 ((rd_T42 l0 x10_1).f0) ((rd_T42 l0 x10_1).f1) = some r) ∧ Aside0 (kq ≤ k1) ∧ Aside0 (Kd.R (Kd.int .u8) 5 wc w.heap.size (fun _ => True) v3 x3_6) ∧ Aside0 (wc.heap[gb262]? = some (.cells #[.string ((rd_T42 l0 x10_1).f0), .string ((rd_T42 l0 x10_1).f1)] 42 (0, 0))) ∧ Aside0 (Below w.heap.size w wc))
      case first =>
       have H := HC7.out
       clear HC7
       by_cases c10 : x10_1 > 0
       ·rw [if_pos c10] at H
        have c10b0 : decide (0 < x10_1) = true := decide_eq_true c10
        clear c10
        (first | rw [c10b0] | rw [c10v0] | (simp only [i64_w, i32_w]; rw [c10b0]) | (simp only [i64_w, i32_w]; rw [c10v0]) | skip)
        by_cases c11 : x3_1.length < 140737488355328
        ·rw [if_pos c11] at H
         have LMc11 := Aside0.mk c11
         clear c11
         obtain ⟨y263, hy263⟩ : ∃ y_ : List Int, y_ = (x3_1 ++ [44]) := ⟨_, rfl⟩
         replace H : (impl_dnText.j1 k1 y263 l0 (l0.length : Int) x10_1 ((rd_T42 l0 x10_1).f0) ((rd_T42 l0 x10_1).f1)) = some r := by first | (rw [hy263]; with_reducible exact H) | (have H2_ := (Option.bind_some _ _).symm.trans H; rw [hy263]; with_reducible exact H2_) | (have H2_ := (Option.bind_some _ _).symm.trans H; with_reducible exact H2_) | with_reducible exact H | (rw [hy263]; exact H) | exact H
         have Ny263 := Aside0.mk hy263
         clear hy263
         have H' := Aside0.mk H
         clear H
         go_wp2_with (first | ((with_reducible refine gate_builtin (b := .append) (xs := #[.tmp 17, .tmp 18]) rfl ?_); at_builtin; refine Kd.R_append (Kd.int .u8) (w0 := w) w.heap.size rfl (.tmp 17) (.tmp 18) 36 5 (.int .u8 0) 1 rfl Tryd.underlying36 info5 rfl (by decide) (by omega) u3 x3_1 44 [.int .u8 44] (fun _ => True) (fun _ => False) rfl (by first | (go_simp; done) | (go_simp; rfl)) ?aP (fun _ hk => hk.elim) ?aF ?aO ?aB ?aS ?aL ?_; (case aP => exact rfl); (case aB => exact (HBb GE262)); (case aF => exact (fun _ _ => trivial)); (case aO => exact (by (with_reducible repeat (first | apply Kd.R_alloc | apply Kd.R_drewN | apply Kd.R_drew)); exact Kd.R_mono (Kd.R_far (p := ⟨gb262, 1, none⟩) (Kd.R_far (p := ⟨gb262, 0, none⟩) (Kd.R_types HO_3.out BK262.out (by decide)) (fun _ hk => hk.2) (.string ((rd_T42 l0 x10_1).f0))) (fun _ hk => hk.2) (.string ((rd_T42 l0 x10_1).f1))) (fun _ hk => trivial))); (case aS => exact (below_size (HBb GE262))); (case aL => have := LMc11.out; omega); intro v264 w12 ho hb hg hat; rw [← Ny263.out] at ho; have n0_ := Aside0.mk (blk_grown (g := gb262) (o := .cells #[.string ((rd_T42 l0 x10_1).f0), .string ((rd_T42 l0 x10_1).f1)] 42 (0, 0)) (by (with_reducible repeat (first | refine blk_drewN ?_ _ | refine blk_drew ?_ | refine blk_alloc ?_ _)); refine blk_put (cs := #[.string ((rd_T42 l0 x10_1).f0), .string (⟨#[]⟩ : ByteArray)]) ?_ 1 _ rfl; (with_reducible repeat (first | refine blk_drewN ?_ _ | refine blk_drew ?_ | refine blk_alloc ?_ _)); refine blk_put (cs := #[.string (⟨#[]⟩ : ByteArray), .string (⟨#[]⟩ : ByteArray)]) ?_ 0 _ rfl; (with_reducible repeat (first | refine blk_drewN ?_ _ | refine blk_drew ?_ | refine blk_alloc ?_ _)); exact BK262.out) hg (Kd.R_ne HO_3.out BK262.out (by decide))); have n1_ := Aside0.mk (hb); have n2_ := Aside0.mk (ho); clear BK262; clear HB; clear HO_3; have BK262 := n0_; have HB := n1_; have HO265 := n2_; clear n0_ n1_ n2_; clear ho hb hg hat))
         go_meet
         case rel => exact ⟨_, (y263), H', ⟨by have := HK1.out; first | omega | exact Nat.le_refl _⟩, ⟨by (with_reducible repeat (first | apply Kd.R_alloc | apply Kd.R_drewN | apply Kd.R_drew)); exact HO265.out⟩, ⟨by (with_reducible repeat (first | refine blk_drewN ?_ _ | refine blk_drew ?_ | refine blk_alloc ?_ _)); exact BK262.out⟩, ⟨by repeat (first | (with_reducible first | exact HB.out | apply below_alloc | apply pw_below_drewN | apply below_drew1 | refine below_set ?_ GE262.out) | exact HB.out)⟩⟩
        ·rw [if_neg c11] at H
         exact absurd H (by simp)
       ·rw [if_neg c10] at H
        have c10b0 : decide (0 < x10_1) = false := decide_eq_false c10
        clear c10
        (first | rw [c10b0] | rw [c10v0] | (simp only [i64_w, i32_w]; rw [c10b0]) | (simp only [i64_w, i32_w]; rw [c10v0]) | skip)
        have H' := Aside0.mk H
        clear H
        go_wp2
        go_meet
        case rel => exact ⟨_, (x3_1), H', ⟨by have := HK1.out; first | omega | exact Nat.le_refl _⟩, ⟨by (with_reducible repeat (first | apply Kd.R_alloc | apply Kd.R_drewN | apply Kd.R_drew)); exact Kd.R_mono (Kd.R_far (p := ⟨gb262, 1, none⟩) (Kd.R_far (p := ⟨gb262, 0, none⟩) (Kd.R_types HO_3.out BK262.out (by decide)) (fun _ hk => hk.2) (.string ((rd_T42 l0 x10_1).f0))) (fun _ hk => hk.2) (.string ((rd_T42 l0 x10_1).f1))) (fun _ hk => trivial)⟩, ⟨by (with_reducible repeat (first | refine blk_drewN ?_ _ | refine blk_drew ?_ | refine blk_alloc ?_ _)); refine blk_put (cs := #[.string ((rd_T42 l0 x10_1).f0), .string (⟨#[]⟩ : ByteArray)]) ?_ 1 _ rfl; (with_reducible repeat (first | refine blk_drewN ?_ _ | refine blk_drew ?_ | refine blk_alloc ?_ _)); refine blk_put (cs := #[.string (⟨#[]⟩ : ByteArray), .string (⟨#[]⟩ : ByteArray)]) ?_ 0 _ rfl; (with_reducible repeat (first | refine blk_drewN ?_ _ | refine blk_drew ?_ | refine blk_alloc ?_ _)); exact BK262.out⟩, ⟨by repeat (first | (with_reducible first | exact HB.out | apply below_alloc | apply pw_below_drewN | apply below_drew1 | refine below_set ?_ GE262.out) | exact HB.out)⟩⟩
      case rest =>
       clear HC7
       try clear c1
       try clear p2
       try clear q2
       try clear hx2
       try clear c4
       try clear c4b0
       try clear c5
       try clear c5b0
       try clear c6
       try clear c6b0
       try clear c7
       try clear c10
       try clear c10b0
       try clear c11
       try clear hcz9_0
       try clear hcz9_1
       try clear hfz9_0
       try clear hfz9_1
       try clear hx261_0
       try clear hx261_1
       try clear p2
       try clear p261
       try clear q261
       obtain ⟨kq, x3_6, HA, HJ6, HO_3, BK262, HB⟩ := hcut
       cases kq with
       | zero => exact absurd HA.out (by simp [impl_dnText.j1])
       | succ kj6 =>
        have H := HA.out
        clear HA
        simp only [impl_dnText.j1] at H
        by_cases c13 : x3_6.length + ((rd_T42 l0 x10_1).f0).size < 140737488355328
        ·rw [if_pos c13] at H
         have LMc13 := Aside0.mk c13
         clear c13
         obtain ⟨y266, hy266⟩ : ∃ y_ : List Int, y_ = (x3_6 ++ bytesOf ((rd_T42 l0 x10_1).f0)) := ⟨_, rfl⟩
         replace H : (if y266.length < 140737488355328 then (impl_dnText.l1 kj6 (y266 ++ [61]) l0 (l0.length : Int) x10_1 (((rd_T42 l0 x10_1).f1).size : Int) 0 ((rd_T42 l0 x10_1).f0) ((rd_T42 l0 x10_1).f1)) else (none)) = some r := by first | (rw [hy266]; with_reducible exact H) | (have H2_ := (Option.bind_some _ _).symm.trans H; rw [hy266]; with_reducible exact H2_) | (have H2_ := (Option.bind_some _ _).symm.trans H; with_reducible exact H2_) | with_reducible exact H | (rw [hy266]; exact H) | exact H
         have Ny266 := Aside0.mk hy266
         clear hy266
         by_cases c14 : y266.length < 140737488355328
         ·rw [if_pos c14] at H
          have LMc14 := Aside0.mk c14
          clear c14
          obtain ⟨y269, hy269⟩ : ∃ y_ : List Int, y_ = (y266 ++ [61]) := ⟨_, rfl⟩
          replace H : (impl_dnText.l1 kj6 y269 l0 (l0.length : Int) x10_1 (((rd_T42 l0 x10_1).f1).size : Int) 0 ((rd_T42 l0 x10_1).f0) ((rd_T42 l0 x10_1).f1)) = some r := by first | (rw [hy269]; with_reducible exact H) | (have H2_ := (Option.bind_some _ _).symm.trans H; rw [hy269]; with_reducible exact H2_) | (have H2_ := (Option.bind_some _ _).symm.trans H; with_reducible exact H2_) | with_reducible exact H | (rw [hy269]; exact H) | exact H
          have Ny269 := Aside0.mk hy269
          clear hy269
          have H' := Aside0.mk H
          clear H
          have hcz15_0 : wc.cell? ⟨gb262, 0, none⟩ = some (.string ((rd_T42 l0 x10_1).f0)) := (blk_cell BK262.out 0).trans rfl
          have hcz15_1 : wc.cell? ⟨gb262, 1, none⟩ = some (.string ((rd_T42 l0 x10_1).f1)) := (blk_cell BK262.out 1).trans rfl
          have hfz15_0 := blk_frozen BK262.out 0
          have hfz15_1 := blk_frozen BK262.out 1
          go_wp2_with (first | (at_builtin; refine print_append_str (w0 := w) w.heap.size rfl (.tmp 20) _ 36 9 5 rfl Tryd.underlying36 Tryd.underlying9 info5 u3 x3_6 ((rd_T42 l0 x10_1).f0) rfl rfl ?aO ?aB ?aS ?aL ?_; (case aB => exact (HBb GE262)); (case aO => exact (Kd.own_of_R (by (with_reducible repeat (first | apply Kd.R_alloc | apply Kd.R_drewN | apply Kd.R_drew)); exact HO_3.out))); (case aS => exact (below_size (HBb GE262))); (case aL => have := LMc13.out; omega); intro v267 w16 ho0 hb hg; have ho := Kd.R_of_own (h1 := fun _ => rfl) (ok := fun _ => True) ho0 (fun _ _ => trivial); clear ho0; have hat := True.intro; rw [← Ny266.out] at ho; change Kd.R (Kd.int .u8) 5 w16 w.heap.size (fun _ => True) v267 y266 at ho; have n0_ := Aside0.mk (blk_grown (g := gb262) (o := .cells #[.string ((rd_T42 l0 x10_1).f0), .string ((rd_T42 l0 x10_1).f1)] 42 (0, 0)) (BKz BK262) hg (Kd.R_ne HO_3.out BK262.out (by decide))); have n1_ := Aside0.mk (hb); have n2_ := Aside0.mk (ho); clear BK262; clear HB; clear HO_3; have BK262 := n0_; have HB := n1_; have HO268 := n2_; clear n0_ n1_ n2_; clear ho hb hg hat) | ((with_reducible refine gate_builtin (b := .append) (xs := #[.tmp 23, .tmp 24]) rfl ?_); at_builtin; refine Kd.R_append (Kd.int .u8) (w0 := w) w.heap.size rfl (.tmp 23) (.tmp 24) 36 5 (.int .u8 0) 1 rfl Tryd.underlying36 info5 rfl (by decide) (by omega) v267 y266 61 [.int .u8 61] (fun _ => True) (fun _ => False) rfl rfl ?aP (fun _ hk => hk.elim) ?aF ?aO ?aB ?aS ?aL ?_; (case aP => exact rfl); (case aB => exact (HBb GE262)); (case aF => exact (fun _ _ => trivial)); (case aO => exact (by (with_reducible repeat (first | apply Kd.R_alloc | apply Kd.R_drewN | apply Kd.R_drew)); exact HO268.out)); (case aS => exact (below_size (HBb GE262))); (case aL => have := LMc14.out; omega); intro v270 w17 ho hb hg hat; rw [← Ny269.out] at ho; have n0_ := Aside0.mk (blk_grown (g := gb262) (o := .cells #[.string ((rd_T42 l0 x10_1).f0), .string ((rd_T42 l0 x10_1).f1)] 42 (0, 0)) (BKz BK262) hg (Kd.R_ne HO268.out BK262.out (by decide))); have n1_ := Aside0.mk (hb); have n2_ := Aside0.mk (ho); clear BK262; clear HB; clear HO268; have BK262 := n0_; have HB := n1_; have HO271 := n2_; clear n0_ n1_ n2_; clear ho hb hg hat; have hcz18_0 : w17.cell? ⟨gb262, 0, none⟩ = some (.string ((rd_T42 l0 x10_1).f0)) := (blk_cell BK262.out 0).trans rfl; have hcz18_1 : w17.cell? ⟨gb262, 1, none⟩ = some (.string ((rd_T42 l0 x10_1).f1)) := (blk_cell BK262.out 1).trans rfl; have hfz18_0 := blk_frozen BK262.out 0; have hfz18_1 := blk_frozen BK262.out 1))
          go_loopg [3, 29] kj6 (fun kq v3 v29 w' => ∃ (x3_3 : List Int) (x29_3 : Int), v29 = .int .i64 x29_3 ∧ Aside0 (impl_dnText.l1 kq x3_3 l0 (l0.length : Int) x10_1 (((rd_T42 l0 x10_1).f1).size : Int) x29_3 ((rd_T42 l0 x10_1).f0) ((rd_T42 l0 x10_1).f1) = some r) ∧ Aside0 (kq ≤ kj6) ∧ Aside0 (Kd.R (Kd.int .u8) 5 w' w.heap.size (fun _ => True) v3 x3_3) ∧ Aside0 (w'.heap[gb262]? = some (.cells #[.string ((rd_T42 l0 x10_1).f0), .string ((rd_T42 l0 x10_1).f1)] 42 (0, 0))) ∧ Aside0 (Below w.heap.size w w'))
          case atStart => exact ⟨(y269), (0), EZc, H', ⟨Nat.le_refl _⟩, ⟨by (with_reducible repeat (first | apply Kd.R_alloc | apply Kd.R_drewN | apply Kd.R_drew)); exact HO271.out⟩, ⟨by (with_reducible repeat (first | refine blk_drewN ?_ _ | refine blk_drew ?_ | refine blk_alloc ?_ _)); exact BK262.out⟩, ⟨by repeat (first | (with_reducible first | exact HB.out | apply below_alloc | apply pw_below_drewN | apply below_drew1 | refine below_set ?_ GE262.out) | exact HB.out)⟩⟩
          case round =>
           clear H'
           try clear c1
           try clear p2
           try clear q2
           try clear hx2
           try clear c4
           try clear c4b0
           try clear c5
           try clear c5b0
           try clear c6
           try clear c6b0
           try clear c7
           try clear c10
           try clear c10b0
           try clear c11
           try clear c13
           try clear c14
           try clear hcz15_0
           try clear hcz15_1
           try clear hcz18_0
           try clear hcz18_1
           try clear hcz9_0
           try clear hcz9_1
           try clear hfz15_0
           try clear hfz15_1
           try clear hfz18_0
           try clear hfz18_1
           try clear hfz9_0
           try clear hfz9_1
           try clear hx261_0
           try clear hx261_1
           try clear p2
           try clear p261
           try clear q2
           try clear q261
           obtain ⟨x3_3, x29_3, rfl, HA, HK3, HO_3, BK262, HB⟩ := hrel
           cases gk with
           | zero => exact absurd HA.out (by simp [impl_dnText.l1])
           | succ k3 =>
            have H := HA.out
            clear HA
            simp only [impl_dnText.l1] at H
            by_cases c19 : x29_3 < (((rd_T42 l0 x10_1).f1).size : Int)
            ·rw [if_pos c19] at H
             have c19b0 : decide (x29_3 < (((rd_T42 l0 x10_1).f1).size : Int)) = true := decide_eq_true c19
             clear c19
             replace H := Option.bind_eq_some_iff.mp H
             obtain ⟨t272, A200, H⟩ := H
             replace H : (if t272 = true then (if x3_3.length < 140737488355328 then ((some (x3_3 ++ [92] : List Int)).bind fun y273 => (if 0 ≤ x29_3 then (if x29_3 < (((rd_T42 l0 x10_1).f1).size : Int) then (if y273.length < 140737488355328 then (impl_dnText.l1 k3 (y273 ++ [bt ((rd_T42 l0 x10_1).f1) x29_3]) l0 (l0.length : Int) x10_1 (((rd_T42 l0 x10_1).f1).size : Int) (wrap64 (x29_3 + 1)) ((rd_T42 l0 x10_1).f0) ((rd_T42 l0 x10_1).f1)) else (none)) else (none)) else (none))) else (none)) else (if 0 ≤ x29_3 then (if x29_3 < (((rd_T42 l0 x10_1).f1).size : Int) then (if x3_3.length < 140737488355328 then (impl_dnText.l1 k3 (x3_3 ++ [bt ((rd_T42 l0 x10_1).f1) x29_3]) l0 (l0.length : Int) x10_1 (((rd_T42 l0 x10_1).f1).size : Int) (wrap64 (x29_3 + 1)) ((rd_T42 l0 x10_1).f0) ((rd_T42 l0 x10_1).f1)) else (none)) else (none)) else (none))) = some r := H
             have A20 := Aside0.mk A200
             clear A200
             by_cases c21 : t272 = true
             ·subst c21
              have H1 : (if x3_3.length < 140737488355328 then ((some (x3_3 ++ [92] : List Int)).bind fun y273 => (if 0 ≤ x29_3 then (if x29_3 < (((rd_T42 l0 x10_1).f1).size : Int) then (if y273.length < 140737488355328 then (impl_dnText.l1 k3 (y273 ++ [bt ((rd_T42 l0 x10_1).f1) x29_3]) l0 (l0.length : Int) x10_1 (((rd_T42 l0 x10_1).f1).size : Int) (wrap64 (x29_3 + 1)) ((rd_T42 l0 x10_1).f0) ((rd_T42 l0 x10_1).f1)) else (none)) else (none)) else (none))) else (none)) = some r := by rw [if_pos rfl] at H; exact H
              clear H
              have H := H1
              clear H1
              by_cases c22 : x3_3.length < 140737488355328
              ·rw [if_pos c22] at H
               have LMc22 := Aside0.mk c22
               clear c22
               obtain ⟨y273, hy273⟩ : ∃ y_ : List Int, y_ = (x3_3 ++ [92]) := ⟨_, rfl⟩
               replace H : (if 0 ≤ x29_3 then (if x29_3 < (((rd_T42 l0 x10_1).f1).size : Int) then (if y273.length < 140737488355328 then (impl_dnText.l1 k3 (y273 ++ [bt ((rd_T42 l0 x10_1).f1) x29_3]) l0 (l0.length : Int) x10_1 (((rd_T42 l0 x10_1).f1).size : Int) (wrap64 (x29_3 + 1)) ((rd_T42 l0 x10_1).f0) ((rd_T42 l0 x10_1).f1)) else (none)) else (none)) else (none)) = some r := by first | (rw [hy273]; with_reducible exact H) | (have H2_ := (Option.bind_some _ _).symm.trans H; rw [hy273]; with_reducible exact H2_) | (have H2_ := (Option.bind_some _ _).symm.trans H; with_reducible exact H2_) | with_reducible exact H | (rw [hy273]; exact H) | exact H
               have Ny273 := Aside0.mk hy273
               clear hy273
               by_cases c23 : 0 ≤ x29_3
               ·rw [if_pos c23] at H
                have c23b0 : decide (0 ≤ x29_3) = true := decide_eq_true c23
                clear c23
                by_cases c24 : x29_3 < (((rd_T42 l0 x10_1).f1).size : Int)
                ·rw [if_pos c24] at H
                 have c24b0 : decide (x29_3 < (((rd_T42 l0 x10_1).f1).size : Int)) = true := decide_eq_true c24
                 clear c24
                 by_cases c26 : y273.length < 140737488355328
                 ·rw [if_pos c26] at H
                  have LMc26 := Aside0.mk c26
                  clear c26
                  obtain ⟨y276, hy276⟩ : ∃ y_ : List Int, y_ = (y273 ++ [bt ((rd_T42 l0 x10_1).f1) x29_3]) := ⟨_, rfl⟩
                  replace H : (impl_dnText.l1 k3 y276 l0 (l0.length : Int) x10_1 (((rd_T42 l0 x10_1).f1).size : Int) (wrap64 (x29_3 + 1)) ((rd_T42 l0 x10_1).f0) ((rd_T42 l0 x10_1).f1)) = some r := by first | (rw [hy276]; with_reducible exact H) | (have H2_ := (Option.bind_some _ _).symm.trans H; rw [hy276]; with_reducible exact H2_) | (have H2_ := (Option.bind_some _ _).symm.trans H; with_reducible exact H2_) | with_reducible exact H | (rw [hy276]; exact H) | exact H
                  have Ny276 := Aside0.mk hy276
                  clear hy276
                  have H' := Aside0.mk H
                  clear H
                  have hcz27_0 : wr.cell? ⟨gb262, 0, none⟩ = some (.string ((rd_T42 l0 x10_1).f0)) := (blk_cell BK262.out 0).trans rfl
                  have hcz27_1 : wr.cell? ⟨gb262, 1, none⟩ = some (.string ((rd_T42 l0 x10_1).f1)) := (blk_cell BK262.out 1).trans rfl
                  have hfz27_0 := blk_frozen BK262.out 0
                  have hfz27_1 := blk_frozen BK262.out 1
                  go_wp2_with (first | ((with_reducible refine gate_callee (f := 123) rfl ?_); refine goesL_ (some 35) rfl rfl Tryd.func123 (by kernel_rfl) rfl #[.string ((rd_T42 l0 x10_1).f1), .int .i64 x29_3] rfl MPz ?_; (with_reducible refine (impl_isMarked.calls ((rd_T42 l0 x10_1).f1) x29_3 true _ A20.out).mono ?_); rintro e w' ⟨rfl, ⟨nd, rfl⟩⟩; refine ⟨_, rfl, ?_⟩) | ((with_reducible refine gate_builtin (b := .append) (xs := #[.tmp 36, .tmp 37]) rfl ?_); at_builtin; refine Kd.R_append (Kd.int .u8) (w0 := w) w.heap.size rfl (.tmp 36) (.tmp 37) 36 5 (.int .u8 0) 1 rfl Tryd.underlying36 info5 rfl (by decide) (by omega) u3 x3_3 92 [.int .u8 92] (fun _ => True) (fun _ => False) rfl rfl ?aP (fun _ hk => hk.elim) ?aF ?aO ?aB ?aS ?aL ?_; (case aP => exact rfl); (case aB => exact (HBb GE262)); (case aF => exact (fun _ _ => trivial)); (case aO => exact (by (with_reducible repeat (first | apply Kd.R_alloc | apply Kd.R_drewN | apply Kd.R_drew)); exact HO_3.out)); (case aS => exact (below_size (HBb GE262))); (case aL => have := LMc22.out; omega); intro v274 w28 ho hb hg hat; rw [← Ny273.out] at ho; have n0_ := Aside0.mk (blk_grown (g := gb262) (o := .cells #[.string ((rd_T42 l0 x10_1).f0), .string ((rd_T42 l0 x10_1).f1)] 42 (0, 0)) (BKz BK262) hg (Kd.R_ne HO_3.out BK262.out (by decide))); have n1_ := Aside0.mk (hb); have n2_ := Aside0.mk (ho); clear BK262; clear HB; clear HO_3; have BK262 := n0_; have HB := n1_; have HO275 := n2_; clear n0_ n1_ n2_; clear ho hb hg hat; have hcz29_0 : w28.cell? ⟨gb262, 0, none⟩ = some (.string ((rd_T42 l0 x10_1).f0)) := (blk_cell BK262.out 0).trans rfl; have hcz29_1 : w28.cell? ⟨gb262, 1, none⟩ = some (.string ((rd_T42 l0 x10_1).f1)) := (blk_cell BK262.out 1).trans rfl; have hfz29_0 := blk_frozen BK262.out 0; have hfz29_1 := blk_frozen BK262.out 1; have p25 : 0 ≤ (x29_3 : Int) := ODz; have q25 : x29_3 < (((rd_T42 l0 x10_1).f1).size : Int) := ODz; have hx25 := bt_at ((rd_T42 l0 x10_1).f1) x29_3; replace p25 := eq_true p25; replace q25 := eq_true q25) | ((with_reducible refine gate_builtin (b := .append) (xs := #[.tmp 39, .tmp 44]) rfl ?_); at_builtin; refine Kd.R_append (Kd.int .u8) (w0 := w) w.heap.size rfl (.tmp 39) (.tmp 44) 36 5 (.int .u8 0) 1 rfl Tryd.underlying36 info5 rfl (by decide) (by omega) v274 y273 (bt ((rd_T42 l0 x10_1).f1) x29_3) [.int .u8 (bt ((rd_T42 l0 x10_1).f1) x29_3)] (fun _ => True) (fun _ => False) rfl rfl ?aP (fun _ hk => hk.elim) ?aF ?aO ?aB ?aS ?aL ?_; (case aP => exact rfl); (case aB => exact (HBb GE262)); (case aF => exact (fun _ _ => trivial)); (case aO => exact (by (with_reducible repeat (first | apply Kd.R_alloc | apply Kd.R_drewN | apply Kd.R_drew)); exact HO275.out)); (case aS => exact (below_size (HBb GE262))); (case aL => have := LMc26.out; omega); intro v277 w30 ho hb hg hat; rw [← Ny276.out] at ho; have n0_ := Aside0.mk (blk_grown (g := gb262) (o := .cells #[.string ((rd_T42 l0 x10_1).f0), .string ((rd_T42 l0 x10_1).f1)] 42 (0, 0)) (BKz BK262) hg (Kd.R_ne HO275.out BK262.out (by decide))); have n1_ := Aside0.mk (hb); have n2_ := Aside0.mk (ho); clear BK262; clear HB; clear HO275; have BK262 := n0_; have HB := n1_; have HO278 := n2_; clear n0_ n1_ n2_; clear ho hb hg hat))
                  go_roundg k3
                  case measure => have := HK1.out; have := HJ6.out; have := HK3.out; omega
                  case rel => exact ⟨(y276), (wrap64 (x29_3 + 1)), EZc, H', ⟨by have := HK1.out; have := HJ6.out; have := HK3.out; omega⟩, ⟨by (with_reducible repeat (first | apply Kd.R_alloc | apply Kd.R_drewN | apply Kd.R_drew)); exact HO278.out⟩, ⟨by (with_reducible repeat (first | refine blk_drewN ?_ _ | refine blk_drew ?_ | refine blk_alloc ?_ _)); exact BK262.out⟩, ⟨by repeat (first | (with_reducible first | exact HB.out | apply below_alloc | apply pw_below_drewN | apply below_drew1 | refine below_set ?_ GE262.out) | exact HB.out)⟩⟩
                 ·rw [if_neg c26] at H
                  exact absurd H (by simp)
                ·rw [if_neg c24] at H
                 exact absurd H (by simp)
               ·rw [if_neg c23] at H
                exact absurd H (by simp)
              ·rw [if_neg c22] at H
               exact absurd H (by simp)
             ·replace c21 := Bool.eq_false_iff.mpr c21
              subst c21
              have H1 : (if 0 ≤ x29_3 then (if x29_3 < (((rd_T42 l0 x10_1).f1).size : Int) then (if x3_3.length < 140737488355328 then (impl_dnText.l1 k3 (x3_3 ++ [bt ((rd_T42 l0 x10_1).f1) x29_3]) l0 (l0.length : Int) x10_1 (((rd_T42 l0 x10_1).f1).size : Int) (wrap64 (x29_3 + 1)) ((rd_T42 l0 x10_1).f0) ((rd_T42 l0 x10_1).f1)) else (none)) else (none)) else (none)) = some r := by rw [if_neg (show ¬ (false = true) by decide)] at H; exact H
              clear H
              have H := H1
              clear H1
              by_cases c31 : 0 ≤ x29_3
              ·rw [if_pos c31] at H
               have c31b0 : decide (0 ≤ x29_3) = true := decide_eq_true c31
               clear c31
               by_cases c32 : x29_3 < (((rd_T42 l0 x10_1).f1).size : Int)
               ·rw [if_pos c32] at H
                have c32b0 : decide (x29_3 < (((rd_T42 l0 x10_1).f1).size : Int)) = true := decide_eq_true c32
                clear c32
                by_cases c34 : x3_3.length < 140737488355328
                ·rw [if_pos c34] at H
                 have LMc34 := Aside0.mk c34
                 clear c34
                 obtain ⟨y279, hy279⟩ : ∃ y_ : List Int, y_ = (x3_3 ++ [bt ((rd_T42 l0 x10_1).f1) x29_3]) := ⟨_, rfl⟩
                 replace H : (impl_dnText.l1 k3 y279 l0 (l0.length : Int) x10_1 (((rd_T42 l0 x10_1).f1).size : Int) (wrap64 (x29_3 + 1)) ((rd_T42 l0 x10_1).f0) ((rd_T42 l0 x10_1).f1)) = some r := by first | (rw [hy279]; with_reducible exact H) | (have H2_ := (Option.bind_some _ _).symm.trans H; rw [hy279]; with_reducible exact H2_) | (have H2_ := (Option.bind_some _ _).symm.trans H; with_reducible exact H2_) | with_reducible exact H | (rw [hy279]; exact H) | exact H
                 have Ny279 := Aside0.mk hy279
                 clear hy279
                 have H' := Aside0.mk H
                 clear H
                 have hcz35_0 : wr.cell? ⟨gb262, 0, none⟩ = some (.string ((rd_T42 l0 x10_1).f0)) := (blk_cell BK262.out 0).trans rfl
                 have hcz35_1 : wr.cell? ⟨gb262, 1, none⟩ = some (.string ((rd_T42 l0 x10_1).f1)) := (blk_cell BK262.out 1).trans rfl
                 have hfz35_0 := blk_frozen BK262.out 0
                 have hfz35_1 := blk_frozen BK262.out 1
                 go_wp2_with (first | ((with_reducible refine gate_callee (f := 123) rfl ?_); refine goesL_ (some 35) rfl rfl Tryd.func123 (by kernel_rfl) rfl #[.string ((rd_T42 l0 x10_1).f1), .int .i64 x29_3] rfl MPz ?_; (with_reducible refine (impl_isMarked.calls ((rd_T42 l0 x10_1).f1) x29_3 false _ A20.out).mono ?_); rintro e w' ⟨rfl, ⟨nd, rfl⟩⟩; refine ⟨_, rfl, ?_⟩; have p33 : 0 ≤ (x29_3 : Int) := ODz; have q33 : x29_3 < (((rd_T42 l0 x10_1).f1).size : Int) := ODz; have hx33 := bt_at ((rd_T42 l0 x10_1).f1) x29_3; replace p33 := eq_true p33; replace q33 := eq_true q33) | ((with_reducible refine gate_builtin (b := .append) (xs := #[.tmp 39, .tmp 44]) rfl ?_); at_builtin; refine Kd.R_append (Kd.int .u8) (w0 := w) w.heap.size rfl (.tmp 39) (.tmp 44) 36 5 (.int .u8 0) 1 rfl Tryd.underlying36 info5 rfl (by decide) (by omega) u3 x3_3 (bt ((rd_T42 l0 x10_1).f1) x29_3) [.int .u8 (bt ((rd_T42 l0 x10_1).f1) x29_3)] (fun _ => True) (fun _ => False) rfl rfl ?aP (fun _ hk => hk.elim) ?aF ?aO ?aB ?aS ?aL ?_; (case aP => exact rfl); (case aB => exact (HBb GE262)); (case aF => exact (fun _ _ => trivial)); (case aO => exact (by (with_reducible repeat (first | apply Kd.R_alloc | apply Kd.R_drewN | apply Kd.R_drew)); exact HO_3.out)); (case aS => exact (below_size (HBb GE262))); (case aL => have := LMc34.out; omega); intro v280 w36 ho hb hg hat; rw [← Ny279.out] at ho; have n0_ := Aside0.mk (blk_grown (g := gb262) (o := .cells #[.string ((rd_T42 l0 x10_1).f0), .string ((rd_T42 l0 x10_1).f1)] 42 (0, 0)) (BKz BK262) hg (Kd.R_ne HO_3.out BK262.out (by decide))); have n1_ := Aside0.mk (hb); have n2_ := Aside0.mk (ho); clear BK262; clear HB; clear HO_3; have BK262 := n0_; have HB := n1_; have HO281 := n2_; clear n0_ n1_ n2_; clear ho hb hg hat))
                 go_roundg k3
                 case measure => have := HK1.out; have := HJ6.out; have := HK3.out; omega
                 case rel => exact ⟨(y279), (wrap64 (x29_3 + 1)), EZc, H', ⟨by have := HK1.out; have := HJ6.out; have := HK3.out; omega⟩, ⟨by (with_reducible repeat (first | apply Kd.R_alloc | apply Kd.R_drewN | apply Kd.R_drew)); exact HO281.out⟩, ⟨by (with_reducible repeat (first | refine blk_drewN ?_ _ | refine blk_drew ?_ | refine blk_alloc ?_ _)); exact BK262.out⟩, ⟨by repeat (first | (with_reducible first | exact HB.out | apply below_alloc | apply pw_below_drewN | apply below_drew1 | refine below_set ?_ GE262.out) | exact HB.out)⟩⟩
                ·rw [if_neg c34] at H
                 exact absurd H (by simp)
               ·rw [if_neg c32] at H
                exact absurd H (by simp)
              ·rw [if_neg c31] at H
               exact absurd H (by simp)
            ·rw [if_neg c19] at H
             have c19b0 : decide (x29_3 < (((rd_T42 l0 x10_1).f1).size : Int)) = false := decide_eq_false c19
             clear c19
             have H' := Aside0.mk H
             clear H
             go_wp2
             go_roundg k3
             case measure => have := HK1.out; have := HJ6.out; have := HK3.out; omega
             case rel => exact ⟨(x3_3), (wrap64 (x10_1 + 1)), EZc, H', ⟨by have := HK1.out; have := HJ6.out; have := HK3.out; omega⟩, ⟨by (with_reducible repeat (first | apply Kd.R_alloc | apply Kd.R_drewN | apply Kd.R_drew)); exact HO_3.out⟩, ⟨by repeat (first | (with_reducible first | exact HB.out | apply below_alloc | apply pw_below_drewN | apply below_drew1 | refine below_set ?_ GE262.out) | exact HB.out)⟩⟩
         ·rw [if_neg c14] at H
          exact absurd H (by simp)
        ·rw [if_neg c13] at H
         exact absurd H (by simp)
     ·rw [if_neg c6] at H
      exact absurd H (by simp)
    ·rw [if_neg c5] at H
     exact absurd H (by simp)
   ·rw [if_neg c4] at H
    have c4b0 : decide (x10_1 < (l0.length : Int)) = false := decide_eq_false c4
    clear c4
    obtain rfl := Option.some.inj H
    have hcv37 := own_string (P := Tryd.prog) Tryd.underlying36 Tryd.underlying5 Tryd.underlying9 (Kd.own_of_R HO_3.out)
    go_wp2
    go_ret
    exact ⟨EZa, HBa⟩
end Go.Proofs.YtdbboelacgehoaaDoor.PFnExactDnRead
