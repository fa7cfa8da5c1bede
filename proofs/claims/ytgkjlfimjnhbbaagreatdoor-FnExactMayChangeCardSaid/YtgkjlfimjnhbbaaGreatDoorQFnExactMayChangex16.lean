-- Laid by this session's own program out of the translation; Lean checks it.
import Derived.Test.YtgkjlfimjnhbbaaGreatDoorQFnExactMayChangex0
import Derived.Test.YtgkjlfimjnhbbaaGreatDoorQFnExactMayChangex10
import Derived.Test.YtgkjlfimjnhbbaaGreatDoorQFnExactMayChangex12
import Derived.Test.YtgkjlfimjnhbbaaGreatDoorQFnExactMayChangex14
import Derived.Test.YtgkjlfimjnhbbaaGreatDoorQFnExactMayChangex15
namespace Go.Proofs.YtgkjlfimjnhbbaaGreatDoor.PFnExactMayChange
open Go.RowKit Go.Proofs.YtgkjlfimjnhbbaaGreatDoorW.PrintWords Go.Proofs.YtgkjlfimjnhbbaaGreatDoorW.PrintLast Go.Proofs.YtgkjlfimjnhbbaaGreatDoorW.PrintMore
attribute [local go_sem] max2_int min2_int max_two min_two max_three min_three max_four min_four   -- for this text's walks alone
set_option linter.unusedVariables false
set_option linter.unusedSimpArgs false
def impl_allowed.clo2 (k : Nat) (attr : ByteArray) (right : Int) (ld l1 : List (S98)) (l2 : List ByteArray) (a3 : Int) : Option Bool :=
 (impl_dnUnder.f k ld l1).bind fun t => if t = true then (if a3 = right then (if (l2.length : Int) = 0 then some true else slices_Contains_string_string.f k l2 attr) else some false) else some false
def impl_allowed.clo (k : Nat) (who attr : ByteArray) (right : Int) (ld : List (S98)) (a0 : ByteArray) (l1 : List (S98)) (l2 : List ByteArray) (a3 : Int) : Option Bool :=
 if a0.toList = ([42] : List UInt8) then impl_allowed.clo2 k attr right ld l1 l2 a3 else if a0.toList = who.toList then impl_allowed.clo2 k attr right ld l1 l2 a3 else some false
def impl_allowed.ix (k : Nat) (who attr : ByteArray) (right : Int) (ld : List (S98)) : List S53 → Int → Option Int
 | [], _ => some (-1)
 | x :: xs, i => (impl_allowed.clo k who attr right ld x.f0 x.f1 x.f2 x.f3).bind fun b => if b = true then some i else impl_allowed.ix k who attr right ld xs (i + 1)
def impl_allowed.f (k : Nat) (l0 : List (S53)) (a1 : ByteArray) (l2 : List (S98)) (a3 : ByteArray) (a4 : Int) : Option (Bool) :=
 (impl_allowed.ix k a1 a3 a4 l2 l0 0).bind fun t => if 0 ≤ t then some (rd_T53 l0 t).f4 else some false
theorem impl_allowed.mono_clo2 (k : Nat) (attr : ByteArray) (right : Int) (ld l1 : List (S98)) (l2 : List ByteArray) (a3 : Int) : LeO (impl_allowed.clo2 k attr right ld l1 l2 a3) (impl_allowed.clo2 (k + 1) attr right ld l1 l2 a3) :=
 LeO.bind (impl_dnUnder.mono _ _ _) (fun _ => LeO.ite (LeO.ite (LeO.ite (LeO.refl _) (slices_Contains_string_string.mono _ _ _)) (LeO.refl _)) (LeO.refl _))
theorem impl_allowed.mono_clo (k : Nat) (who attr : ByteArray) (right : Int) (ld : List (S98)) (a0 : ByteArray) (l1 : List (S98)) (l2 : List ByteArray) (a3 : Int) : LeO (impl_allowed.clo k who attr right ld a0 l1 l2 a3) (impl_allowed.clo (k + 1) who attr right ld a0 l1 l2 a3) :=
 LeO.ite (impl_allowed.mono_clo2 _ _ _ _ _ _ _) (LeO.ite (impl_allowed.mono_clo2 _ _ _ _ _ _ _) (LeO.refl _))
theorem impl_allowed.mono_ix (k : Nat) (who attr : ByteArray) (right : Int) (ld : List (S98)) : ∀ (l : List S53) (i : Int), LeO (impl_allowed.ix k who attr right ld l i) (impl_allowed.ix (k + 1) who attr right ld l i)
 | [], _ => LeO.refl _
 | x :: xs, i => LeO.bind (impl_allowed.mono_clo _ _ _ _ _ _ _ _ _) (fun b => LeO.ite (LeO.refl _) (impl_allowed.mono_ix k who attr right ld xs (i + 1)))
theorem impl_allowed.mono : ∀ a0 a1 a2 a3 a4 k, LeO (impl_allowed.f k a0 a1 a2 a3 a4) (impl_allowed.f (k + 1) a0 a1 a2 a3 a4) := fun _ _ _ _ _ _ => LeO.bind (impl_allowed.mono_ix _ _ _ _ _ _ _) (fun _ => LeO.refl _)
theorem impl_allowed.ix_lt (k : Nat) (who attr : ByteArray) (right : Int) (ld : List (S98)) : ∀ (l : List S53) (i : Int) (r : Int), 0 ≤ i → impl_allowed.ix k who attr right ld l i = some r → r < 0 ∨ r < i + l.length
 | [], i, r, h0, h => by simp only [impl_allowed.ix, Option.some.injEq] at h; omega
 | x :: xs, i, r, h0, h => by
  simp only [impl_allowed.ix] at h
  obtain ⟨b, _, h⟩ := Option.bind_eq_some_iff.1 h
  cases b
  ·have := impl_allowed.ix_lt k who attr right ld xs (i + 1) r (by omega) h
   simp only [List.length_cons]; omega
  ·simp at h; simp only [List.length_cons]; omega
set_option maxHeartbeats 8000000 in
set_option maxRecDepth 100000 in
theorem impl_allowed.clo_calls (k n : Nat) (who attr : ByteArray) (right : Int) (Ad : Option Addr) (cd : Nat) (ld : List (S98)) (a0 : ByteArray) (A1 : Option Addr) (c1 : Nat) (l1 : List (S98)) (A2 : Option Addr) (c2 : Nat) (l2 : List ByteArray) (a3 : Int) (a4 : Bool) (r : Bool) (w : World) (hw : w.cell? ⟨n, 0, none⟩ = some (.string who)) (hd : w.cell? ⟨n + 1, 0, none⟩ = some (.slice Ad ld.length cd)) (ha : w.cell? ⟨n + 1 + 1, 0, none⟩ = some (.string attr)) (hr : w.cell? ⟨n + 1 + 1 + 1, 0, none⟩ = some (.int .i64 right)) (hrd : Kd.C k98 w Ad ld.length ld) (hcd : ld.length ≤ cd) (hr1 : Kd.C k98 w A1 l1.length l1) (hc1 : l1.length ≤ c1) (hr2 : Kd.C Kd.string w A2 l2.length l2) (hc2 : l2.length ≤ c2) (h : impl_allowed.clo k who attr right ld a0 l1 l2 a3 = some r) :
  Calls Tryz.prog 100 #[.agg #[.string a0, .slice A1 l1.length c1, .slice A2 l2.length c2, .int .i64 a3, .bool a4], .pointer (some ⟨n, 0, none⟩), .pointer (some ⟨n + 1, 0, none⟩), .pointer (some ⟨n + 1 + 1 + 1, 0, none⟩), .pointer (some ⟨n + 1 + 1, 0, none⟩)] w fun e w' => e = .returned (.bool r) ∧ Below w.heap.size w w' := by
 have hu := Tryz.underlying53
 have Hw := Aside0.mk hw
 have Hd := Aside0.mk hd
 have Ha := Aside0.mk ha
 have Hr := Aside0.mk hr
 have HRD := Aside0.mk hrd
 have HCD := Aside0.mk hcd
 have HR1 := Aside0.mk hr1
 have HC1 := Aside0.mk hc1
 have HR2 := Aside0.mk hr2
 have HC2 := Aside0.mk hc2
 clear hw hd ha hr hrd hcd hr1 hc1 hr2 hc2
 have HB := Aside0.mk (Below.refl w.heap.size w)
 unfold impl_allowed.clo at h
 by_cases ca : a0.toList = ([42] : List UInt8)
 ·rw [if_pos ca] at h
  have cab0 : (a0.toList == ([42] : List UInt8)) = true := beq_iff_eq.mpr ca
  have cab1 : (a0.toList != ([42] : List UInt8)) = false := bne_eq_false_iff_eq.mpr ca
  clear ca
  unfold impl_allowed.clo2 at h
  obtain ⟨t, A60, h⟩ := Option.bind_eq_some_iff.1 h
  have A6 := Aside0.mk A60
  clear A60
  cases t with
  | false =>
   rw [if_neg (by decide)] at h
   obtain rfl := Option.some.inj h
   clear h
   go_enter Tryz.func100, Tryz.ntmps100
   go_wp2_with (first | ((with_reducible refine gate_dst (N := 5) rfl ?_); (try (refine gate_guard (by rfl) ?_; dsimp only)); refine box_event ?hg (N := 5) ?hd (cs := #[.string a0, .slice A1 l1.length c1, .slice A2 l2.length c2, .int .i64 a3, .bool a4]) (t := 53) ?hr ?_; (case hd => rfl); (case hg => rfl); (case hr => first | (go_simp; done) | (go_simp; rfl)); intro gb hg w9 hbox hb; have n0_ := Aside0.mk (below_step HB.out hb); have n1_ := Aside0.mk hbox; clear HB; have HB := n0_; have BK := n1_; clear n0_ n1_; clear hb hbox hg; have hcz0 := C1z BK; have hfz0 := blk_frozen BK.out 0; have hcz1 := C2z BK; have hfz1 := blk_frozen BK.out 1; have hcz2 := C3z BK; have hfz2 := blk_frozen BK.out 2; have hcz3 := C4z BK; have hfz3 := blk_frozen BK.out 3; have hcz4 := C5z BK; have hfz4 := blk_frozen BK.out 4; have hw_w9 : w9.cell? ⟨n, 0, none⟩ = some (.string who) := (HB.out.cell (World.block_lt_of_cell? w _ Hw.out)).trans Hw.out; have hd_w9 : w9.cell? ⟨n + 1, 0, none⟩ = some (.slice Ad ld.length cd) := (HB.out.cell (World.block_lt_of_cell? w _ Hd.out)).trans Hd.out; have ha_w9 : w9.cell? ⟨n + 1 + 1, 0, none⟩ = some (.string attr) := (HB.out.cell (World.block_lt_of_cell? w _ Ha.out)).trans Ha.out; have hr_w9 : w9.cell? ⟨n + 1 + 1 + 1, 0, none⟩ = some (.int .i64 right) := (HB.out.cell (World.block_lt_of_cell? w _ Hr.out)).trans Hr.out) | (go_at_call 101; (with_reducible refine (impl_dnUnder.calls k _ _ ld _ _ l1 false _ ?side1 HCD.out ?side3 HC1.out A6.out).mono ?_); (case side1 => exact KCz (Kd.C_below HRD.out HB.out)); (case side3 => exact KCz (Kd.C_below HR1.out HB.out)); rintro e w15 ⟨rfl, hb⟩; have n0_ := Aside0.mk (blk_below (g := gb) (o := .cells #[.string a0, .slice A1 l1.length c1, .slice A2 l2.length c2, .int .i64 a3, .bool a4] 53 (0, 0)) BK.out hb); have n1_ := Aside0.mk (below_step HB.out hb); clear BK; clear HB; have BK := n0_; have HB := n1_; clear n0_ n1_; clear hb; have hcy0 := C1z BK; have hfy0 := blk_frozen BK.out 0; have hcy1 := C2z BK; have hfy1 := blk_frozen BK.out 1; have hcy2 := C3z BK; have hfy2 := blk_frozen BK.out 2; have hcy3 := C4z BK; have hfy3 := blk_frozen BK.out 3; have hcy4 := C5z BK; have hfy4 := blk_frozen BK.out 4; have hw_w15 : w15.cell? ⟨n, 0, none⟩ = some (.string who) := (HB.out.cell (World.block_lt_of_cell? w _ Hw.out)).trans Hw.out; have hd_w15 : w15.cell? ⟨n + 1, 0, none⟩ = some (.slice Ad ld.length cd) := (HB.out.cell (World.block_lt_of_cell? w _ Hd.out)).trans Hd.out; have ha_w15 : w15.cell? ⟨n + 1 + 1, 0, none⟩ = some (.string attr) := (HB.out.cell (World.block_lt_of_cell? w _ Ha.out)).trans Ha.out; have hr_w15 : w15.cell? ⟨n + 1 + 1 + 1, 0, none⟩ = some (.int .i64 right) := (HB.out.cell (World.block_lt_of_cell? w _ Hr.out)).trans Hr.out))
   go_ret
   exact ⟨by first | rfl | (simp [*]; done), HBa⟩
  | true =>
   rw [if_pos rfl] at h
   by_cases cr : a3 = right
   rotate_left
   ·rw [if_neg cr] at h
    obtain rfl := Option.some.inj h
    clear h
    have crb0 : (a3 == right) = false := beq_eq_false_iff_ne.mpr cr
    have crb1 : (a3 != right) = true := bne_iff_ne.mpr cr
    go_enter Tryz.func100, Tryz.ntmps100
    go_wp2_with (first | ((with_reducible refine gate_dst (N := 5) rfl ?_); (try (refine gate_guard (by rfl) ?_; dsimp only)); refine box_event ?hg (N := 5) ?hd (cs := #[.string a0, .slice A1 l1.length c1, .slice A2 l2.length c2, .int .i64 a3, .bool a4]) (t := 53) ?hr ?_; (case hd => rfl); (case hg => rfl); (case hr => first | (go_simp; done) | (go_simp; rfl)); intro gb hg w9 hbox hb; have n0_ := Aside0.mk (below_step HB.out hb); have n1_ := Aside0.mk hbox; clear HB; have HB := n0_; have BK := n1_; clear n0_ n1_; clear hb hbox hg; have hcz0 := C1z BK; have hfz0 := blk_frozen BK.out 0; have hcz1 := C2z BK; have hfz1 := blk_frozen BK.out 1; have hcz2 := C3z BK; have hfz2 := blk_frozen BK.out 2; have hcz3 := C4z BK; have hfz3 := blk_frozen BK.out 3; have hcz4 := C5z BK; have hfz4 := blk_frozen BK.out 4; have hw_w9 : w9.cell? ⟨n, 0, none⟩ = some (.string who) := (HB.out.cell (World.block_lt_of_cell? w _ Hw.out)).trans Hw.out; have hd_w9 : w9.cell? ⟨n + 1, 0, none⟩ = some (.slice Ad ld.length cd) := (HB.out.cell (World.block_lt_of_cell? w _ Hd.out)).trans Hd.out; have ha_w9 : w9.cell? ⟨n + 1 + 1, 0, none⟩ = some (.string attr) := (HB.out.cell (World.block_lt_of_cell? w _ Ha.out)).trans Ha.out; have hr_w9 : w9.cell? ⟨n + 1 + 1 + 1, 0, none⟩ = some (.int .i64 right) := (HB.out.cell (World.block_lt_of_cell? w _ Hr.out)).trans Hr.out) | (go_at_call 101; (with_reducible refine (impl_dnUnder.calls k _ _ ld _ _ l1 true _ ?side1 HCD.out ?side3 HC1.out A6.out).mono ?_); (case side1 => exact KCz (Kd.C_below HRD.out HB.out)); (case side3 => exact KCz (Kd.C_below HR1.out HB.out)); rintro e w15 ⟨rfl, hb⟩; have n0_ := Aside0.mk (blk_below (g := gb) (o := .cells #[.string a0, .slice A1 l1.length c1, .slice A2 l2.length c2, .int .i64 a3, .bool a4] 53 (0, 0)) BK.out hb); have n1_ := Aside0.mk (below_step HB.out hb); clear BK; clear HB; have BK := n0_; have HB := n1_; clear n0_ n1_; clear hb; have hcy0 := C1z BK; have hfy0 := blk_frozen BK.out 0; have hcy1 := C2z BK; have hfy1 := blk_frozen BK.out 1; have hcy2 := C3z BK; have hfy2 := blk_frozen BK.out 2; have hcy3 := C4z BK; have hfy3 := blk_frozen BK.out 3; have hcy4 := C5z BK; have hfy4 := blk_frozen BK.out 4; have hw_w15 : w15.cell? ⟨n, 0, none⟩ = some (.string who) := (HB.out.cell (World.block_lt_of_cell? w _ Hw.out)).trans Hw.out; have hd_w15 : w15.cell? ⟨n + 1, 0, none⟩ = some (.slice Ad ld.length cd) := (HB.out.cell (World.block_lt_of_cell? w _ Hd.out)).trans Hd.out; have ha_w15 : w15.cell? ⟨n + 1 + 1, 0, none⟩ = some (.string attr) := (HB.out.cell (World.block_lt_of_cell? w _ Ha.out)).trans Ha.out; have hr_w15 : w15.cell? ⟨n + 1 + 1 + 1, 0, none⟩ = some (.int .i64 right) := (HB.out.cell (World.block_lt_of_cell? w _ Hr.out)).trans Hr.out))
    go_ret
    exact ⟨by first | rfl | (simp [*]; done), HBa⟩
   rw [if_pos cr] at h
   have crb0 : (a3 == right) = true := beq_iff_eq.mpr cr
   have crb1 : (a3 != right) = false := bne_eq_false_iff_eq.mpr cr
   clear cr
   by_cases cl : (l2.length : Int) = 0
   ·rw [if_pos cl] at h
    obtain rfl := Option.some.inj h
    clear h
    have clb0 : ((l2.length : Int) == 0) = true := beq_iff_eq.mpr cl
    have clb1 : ((l2.length : Int) != 0) = false := bne_eq_false_iff_eq.mpr cl
    clear cl
    go_enter Tryz.func100, Tryz.ntmps100
    go_wp2_with (first | ((with_reducible refine gate_dst (N := 5) rfl ?_); (try (refine gate_guard (by rfl) ?_; dsimp only)); refine box_event ?hg (N := 5) ?hd (cs := #[.string a0, .slice A1 l1.length c1, .slice A2 l2.length c2, .int .i64 a3, .bool a4]) (t := 53) ?hr ?_; (case hd => rfl); (case hg => rfl); (case hr => first | (go_simp; done) | (go_simp; rfl)); intro gb hg w9 hbox hb; have n0_ := Aside0.mk (below_step HB.out hb); have n1_ := Aside0.mk hbox; clear HB; have HB := n0_; have BK := n1_; clear n0_ n1_; clear hb hbox hg; have hcz0 := C1z BK; have hfz0 := blk_frozen BK.out 0; have hcz1 := C2z BK; have hfz1 := blk_frozen BK.out 1; have hcz2 := C3z BK; have hfz2 := blk_frozen BK.out 2; have hcz3 := C4z BK; have hfz3 := blk_frozen BK.out 3; have hcz4 := C5z BK; have hfz4 := blk_frozen BK.out 4; have hw_w9 : w9.cell? ⟨n, 0, none⟩ = some (.string who) := (HB.out.cell (World.block_lt_of_cell? w _ Hw.out)).trans Hw.out; have hd_w9 : w9.cell? ⟨n + 1, 0, none⟩ = some (.slice Ad ld.length cd) := (HB.out.cell (World.block_lt_of_cell? w _ Hd.out)).trans Hd.out; have ha_w9 : w9.cell? ⟨n + 1 + 1, 0, none⟩ = some (.string attr) := (HB.out.cell (World.block_lt_of_cell? w _ Ha.out)).trans Ha.out; have hr_w9 : w9.cell? ⟨n + 1 + 1 + 1, 0, none⟩ = some (.int .i64 right) := (HB.out.cell (World.block_lt_of_cell? w _ Hr.out)).trans Hr.out) | (go_at_call 101; (with_reducible refine (impl_dnUnder.calls k _ _ ld _ _ l1 true _ ?side1 HCD.out ?side3 HC1.out A6.out).mono ?_); (case side1 => exact KCz (Kd.C_below HRD.out HB.out)); (case side3 => exact KCz (Kd.C_below HR1.out HB.out)); rintro e w15 ⟨rfl, hb⟩; have n0_ := Aside0.mk (blk_below (g := gb) (o := .cells #[.string a0, .slice A1 l1.length c1, .slice A2 l2.length c2, .int .i64 a3, .bool a4] 53 (0, 0)) BK.out hb); have n1_ := Aside0.mk (below_step HB.out hb); clear BK; clear HB; have BK := n0_; have HB := n1_; clear n0_ n1_; clear hb; have hcy0 := C1z BK; have hfy0 := blk_frozen BK.out 0; have hcy1 := C2z BK; have hfy1 := blk_frozen BK.out 1; have hcy2 := C3z BK; have hfy2 := blk_frozen BK.out 2; have hcy3 := C4z BK; have hfy3 := blk_frozen BK.out 3; have hcy4 := C5z BK; have hfy4 := blk_frozen BK.out 4; have hw_w15 : w15.cell? ⟨n, 0, none⟩ = some (.string who) := (HB.out.cell (World.block_lt_of_cell? w _ Hw.out)).trans Hw.out; have hd_w15 : w15.cell? ⟨n + 1, 0, none⟩ = some (.slice Ad ld.length cd) := (HB.out.cell (World.block_lt_of_cell? w _ Hd.out)).trans Hd.out; have ha_w15 : w15.cell? ⟨n + 1 + 1, 0, none⟩ = some (.string attr) := (HB.out.cell (World.block_lt_of_cell? w _ Ha.out)).trans Ha.out; have hr_w15 : w15.cell? ⟨n + 1 + 1 + 1, 0, none⟩ = some (.int .i64 right) := (HB.out.cell (World.block_lt_of_cell? w _ Hr.out)).trans Hr.out))
    go_ret
    exact ⟨by first | rfl | (simp [*]; done), HBa⟩
   rw [if_neg cl] at h
   have A8 := Aside0.mk h
   clear h
   have clb0 : ((l2.length : Int) == 0) = false := beq_eq_false_iff_ne.mpr cl
   have clb1 : ((l2.length : Int) != 0) = true := bne_iff_ne.mpr cl
   have clb2 : ¬ (l2 = []) := fun h_ => cl (by rw [h_]; rfl)
   clear cl
   go_enter Tryz.func100, Tryz.ntmps100
   go_wp2_with (first | ((with_reducible refine gate_dst (N := 5) rfl ?_); (try (refine gate_guard (by rfl) ?_; dsimp only)); refine box_event ?hg (N := 5) ?hd (cs := #[.string a0, .slice A1 l1.length c1, .slice A2 l2.length c2, .int .i64 a3, .bool a4]) (t := 53) ?hr ?_; (case hd => rfl); (case hg => rfl); (case hr => first | (go_simp; done) | (go_simp; rfl)); intro gb hg w9 hbox hb; have n0_ := Aside0.mk (below_step HB.out hb); have n1_ := Aside0.mk hbox; clear HB; have HB := n0_; have BK := n1_; clear n0_ n1_; clear hb hbox hg; have hcz0 := C1z BK; have hfz0 := blk_frozen BK.out 0; have hcz1 := C2z BK; have hfz1 := blk_frozen BK.out 1; have hcz2 := C3z BK; have hfz2 := blk_frozen BK.out 2; have hcz3 := C4z BK; have hfz3 := blk_frozen BK.out 3; have hcz4 := C5z BK; have hfz4 := blk_frozen BK.out 4; have hw_w9 : w9.cell? ⟨n, 0, none⟩ = some (.string who) := (HB.out.cell (World.block_lt_of_cell? w _ Hw.out)).trans Hw.out; have hd_w9 : w9.cell? ⟨n + 1, 0, none⟩ = some (.slice Ad ld.length cd) := (HB.out.cell (World.block_lt_of_cell? w _ Hd.out)).trans Hd.out; have ha_w9 : w9.cell? ⟨n + 1 + 1, 0, none⟩ = some (.string attr) := (HB.out.cell (World.block_lt_of_cell? w _ Ha.out)).trans Ha.out; have hr_w9 : w9.cell? ⟨n + 1 + 1 + 1, 0, none⟩ = some (.int .i64 right) := (HB.out.cell (World.block_lt_of_cell? w _ Hr.out)).trans Hr.out) | (go_at_call 101; (with_reducible refine (impl_dnUnder.calls k _ _ ld _ _ l1 true _ ?side1 HCD.out ?side3 HC1.out A6.out).mono ?_); (case side1 => exact KCz (Kd.C_below HRD.out HB.out)); (case side3 => exact KCz (Kd.C_below HR1.out HB.out)); rintro e w15 ⟨rfl, hb⟩; have n0_ := Aside0.mk (blk_below (g := gb) (o := .cells #[.string a0, .slice A1 l1.length c1, .slice A2 l2.length c2, .int .i64 a3, .bool a4] 53 (0, 0)) BK.out hb); have n1_ := Aside0.mk (below_step HB.out hb); clear BK; clear HB; have BK := n0_; have HB := n1_; clear n0_ n1_; clear hb; have hcy0 := C1z BK; have hfy0 := blk_frozen BK.out 0; have hcy1 := C2z BK; have hfy1 := blk_frozen BK.out 1; have hcy2 := C3z BK; have hfy2 := blk_frozen BK.out 2; have hcy3 := C4z BK; have hfy3 := blk_frozen BK.out 3; have hcy4 := C5z BK; have hfy4 := blk_frozen BK.out 4; have hw_w15 : w15.cell? ⟨n, 0, none⟩ = some (.string who) := (HB.out.cell (World.block_lt_of_cell? w _ Hw.out)).trans Hw.out; have hd_w15 : w15.cell? ⟨n + 1, 0, none⟩ = some (.slice Ad ld.length cd) := (HB.out.cell (World.block_lt_of_cell? w _ Hd.out)).trans Hd.out; have ha_w15 : w15.cell? ⟨n + 1 + 1, 0, none⟩ = some (.string attr) := (HB.out.cell (World.block_lt_of_cell? w _ Ha.out)).trans Ha.out; have hr_w15 : w15.cell? ⟨n + 1 + 1 + 1, 0, none⟩ = some (.int .i64 right) := (HB.out.cell (World.block_lt_of_cell? w _ Hr.out)).trans Hr.out) | (go_at_call 102; (with_reducible refine (slices_Contains_string_string.calls k _ _ l2 attr r _ ?side1 HC2.out A8.out).mono ?_); (case side1 => exact KCz (Kd.C_below HR2.out HB.out)); rintro e w16 ⟨rfl, ⟨nd, rfl⟩⟩))
   go_ret
   exact ⟨by first | rfl | (simp [*]; done), HBa⟩
 rw [if_neg ca] at h
 have cab0 : (a0.toList == ([42] : List UInt8)) = false := beq_eq_false_iff_ne.mpr ca
 have cab1 : (a0.toList != ([42] : List UInt8)) = true := bne_iff_ne.mpr ca
 by_cases cb : a0.toList = who.toList
 rotate_left
 ·rw [if_neg cb] at h
  obtain rfl := Option.some.inj h
  clear h
  have cbb0 : (a0.toList == who.toList) = false := beq_eq_false_iff_ne.mpr cb
  have cbb1 : (a0.toList != who.toList) = true := bne_iff_ne.mpr cb
  go_enter Tryz.func100, Tryz.ntmps100
  go_wp2_with (first | ((with_reducible refine gate_dst (N := 5) rfl ?_); (try (refine gate_guard (by rfl) ?_; dsimp only)); refine box_event ?hg (N := 5) ?hd (cs := #[.string a0, .slice A1 l1.length c1, .slice A2 l2.length c2, .int .i64 a3, .bool a4]) (t := 53) ?hr ?_; (case hd => rfl); (case hg => rfl); (case hr => first | (go_simp; done) | (go_simp; rfl)); intro gb hg w9 hbox hb; have n0_ := Aside0.mk (below_step HB.out hb); have n1_ := Aside0.mk hbox; clear HB; have HB := n0_; have BK := n1_; clear n0_ n1_; clear hb hbox hg; have hcz0 := C1z BK; have hfz0 := blk_frozen BK.out 0; have hcz1 := C2z BK; have hfz1 := blk_frozen BK.out 1; have hcz2 := C3z BK; have hfz2 := blk_frozen BK.out 2; have hcz3 := C4z BK; have hfz3 := blk_frozen BK.out 3; have hcz4 := C5z BK; have hfz4 := blk_frozen BK.out 4; have hw_w9 : w9.cell? ⟨n, 0, none⟩ = some (.string who) := (HB.out.cell (World.block_lt_of_cell? w _ Hw.out)).trans Hw.out; have hd_w9 : w9.cell? ⟨n + 1, 0, none⟩ = some (.slice Ad ld.length cd) := (HB.out.cell (World.block_lt_of_cell? w _ Hd.out)).trans Hd.out; have ha_w9 : w9.cell? ⟨n + 1 + 1, 0, none⟩ = some (.string attr) := (HB.out.cell (World.block_lt_of_cell? w _ Ha.out)).trans Ha.out; have hr_w9 : w9.cell? ⟨n + 1 + 1 + 1, 0, none⟩ = some (.int .i64 right) := (HB.out.cell (World.block_lt_of_cell? w _ Hr.out)).trans Hr.out))
  go_ret
  exact ⟨by first | rfl | (simp [*]; done), HBa⟩
 rw [if_pos cb] at h
 have cbb0 : (a0.toList == who.toList) = true := beq_iff_eq.mpr cb
 have cbb1 : (a0.toList != who.toList) = false := bne_eq_false_iff_eq.mpr cb
 clear cb
 unfold impl_allowed.clo2 at h
 obtain ⟨t, A60, h⟩ := Option.bind_eq_some_iff.1 h
 have A6 := Aside0.mk A60
 clear A60
 cases t with
 | false =>
  rw [if_neg (by decide)] at h
  obtain rfl := Option.some.inj h
  clear h
  go_enter Tryz.func100, Tryz.ntmps100
  go_wp2_with (first | ((with_reducible refine gate_dst (N := 5) rfl ?_); (try (refine gate_guard (by rfl) ?_; dsimp only)); refine box_event ?hg (N := 5) ?hd (cs := #[.string a0, .slice A1 l1.length c1, .slice A2 l2.length c2, .int .i64 a3, .bool a4]) (t := 53) ?hr ?_; (case hd => rfl); (case hg => rfl); (case hr => first | (go_simp; done) | (go_simp; rfl)); intro gb hg w9 hbox hb; have n0_ := Aside0.mk (below_step HB.out hb); have n1_ := Aside0.mk hbox; clear HB; have HB := n0_; have BK := n1_; clear n0_ n1_; clear hb hbox hg; have hcz0 := C1z BK; have hfz0 := blk_frozen BK.out 0; have hcz1 := C2z BK; have hfz1 := blk_frozen BK.out 1; have hcz2 := C3z BK; have hfz2 := blk_frozen BK.out 2; have hcz3 := C4z BK; have hfz3 := blk_frozen BK.out 3; have hcz4 := C5z BK; have hfz4 := blk_frozen BK.out 4; have hw_w9 : w9.cell? ⟨n, 0, none⟩ = some (.string who) := (HB.out.cell (World.block_lt_of_cell? w _ Hw.out)).trans Hw.out; have hd_w9 : w9.cell? ⟨n + 1, 0, none⟩ = some (.slice Ad ld.length cd) := (HB.out.cell (World.block_lt_of_cell? w _ Hd.out)).trans Hd.out; have ha_w9 : w9.cell? ⟨n + 1 + 1, 0, none⟩ = some (.string attr) := (HB.out.cell (World.block_lt_of_cell? w _ Ha.out)).trans Ha.out; have hr_w9 : w9.cell? ⟨n + 1 + 1 + 1, 0, none⟩ = some (.int .i64 right) := (HB.out.cell (World.block_lt_of_cell? w _ Hr.out)).trans Hr.out) | (go_at_call 101; (with_reducible refine (impl_dnUnder.calls k _ _ ld _ _ l1 false _ ?side1 HCD.out ?side3 HC1.out A6.out).mono ?_); (case side1 => exact KCz (Kd.C_below HRD.out HB.out)); (case side3 => exact KCz (Kd.C_below HR1.out HB.out)); rintro e w15 ⟨rfl, hb⟩; have n0_ := Aside0.mk (blk_below (g := gb) (o := .cells #[.string a0, .slice A1 l1.length c1, .slice A2 l2.length c2, .int .i64 a3, .bool a4] 53 (0, 0)) BK.out hb); have n1_ := Aside0.mk (below_step HB.out hb); clear BK; clear HB; have BK := n0_; have HB := n1_; clear n0_ n1_; clear hb; have hcy0 := C1z BK; have hfy0 := blk_frozen BK.out 0; have hcy1 := C2z BK; have hfy1 := blk_frozen BK.out 1; have hcy2 := C3z BK; have hfy2 := blk_frozen BK.out 2; have hcy3 := C4z BK; have hfy3 := blk_frozen BK.out 3; have hcy4 := C5z BK; have hfy4 := blk_frozen BK.out 4; have hw_w15 : w15.cell? ⟨n, 0, none⟩ = some (.string who) := (HB.out.cell (World.block_lt_of_cell? w _ Hw.out)).trans Hw.out; have hd_w15 : w15.cell? ⟨n + 1, 0, none⟩ = some (.slice Ad ld.length cd) := (HB.out.cell (World.block_lt_of_cell? w _ Hd.out)).trans Hd.out; have ha_w15 : w15.cell? ⟨n + 1 + 1, 0, none⟩ = some (.string attr) := (HB.out.cell (World.block_lt_of_cell? w _ Ha.out)).trans Ha.out; have hr_w15 : w15.cell? ⟨n + 1 + 1 + 1, 0, none⟩ = some (.int .i64 right) := (HB.out.cell (World.block_lt_of_cell? w _ Hr.out)).trans Hr.out))
  go_ret
  exact ⟨by first | rfl | (simp [*]; done), HBa⟩
 | true =>
  rw [if_pos rfl] at h
  by_cases cr : a3 = right
  rotate_left
  ·rw [if_neg cr] at h
   obtain rfl := Option.some.inj h
   clear h
   have crb0 : (a3 == right) = false := beq_eq_false_iff_ne.mpr cr
   have crb1 : (a3 != right) = true := bne_iff_ne.mpr cr
   go_enter Tryz.func100, Tryz.ntmps100
   go_wp2_with (first | ((with_reducible refine gate_dst (N := 5) rfl ?_); (try (refine gate_guard (by rfl) ?_; dsimp only)); refine box_event ?hg (N := 5) ?hd (cs := #[.string a0, .slice A1 l1.length c1, .slice A2 l2.length c2, .int .i64 a3, .bool a4]) (t := 53) ?hr ?_; (case hd => rfl); (case hg => rfl); (case hr => first | (go_simp; done) | (go_simp; rfl)); intro gb hg w9 hbox hb; have n0_ := Aside0.mk (below_step HB.out hb); have n1_ := Aside0.mk hbox; clear HB; have HB := n0_; have BK := n1_; clear n0_ n1_; clear hb hbox hg; have hcz0 := C1z BK; have hfz0 := blk_frozen BK.out 0; have hcz1 := C2z BK; have hfz1 := blk_frozen BK.out 1; have hcz2 := C3z BK; have hfz2 := blk_frozen BK.out 2; have hcz3 := C4z BK; have hfz3 := blk_frozen BK.out 3; have hcz4 := C5z BK; have hfz4 := blk_frozen BK.out 4; have hw_w9 : w9.cell? ⟨n, 0, none⟩ = some (.string who) := (HB.out.cell (World.block_lt_of_cell? w _ Hw.out)).trans Hw.out; have hd_w9 : w9.cell? ⟨n + 1, 0, none⟩ = some (.slice Ad ld.length cd) := (HB.out.cell (World.block_lt_of_cell? w _ Hd.out)).trans Hd.out; have ha_w9 : w9.cell? ⟨n + 1 + 1, 0, none⟩ = some (.string attr) := (HB.out.cell (World.block_lt_of_cell? w _ Ha.out)).trans Ha.out; have hr_w9 : w9.cell? ⟨n + 1 + 1 + 1, 0, none⟩ = some (.int .i64 right) := (HB.out.cell (World.block_lt_of_cell? w _ Hr.out)).trans Hr.out) | (go_at_call 101; (with_reducible refine (impl_dnUnder.calls k _ _ ld _ _ l1 true _ ?side1 HCD.out ?side3 HC1.out A6.out).mono ?_); (case side1 => exact KCz (Kd.C_below HRD.out HB.out)); (case side3 => exact KCz (Kd.C_below HR1.out HB.out)); rintro e w15 ⟨rfl, hb⟩; have n0_ := Aside0.mk (blk_below (g := gb) (o := .cells #[.string a0, .slice A1 l1.length c1, .slice A2 l2.length c2, .int .i64 a3, .bool a4] 53 (0, 0)) BK.out hb); have n1_ := Aside0.mk (below_step HB.out hb); clear BK; clear HB; have BK := n0_; have HB := n1_; clear n0_ n1_; clear hb; have hcy0 := C1z BK; have hfy0 := blk_frozen BK.out 0; have hcy1 := C2z BK; have hfy1 := blk_frozen BK.out 1; have hcy2 := C3z BK; have hfy2 := blk_frozen BK.out 2; have hcy3 := C4z BK; have hfy3 := blk_frozen BK.out 3; have hcy4 := C5z BK; have hfy4 := blk_frozen BK.out 4; have hw_w15 : w15.cell? ⟨n, 0, none⟩ = some (.string who) := (HB.out.cell (World.block_lt_of_cell? w _ Hw.out)).trans Hw.out; have hd_w15 : w15.cell? ⟨n + 1, 0, none⟩ = some (.slice Ad ld.length cd) := (HB.out.cell (World.block_lt_of_cell? w _ Hd.out)).trans Hd.out; have ha_w15 : w15.cell? ⟨n + 1 + 1, 0, none⟩ = some (.string attr) := (HB.out.cell (World.block_lt_of_cell? w _ Ha.out)).trans Ha.out; have hr_w15 : w15.cell? ⟨n + 1 + 1 + 1, 0, none⟩ = some (.int .i64 right) := (HB.out.cell (World.block_lt_of_cell? w _ Hr.out)).trans Hr.out))
   go_ret
   exact ⟨by first | rfl | (simp [*]; done), HBa⟩
  rw [if_pos cr] at h
  have crb0 : (a3 == right) = true := beq_iff_eq.mpr cr
  have crb1 : (a3 != right) = false := bne_eq_false_iff_eq.mpr cr
  clear cr
  by_cases cl : (l2.length : Int) = 0
  ·rw [if_pos cl] at h
   obtain rfl := Option.some.inj h
   clear h
   have clb0 : ((l2.length : Int) == 0) = true := beq_iff_eq.mpr cl
   have clb1 : ((l2.length : Int) != 0) = false := bne_eq_false_iff_eq.mpr cl
   clear cl
   go_enter Tryz.func100, Tryz.ntmps100
   go_wp2_with (first | ((with_reducible refine gate_dst (N := 5) rfl ?_); (try (refine gate_guard (by rfl) ?_; dsimp only)); refine box_event ?hg (N := 5) ?hd (cs := #[.string a0, .slice A1 l1.length c1, .slice A2 l2.length c2, .int .i64 a3, .bool a4]) (t := 53) ?hr ?_; (case hd => rfl); (case hg => rfl); (case hr => first | (go_simp; done) | (go_simp; rfl)); intro gb hg w9 hbox hb; have n0_ := Aside0.mk (below_step HB.out hb); have n1_ := Aside0.mk hbox; clear HB; have HB := n0_; have BK := n1_; clear n0_ n1_; clear hb hbox hg; have hcz0 := C1z BK; have hfz0 := blk_frozen BK.out 0; have hcz1 := C2z BK; have hfz1 := blk_frozen BK.out 1; have hcz2 := C3z BK; have hfz2 := blk_frozen BK.out 2; have hcz3 := C4z BK; have hfz3 := blk_frozen BK.out 3; have hcz4 := C5z BK; have hfz4 := blk_frozen BK.out 4; have hw_w9 : w9.cell? ⟨n, 0, none⟩ = some (.string who) := (HB.out.cell (World.block_lt_of_cell? w _ Hw.out)).trans Hw.out; have hd_w9 : w9.cell? ⟨n + 1, 0, none⟩ = some (.slice Ad ld.length cd) := (HB.out.cell (World.block_lt_of_cell? w _ Hd.out)).trans Hd.out; have ha_w9 : w9.cell? ⟨n + 1 + 1, 0, none⟩ = some (.string attr) := (HB.out.cell (World.block_lt_of_cell? w _ Ha.out)).trans Ha.out; have hr_w9 : w9.cell? ⟨n + 1 + 1 + 1, 0, none⟩ = some (.int .i64 right) := (HB.out.cell (World.block_lt_of_cell? w _ Hr.out)).trans Hr.out) | (go_at_call 101; (with_reducible refine (impl_dnUnder.calls k _ _ ld _ _ l1 true _ ?side1 HCD.out ?side3 HC1.out A6.out).mono ?_); (case side1 => exact KCz (Kd.C_below HRD.out HB.out)); (case side3 => exact KCz (Kd.C_below HR1.out HB.out)); rintro e w15 ⟨rfl, hb⟩; have n0_ := Aside0.mk (blk_below (g := gb) (o := .cells #[.string a0, .slice A1 l1.length c1, .slice A2 l2.length c2, .int .i64 a3, .bool a4] 53 (0, 0)) BK.out hb); have n1_ := Aside0.mk (below_step HB.out hb); clear BK; clear HB; have BK := n0_; have HB := n1_; clear n0_ n1_; clear hb; have hcy0 := C1z BK; have hfy0 := blk_frozen BK.out 0; have hcy1 := C2z BK; have hfy1 := blk_frozen BK.out 1; have hcy2 := C3z BK; have hfy2 := blk_frozen BK.out 2; have hcy3 := C4z BK; have hfy3 := blk_frozen BK.out 3; have hcy4 := C5z BK; have hfy4 := blk_frozen BK.out 4; have hw_w15 : w15.cell? ⟨n, 0, none⟩ = some (.string who) := (HB.out.cell (World.block_lt_of_cell? w _ Hw.out)).trans Hw.out; have hd_w15 : w15.cell? ⟨n + 1, 0, none⟩ = some (.slice Ad ld.length cd) := (HB.out.cell (World.block_lt_of_cell? w _ Hd.out)).trans Hd.out; have ha_w15 : w15.cell? ⟨n + 1 + 1, 0, none⟩ = some (.string attr) := (HB.out.cell (World.block_lt_of_cell? w _ Ha.out)).trans Ha.out; have hr_w15 : w15.cell? ⟨n + 1 + 1 + 1, 0, none⟩ = some (.int .i64 right) := (HB.out.cell (World.block_lt_of_cell? w _ Hr.out)).trans Hr.out))
   go_ret
   exact ⟨by first | rfl | (simp [*]; done), HBa⟩
  rw [if_neg cl] at h
  have A8 := Aside0.mk h
  clear h
  have clb0 : ((l2.length : Int) == 0) = false := beq_eq_false_iff_ne.mpr cl
  have clb1 : ((l2.length : Int) != 0) = true := bne_iff_ne.mpr cl
  have clb2 : ¬ (l2 = []) := fun h_ => cl (by rw [h_]; rfl)
  clear cl
  go_enter Tryz.func100, Tryz.ntmps100
  go_wp2_with (first | ((with_reducible refine gate_dst (N := 5) rfl ?_); (try (refine gate_guard (by rfl) ?_; dsimp only)); refine box_event ?hg (N := 5) ?hd (cs := #[.string a0, .slice A1 l1.length c1, .slice A2 l2.length c2, .int .i64 a3, .bool a4]) (t := 53) ?hr ?_; (case hd => rfl); (case hg => rfl); (case hr => first | (go_simp; done) | (go_simp; rfl)); intro gb hg w9 hbox hb; have n0_ := Aside0.mk (below_step HB.out hb); have n1_ := Aside0.mk hbox; clear HB; have HB := n0_; have BK := n1_; clear n0_ n1_; clear hb hbox hg; have hcz0 := C1z BK; have hfz0 := blk_frozen BK.out 0; have hcz1 := C2z BK; have hfz1 := blk_frozen BK.out 1; have hcz2 := C3z BK; have hfz2 := blk_frozen BK.out 2; have hcz3 := C4z BK; have hfz3 := blk_frozen BK.out 3; have hcz4 := C5z BK; have hfz4 := blk_frozen BK.out 4; have hw_w9 : w9.cell? ⟨n, 0, none⟩ = some (.string who) := (HB.out.cell (World.block_lt_of_cell? w _ Hw.out)).trans Hw.out; have hd_w9 : w9.cell? ⟨n + 1, 0, none⟩ = some (.slice Ad ld.length cd) := (HB.out.cell (World.block_lt_of_cell? w _ Hd.out)).trans Hd.out; have ha_w9 : w9.cell? ⟨n + 1 + 1, 0, none⟩ = some (.string attr) := (HB.out.cell (World.block_lt_of_cell? w _ Ha.out)).trans Ha.out; have hr_w9 : w9.cell? ⟨n + 1 + 1 + 1, 0, none⟩ = some (.int .i64 right) := (HB.out.cell (World.block_lt_of_cell? w _ Hr.out)).trans Hr.out) | (go_at_call 101; (with_reducible refine (impl_dnUnder.calls k _ _ ld _ _ l1 true _ ?side1 HCD.out ?side3 HC1.out A6.out).mono ?_); (case side1 => exact KCz (Kd.C_below HRD.out HB.out)); (case side3 => exact KCz (Kd.C_below HR1.out HB.out)); rintro e w15 ⟨rfl, hb⟩; have n0_ := Aside0.mk (blk_below (g := gb) (o := .cells #[.string a0, .slice A1 l1.length c1, .slice A2 l2.length c2, .int .i64 a3, .bool a4] 53 (0, 0)) BK.out hb); have n1_ := Aside0.mk (below_step HB.out hb); clear BK; clear HB; have BK := n0_; have HB := n1_; clear n0_ n1_; clear hb; have hcy0 := C1z BK; have hfy0 := blk_frozen BK.out 0; have hcy1 := C2z BK; have hfy1 := blk_frozen BK.out 1; have hcy2 := C3z BK; have hfy2 := blk_frozen BK.out 2; have hcy3 := C4z BK; have hfy3 := blk_frozen BK.out 3; have hcy4 := C5z BK; have hfy4 := blk_frozen BK.out 4; have hw_w15 : w15.cell? ⟨n, 0, none⟩ = some (.string who) := (HB.out.cell (World.block_lt_of_cell? w _ Hw.out)).trans Hw.out; have hd_w15 : w15.cell? ⟨n + 1, 0, none⟩ = some (.slice Ad ld.length cd) := (HB.out.cell (World.block_lt_of_cell? w _ Hd.out)).trans Hd.out; have ha_w15 : w15.cell? ⟨n + 1 + 1, 0, none⟩ = some (.string attr) := (HB.out.cell (World.block_lt_of_cell? w _ Ha.out)).trans Ha.out; have hr_w15 : w15.cell? ⟨n + 1 + 1 + 1, 0, none⟩ = some (.int .i64 right) := (HB.out.cell (World.block_lt_of_cell? w _ Hr.out)).trans Hr.out) | (go_at_call 102; (with_reducible refine (slices_Contains_string_string.calls k _ _ l2 attr r _ ?side1 HC2.out A8.out).mono ?_); (case side1 => exact KCz (Kd.C_below HR2.out HB.out)); rintro e w16 ⟨rfl, ⟨nd, rfl⟩⟩))
  go_ret
  exact ⟨by first | rfl | (simp [*]; done), HBa⟩
set_option maxHeartbeats 8000000 in
set_option maxRecDepth 100000 in
theorem impl_allowed.index (k n : Nat) (who attr : ByteArray) (right : Int) (Ad : Option Addr) (cd : Nat) (ld : List (S98)) (A0 : Option Addr) (c0 : Nat) (l0 : List (S53)) (r : Int) (w : World) (hw : w.cell? ⟨n, 0, none⟩ = some (.string who)) (hd : w.cell? ⟨n + 1, 0, none⟩ = some (.slice Ad ld.length cd)) (ha : w.cell? ⟨n + 1 + 1, 0, none⟩ = some (.string attr)) (hr : w.cell? ⟨n + 1 + 1 + 1, 0, none⟩ = some (.int .i64 right)) (hrd : Kd.C k98 w Ad ld.length ld) (hcd : ld.length ≤ cd) (hr0 : Kd.C k53 w A0 l0.length l0) (h : impl_allowed.ix k who attr right ld l0 0 = some r) :
  Calls Tryz.prog 99 #[.slice A0 l0.length c0, .func (.func 100) #[] #[.pointer (some ⟨n, 0, none⟩), .pointer (some ⟨n + 1, 0, none⟩), .pointer (some ⟨n + 1 + 1 + 1, 0, none⟩), .pointer (some ⟨n + 1 + 1, 0, none⟩)]] w fun e w' => e = .returned (.int .i64 r) ∧ Below w.heap.size w w' := by
 have hu := Tryz.underlying53
 have HR0 := Aside0.mk hr0
 have Hw := Aside0.mk hw
 have Hd := Aside0.mk hd
 have Ha := Aside0.mk ha
 have Hr := Aside0.mk hr
 have HRD := Aside0.mk hrd
 have HCD := Aside0.mk hcd
 clear hr0 hw hd ha hr hrd hcd
 have HB := Aside0.mk (Below.refl w.heap.size w)
 have H' := Aside0.mk h
 clear h
 go_enter Tryz.func99, Tryz.ntmps99
 go_wp2
 go_loopg [5, 8] l0.length (fun kq _ v8 w' => ∃ j : Nat, v8 = .int .i64 (j : Int) ∧ Aside0 (impl_allowed.ix k who attr right ld (l0.drop j) (j : Int) = some r) ∧ Aside0 (l0.length - j ≤ kq) ∧ Aside0 (Below w.heap.size w w'))
 case atStart => exact ⟨0, rfl, H', ⟨by omega⟩, HB⟩
 case round =>
  clear H'
  obtain ⟨j, rfl, HA, HK, HB⟩ := hrel
  by_cases c1 : (j : Int) < (l0.length : Int)
  rotate_left
  ·have c1b0 : decide ((j : Int) < (l0.length : Int)) = false := decide_eq_false c1
   have c1b1 : decide (j < l0.length) = false := decide_eq_false (by omega)
   have H := HA.out
   rw [List.drop_of_length_le (by omega)] at H
   simp only [impl_allowed.ix] at H
   obtain rfl := Option.some.inj H
   clear c1
   go_wp2
   go_ret
   exact ⟨rfl, HB.out⟩
  have c1b0 : decide ((j : Int) < (l0.length : Int)) = true := decide_eq_true c1
  have c1b1 : decide (j < l0.length) = true := decide_eq_true (by omega)
  have H := HA.out
  clear HA
  have hj : j < l0.length := by omega
  have p1 : 0 ≤ (j : Int) := by omega
  obtain ⟨ad1, B1, b1, B2, b2, e1, hx1_0, hx1_1, hx1_2, hx1_3, hx1_4, m1, g1, m2, g2⟩ := at_T53 HR0.out (j : Int) p1 c1
  cases e1
  replace hx1_0 := HXz HB hx1_0
  replace hx1_1 := HXz HB hx1_1
  replace hx1_2 := HXz HB hx1_2
  replace hx1_3 := HXz HB hx1_3
  replace hx1_4 := HXz HB hx1_4
  simp only [Int.toNat_natCast] at hx1_0 hx1_1 hx1_2 hx1_3 hx1_4
  have G1 := Aside0.mk g1
  have G2 := Aside0.mk g2
  have L1 := Aside0.mk m1
  have L2 := Aside0.mk m2
  clear g1 g2 m1 m2
  have hel : l0.drop j = rd_T53 l0 (j : Int) :: l0.drop (j + 1) := by
   rw [List.drop_eq_getElem_cons hj]
   congr 1
   unfold rd_T53
   rw [List.getD_eq_getElem?_getD, show (j : Int).toNat = j from rfl, List.getElem?_eq_getElem hj]; rfl
  rw [hel] at H
  simp only [impl_allowed.ix] at H
  obtain ⟨b, Ab0, H⟩ := Option.bind_eq_some_iff.1 H
  have Ab := Aside0.mk Ab0
  clear Ab0 hel
  have c1i := eq_true c1
  cases b with
  | false =>
   simp only [Bool.false_eq_true, if_false] at H
   have HN := Aside0.mk H
   clear H
   have HJ := Aside0.mk hj
   clear hj c1
   go_wp2_with (go_at_call 100; refine (impl_allowed.clo_calls k n who attr right Ad cd ld _ _ _ _ _ _ _ _ _ false _ ?sw ?sd ?sa ?sr ?s0 HCD.out ?s1 L1.out ?s2 L2.out Ab.out).mono ?_; (case sw => exact (HB.out.cell (World.block_lt_of_cell? w _ Hw.out)).trans Hw.out); (case sd => exact (HB.out.cell (World.block_lt_of_cell? w _ Hd.out)).trans Hd.out); (case sa => exact (HB.out.cell (World.block_lt_of_cell? w _ Ha.out)).trans Ha.out); (case sr => exact (HB.out.cell (World.block_lt_of_cell? w _ Hr.out)).trans Hr.out); (case s0 => exact KCz (Kd.C_below HRD.out HB.out)); (case s1 => exact KCz (Kd.C_below G1.out HB.out)); (case s2 => exact KCz (Kd.C_below G2.out HB.out)); rintro e w5 ⟨rfl, hb⟩; have n0_ := Aside0.mk (below_step HB.out hb); clear HB; have HB := n0_; clear n0_ hb)
   go_roundg (l0.length - (j + 1))
   case measure => have := HK.out; have := HJ.out; omega
   case rel => exact ⟨j + 1, by have hb := HR0.out.2.1; have := HJ.out; first | rfl | go_num | (congr 1; unfold wrap64; omega), by have h2 := HN.out; rw [show (j : Int) + 1 = ((j + 1 : Nat) : Int) by omega] at h2; exact ⟨h2⟩, ⟨Nat.le_refl _⟩, HB⟩
  | true =>
   simp only [if_true] at H
   obtain rfl := Option.some.inj H
   clear hj c1
   go_wp2_with (go_at_call 100; refine (impl_allowed.clo_calls k n who attr right Ad cd ld _ _ _ _ _ _ _ _ _ true _ ?sw ?sd ?sa ?sr ?s0 HCD.out ?s1 L1.out ?s2 L2.out Ab.out).mono ?_; (case sw => exact (HB.out.cell (World.block_lt_of_cell? w _ Hw.out)).trans Hw.out); (case sd => exact (HB.out.cell (World.block_lt_of_cell? w _ Hd.out)).trans Hd.out); (case sa => exact (HB.out.cell (World.block_lt_of_cell? w _ Ha.out)).trans Ha.out); (case sr => exact (HB.out.cell (World.block_lt_of_cell? w _ Hr.out)).trans Hr.out); (case s0 => exact KCz (Kd.C_below HRD.out HB.out)); (case s1 => exact KCz (Kd.C_below G1.out HB.out)); (case s2 => exact KCz (Kd.C_below G2.out HB.out)); rintro e w5 ⟨rfl, hb⟩; have n0_ := Aside0.mk (below_step HB.out hb); clear HB; have HB := n0_; clear n0_ hb)
   go_ret
   exact ⟨rfl, HB.out⟩
set_option maxHeartbeats 8000000 in
set_option maxRecDepth 100000 in
theorem impl_allowed.calls (k : Nat) (A0 : Option Addr) (c0 : Nat) (l0 : List (S53)) (a1 : ByteArray) (A2 : Option Addr) (c2 : Nat) (l2 : List (S98)) (a3 : ByteArray) (a4 : Int) (r : Bool) (w : World) (hr0 : Kd.C k53 w A0 l0.length l0) (hc0 : l0.length ≤ c0) (hr2 : Kd.C k98 w A2 l2.length l2) (hc2 : l2.length ≤ c2) (h : impl_allowed.f k l0 a1 l2 a3 a4 = some r) :
  Calls Tryz.prog 57 #[.slice A0 l0.length c0, .string a1, .slice A2 l2.length c2, .string a3, .int .i64 a4] w fun e w' => e = .returned (.bool r) ∧ Below w.heap.size w w' := by
 have hu := Tryz.underlying53
 unfold impl_allowed.f at h
 obtain ⟨t, At, h⟩ := Option.bind_eq_some_iff.1 h
 have hlt := impl_allowed.ix_lt k a1 a3 a4 l2 l0 0 t (by omega) At
 have HR0 := Aside0.mk hr0
 have HR2 := Aside0.mk hr2
 have HC2 := Aside0.mk hc2
 have AT := Aside0.mk At
 clear hr0 hc0 hr2 hc2 At
 have HB := Aside0.mk (Below.refl w.heap.size w)
 by_cases ct : 0 ≤ t
 rotate_left
 ·rw [if_neg ct] at h
  obtain rfl := Option.some.inj h
  have ctb0 : decide (0 ≤ t) = false := decide_eq_false ct
  clear h hlt ct
  go_enter Tryz.func57, Tryz.ntmps57
  go_wp2_with (go_at_call 99; refine (impl_allowed.index k w.heap.size a1 a3 a4 A2 c2 l2 _ _ l0 t _ ?sw ?sd ?sa ?sr ?s0 HC2.out ?s1 AT.out).mono ?_; (case sw => exact ((((Boxed.new w 9 (.string a1)).alloc _).alloc _).alloc _).cell); (case sd => have h_ := (((Boxed.new (w.alloc (.cells #[.string a1] 9)) 34 (.slice A2 l2.length c2)).alloc (.cells #[.string a3] 9)).alloc (.cells #[.int .i64 a4] 2)).cell; simpa only [World.size_alloc] using h_); (case sa => have h_ := ((Boxed.new ((w.alloc (.cells #[.string a1] 9)).alloc (.cells #[.slice A2 l2.length c2] 34)) 9 (.string a3)).alloc (.cells #[.int .i64 a4] 2)).cell; simpa only [World.size_alloc] using h_); (case sr => have h_ := (Boxed.new (((w.alloc (.cells #[.string a1] 9)).alloc (.cells #[.slice A2 l2.length c2] 34)).alloc (.cells #[.string a3] 9)) 2 (.int .i64 a4)).cell; simpa only [World.size_alloc] using h_); (case s0 => repeat (first | exact HR2.out | (with_reducible refine Kd.C_alloc ?_ _))); (case s1 => repeat (first | exact HR0.out | (with_reducible refine Kd.C_alloc ?_ _))); rintro e w5 ⟨rfl, hb⟩; have n0_ := Aside0.mk (below_step HBa hb); clear HB; have HB := n0_; clear n0_ hb)
  go_ret
  exact ⟨by first | rfl | (simp [*]; done), HB.out⟩
 rw [if_pos ct] at h
 obtain rfl := Option.some.inj h
 have cti : t < (l0.length : Int) := by omega
 have ctb0 : decide (0 ≤ t) = true := decide_eq_true ct
 have cte := eq_true ct
 have ctib0 : decide (t < (l0.length : Int)) = true := decide_eq_true cti
 have ctie := eq_true cti
 obtain ⟨ad1, B1, b1, B2, b2, e1, hx1_0, hx1_1, hx1_2, hx1_3, hx1_4, m1, g1, m2, g2⟩ := at_T53 HR0.out t ct cti
 cases e1
 have Hx := Aside0.mk hx1_4
 clear hx1_0 hx1_1 hx1_2 hx1_3 hx1_4 m1 g1 m2 g2 h hlt ct cti
 go_enter Tryz.func57, Tryz.ntmps57
 go_wp2_with (go_at_call 99; refine (impl_allowed.index k w.heap.size a1 a3 a4 A2 c2 l2 _ _ l0 t _ ?sw ?sd ?sa ?sr ?s0 HC2.out ?s1 AT.out).mono ?_; (case sw => exact ((((Boxed.new w 9 (.string a1)).alloc _).alloc _).alloc _).cell); (case sd => have h_ := (((Boxed.new (w.alloc (.cells #[.string a1] 9)) 34 (.slice A2 l2.length c2)).alloc (.cells #[.string a3] 9)).alloc (.cells #[.int .i64 a4] 2)).cell; simpa only [World.size_alloc] using h_); (case sa => have h_ := ((Boxed.new ((w.alloc (.cells #[.string a1] 9)).alloc (.cells #[.slice A2 l2.length c2] 34)) 9 (.string a3)).alloc (.cells #[.int .i64 a4] 2)).cell; simpa only [World.size_alloc] using h_); (case sr => have h_ := (Boxed.new (((w.alloc (.cells #[.string a1] 9)).alloc (.cells #[.slice A2 l2.length c2] 34)).alloc (.cells #[.string a3] 9)) 2 (.int .i64 a4)).cell; simpa only [World.size_alloc] using h_); (case s0 => repeat (first | exact HR2.out | (with_reducible refine Kd.C_alloc ?_ _))); (case s1 => repeat (first | exact HR0.out | (with_reducible refine Kd.C_alloc ?_ _))); rintro e w5 ⟨rfl, hb⟩; have n0_ := Aside0.mk (below_step HBa hb); clear HB; have HB := n0_; clear n0_ hb; have hy4 := (HB.out.cell (World.block_lt_of_cell? w _ Hx.out)).trans Hx.out)
 go_ret
 exact ⟨by first | rfl | (simp [*]; done), HB.out⟩
def impl_MayChange.ix1 : List ByteArray → Int → Option Int
 | [], _ => some (-1)
 | x :: xs, i => (impl_MayChange_1.f x).bind fun b => if b = true then some i else impl_MayChange.ix1 xs (i + 1)
def impl_MayChange.clo2 (k : Nat) (l : List (S53)) (who : ByteArray) (dn : List (S98)) (t : ByteArray) : Option Bool := (impl_allowed.f k l who dn t 2).bind fun b => some (!b)
def impl_MayChange.ix2 (k : Nat) (l : List (S53)) (who : ByteArray) (dn : List (S98)) : List ByteArray → Int → Option Int
 | [], _ => some (-1)
 | x :: xs, i => (impl_MayChange.clo2 k l who dn x).bind fun b => if b = true then some i else impl_MayChange.ix2 k l who dn xs (i + 1)
def impl_MayChange.f (k : Nat) (l0 : List (S53)) (a1 : ByteArray) (l2_0 : List (S98)) (l2_1 : List (S127)) (l3 : List ByteArray) : Option (Bool) :=
 (impl_isMany_string.f l3).bind fun t0 => if t0 = true then some false else (impl_AclRight.f k l0).bind fun t1 => if t1 = true then ((impl_EntryRight.f k l2_0 l2_1).bind fun t2 => if t2 = true then ((impl_NameRight.f a1).bind fun t3 => if t3 = true then ((impl_MayChange.ix1 l3 0).bind fun t4 => if 0 ≤ t4 then some false else (impl_MayChange.ix2 k l0 a1 l2_0 l3 0).bind fun t5 => some (!(decide (0 ≤ t5)))) else some false) else some false) else some false
theorem impl_MayChange.mono_ix2 (k : Nat) (l : List (S53)) (who : ByteArray) (dn : List (S98)) : ∀ (xs : List ByteArray) (i : Int), LeO (impl_MayChange.ix2 k l who dn xs i) (impl_MayChange.ix2 (k + 1) l who dn xs i)
 | [], _ => LeO.refl _
 | x :: xs, i => LeO.bind (LeO.bind (impl_allowed.mono _ _ _ _ _ _) (fun _ => LeO.refl _)) (fun b => LeO.ite (LeO.refl _) (impl_MayChange.mono_ix2 k l who dn xs (i + 1)))
theorem impl_MayChange.mono : ∀ a0 a1 a2_0 a2_1 a3 k, LeO (impl_MayChange.f k a0 a1 a2_0 a2_1 a3) (impl_MayChange.f (k + 1) a0 a1 a2_0 a2_1 a3) := fun _ _ _ _ _ _ => LeO.bind (LeO.refl _) (fun _ => LeO.ite (LeO.refl _) (LeO.bind (impl_AclRight.mono _ _) (fun _ => LeO.ite (LeO.bind (impl_EntryRight.mono _ _ _) (fun _ => LeO.ite (LeO.bind (LeO.refl _) (fun _ => LeO.ite (LeO.bind (LeO.refl _) (fun _ => LeO.ite (LeO.refl _) (LeO.bind (impl_MayChange.mono_ix2 _ _ _ _ _ _) (fun _ => LeO.refl _)))) (LeO.refl _))) (LeO.refl _))) (LeO.refl _))))
set_option maxHeartbeats 8000000 in
set_option maxRecDepth 100000 in
theorem impl_MayChange.clo_calls (k : Nat) (nl nw ne : Nat) (Al : Option Addr) (cl : Nat) (l : List (S53)) (who : ByteArray) (Ad : Option Addr) (cd : Nat) (dn : List (S98)) (t : ByteArray) (r : Bool) (w : World) (hl : w.cell? ⟨nl, 0, none⟩ = some (.slice Al l.length cl)) (hw : w.cell? ⟨nw, 0, none⟩ = some (.string who)) (hd : w.cell? ⟨ne, 0, none⟩ = some (.slice Ad dn.length cd)) (hrl : Kd.C k53 w Al l.length l) (hcl : l.length ≤ cl) (hrd : Kd.C k98 w Ad dn.length dn) (hcd : dn.length ≤ cd) (h : impl_MayChange.clo2 k l who dn t = some r) :
  Calls Tryz.prog 56 #[.string t, .pointer (some ⟨nl, 0, none⟩), .pointer (some ⟨nw, 0, none⟩), .pointer (some ⟨ne, 0, none⟩)] w fun e w' => e = .returned (.bool r) ∧ Below w.heap.size w w' := by
 have hu := Tryz.underlying37
 have HL := Aside0.mk hl
 have HW := Aside0.mk hw
 have HD := Aside0.mk hd
 have HRL := Aside0.mk hrl
 have HCL := Aside0.mk hcl
 have HRD := Aside0.mk hrd
 have HCD := Aside0.mk hcd
 have HB := Aside0.mk (Below.refl w.heap.size w)
 unfold impl_MayChange.clo2 at h
 obtain ⟨b, A50, h⟩ := Option.bind_eq_some_iff.1 h
 obtain rfl := Option.some.inj h
 have A5 := Aside0.mk A50
 clear A50 hrl hcl hrd hcd
 go_enter Tryz.func56, Tryz.ntmps56
 go_wp2_with (go_at_call 57; (with_reducible refine (impl_allowed.calls k _ _ l who _ _ dn t 2 b _ ?s0 HCL.out ?s1 HCD.out A5.out).mono ?_); (case s0 => exact KCz (Kd.C_below HRL.out HB.out)); (case s1 => exact KCz (Kd.C_below HRD.out HB.out)); rintro e w9 ⟨rfl, hb⟩; have n9_ := Aside0.mk (below_step HB.out hb); clear HB; have HB := n9_; clear n9_; clear hb)
 go_ret
 exact ⟨by first | rfl | (simp; done) | (simp [*]; done), HBa⟩
set_option maxHeartbeats 8000000 in
set_option maxRecDepth 100000 in
theorem impl_MayChange.index1 (k : Nat)  (A0 : Option Addr) (c0 : Nat) (l0 : List ByteArray) (r : Int) (w : World)  (hr0 : Kd.C Kd.string w A0 l0.length l0) (h : impl_MayChange.ix1 l0 0 = some r) :
  Calls Tryz.prog 98 #[.slice A0 l0.length c0, .func (.func 55) #[] #[]] w fun e w' => e = .returned (.int .i64 r) ∧ Below w.heap.size w w' := by
 have HR0 := Aside0.mk hr0
 clear hr0 
 have HB := Aside0.mk (Below.refl w.heap.size w)
 have H' := Aside0.mk h
 clear h
 go_enter Tryz.func98, Tryz.ntmps98
 go_wp2
 go_loopg [8] l0.length (fun kq v8 w' => ∃ j : Nat, v8 = .int .i64 (j : Int) ∧ Aside0 (impl_MayChange.ix1 (l0.drop j) (j : Int) = some r) ∧ Aside0 (l0.length - j ≤ kq) ∧ Aside0 (Below w.heap.size w w'))
 case atStart => exact ⟨0, rfl, H', ⟨by omega⟩, HB⟩
 case round =>
  clear H'
  obtain ⟨j, rfl, HA, HK, HB⟩ := hrel
  by_cases c1 : (j : Int) < (l0.length : Int)
  rotate_left
  ·have c1b0 : decide ((j : Int) < (l0.length : Int)) = false := decide_eq_false c1
   have c1b1 : decide (j < l0.length) = false := decide_eq_false (by omega)
   have H := HA.out
   rw [List.drop_of_length_le (by omega)] at H
   simp only [impl_MayChange.ix1] at H
   obtain rfl := Option.some.inj H
   clear c1
   go_wp2
   go_ret
   exact ⟨rfl, HB.out⟩
  have c1b0 : decide ((j : Int) < (l0.length : Int)) = true := decide_eq_true c1
  have c1b1 : decide (j < l0.length) = true := decide_eq_true (by omega)
  have H := HA.out
  clear HA
  have hj : j < l0.length := by omega
  have p1 : 0 ≤ (j : Int) := by omega
  obtain ⟨ad1, e1, hx1⟩ := Kd.at_string HR0.out (j : Int) p1 c1
  cases e1
  replace hx1 := HXz HB hx1
  simp only [Int.toNat_natCast] at hx1
  have hel : l0.drop j = rdOf ByteArray.empty l0 (j : Int) :: l0.drop (j + 1) := by
   rw [List.drop_eq_getElem_cons hj]
   congr 1
   unfold rdOf
   rw [List.getD_eq_getElem?_getD, show (j : Int).toNat = j from rfl, List.getElem?_eq_getElem hj]; rfl
  rw [hel] at H
  simp only [impl_MayChange.ix1] at H
  obtain ⟨b, Ab0, H⟩ := Option.bind_eq_some_iff.1 H
  have Ab := Aside0.mk Ab0
  clear Ab0 hel
  have c1i := eq_true c1
  cases b with
  | false =>
   simp only [Bool.false_eq_true, if_false] at H
   have HN := Aside0.mk H
   clear H
   have HJ := Aside0.mk hj
   clear hj c1
   go_wp2_with (go_at_call 55; (with_reducible refine (impl_MayChange_1.calls _ false _ Ab.out).mono ?_); rintro e w5 ⟨rfl, hb⟩; first | (have n9_ := Aside0.mk (below_step HB.out hb); clear HB; have HB := n9_; clear n9_) | (obtain ⟨nd, rfl⟩ := hb; have n9_ := Aside0.mk (pw_below_drewN HB.out nd); clear HB; have HB := n9_; clear n9_); clear hb)
   go_roundg (l0.length - (j + 1))
   case measure => have := HK.out; have := HJ.out; omega
   case rel => exact ⟨j + 1, by have hb := HR0.out.2.1; have := HJ.out; first | rfl | go_num | (congr 1; unfold wrap64; omega), by have h2 := HN.out; rw [show (j : Int) + 1 = ((j + 1 : Nat) : Int) by omega] at h2; exact ⟨h2⟩, ⟨Nat.le_refl _⟩, HB⟩
  | true =>
   simp only [if_true] at H
   obtain rfl := Option.some.inj H
   clear hj c1
   go_wp2_with (go_at_call 55; (with_reducible refine (impl_MayChange_1.calls _ true _ Ab.out).mono ?_); rintro e w5 ⟨rfl, hb⟩; first | (have n9_ := Aside0.mk (below_step HB.out hb); clear HB; have HB := n9_; clear n9_) | (obtain ⟨nd, rfl⟩ := hb; have n9_ := Aside0.mk (pw_below_drewN HB.out nd); clear HB; have HB := n9_; clear n9_); clear hb)
   go_ret
   exact ⟨rfl, HB.out⟩
set_option maxHeartbeats 8000000 in
set_option maxRecDepth 100000 in
theorem impl_MayChange.index1c (k : Nat)  (A0 : Option Addr) (c0 : Nat) (l0 : List ByteArray) (r : Int) (w : World)  (hr0 : Kd.C Kd.string w A0 l0.length l0) (h : impl_MayChange.ix1 l0 0 = some r) :
  Calls Tryz.prog 54 #[.slice A0 l0.length c0, .func (.func 55) #[] #[]] w fun e w' => e = .returned (.bool (decide (0 ≤ r))) ∧ Below w.heap.size w w' := by
 have hc := impl_MayChange.index1 k  A0 c0 l0 r w  hr0 h
 clear hr0 h 
 go_enter Tryz.func54, Tryz.ntmps54
 go_wp2_with (go_at_call 98; refine hc.mono ?_; rintro e w' ⟨rfl, hb⟩)
 go_ret
 exact ⟨rfl, hb⟩
set_option maxHeartbeats 8000000 in
set_option maxRecDepth 100000 in
theorem impl_MayChange.index2 (k : Nat) (nl nw ne : Nat) (Al : Option Addr) (cl : Nat) (l : List (S53)) (who : ByteArray) (Ad : Option Addr) (cd : Nat) (dn : List (S98)) (A0 : Option Addr) (c0 : Nat) (l0 : List ByteArray) (r : Int) (w : World) (hl : w.cell? ⟨nl, 0, none⟩ = some (.slice Al l.length cl)) (hw : w.cell? ⟨nw, 0, none⟩ = some (.string who)) (hd : w.cell? ⟨ne, 0, none⟩ = some (.slice Ad dn.length cd)) (hrl : Kd.C k53 w Al l.length l) (hcl : l.length ≤ cl) (hrd : Kd.C k98 w Ad dn.length dn) (hcd : dn.length ≤ cd) (hr0 : Kd.C Kd.string w A0 l0.length l0) (h : impl_MayChange.ix2 k l who dn l0 0 = some r) :
  Calls Tryz.prog 98 #[.slice A0 l0.length c0, .func (.func 56) #[] #[.pointer (some ⟨nl, 0, none⟩), .pointer (some ⟨nw, 0, none⟩), .pointer (some ⟨ne, 0, none⟩)]] w fun e w' => e = .returned (.int .i64 r) ∧ Below w.heap.size w w' := by
 have HR0 := Aside0.mk hr0
 have HL := Aside0.mk hl
 have HW := Aside0.mk hw
 have HD := Aside0.mk hd
 have HRL := Aside0.mk hrl
 have HCL := Aside0.mk hcl
 have HRD := Aside0.mk hrd
 have HCD := Aside0.mk hcd
 clear hr0 hl hw hd hrl hcl hrd hcd
 have HB := Aside0.mk (Below.refl w.heap.size w)
 have H' := Aside0.mk h
 clear h
 go_enter Tryz.func98, Tryz.ntmps98
 go_wp2
 go_loopg [8] l0.length (fun kq v8 w' => ∃ j : Nat, v8 = .int .i64 (j : Int) ∧ Aside0 (impl_MayChange.ix2 k l who dn (l0.drop j) (j : Int) = some r) ∧ Aside0 (l0.length - j ≤ kq) ∧ Aside0 (Below w.heap.size w w'))
 case atStart => exact ⟨0, rfl, H', ⟨by omega⟩, HB⟩
 case round =>
  clear H'
  obtain ⟨j, rfl, HA, HK, HB⟩ := hrel
  by_cases c1 : (j : Int) < (l0.length : Int)
  rotate_left
  ·have c1b0 : decide ((j : Int) < (l0.length : Int)) = false := decide_eq_false c1
   have c1b1 : decide (j < l0.length) = false := decide_eq_false (by omega)
   have H := HA.out
   rw [List.drop_of_length_le (by omega)] at H
   simp only [impl_MayChange.ix2] at H
   obtain rfl := Option.some.inj H
   clear c1
   go_wp2
   go_ret
   exact ⟨rfl, HB.out⟩
  have c1b0 : decide ((j : Int) < (l0.length : Int)) = true := decide_eq_true c1
  have c1b1 : decide (j < l0.length) = true := decide_eq_true (by omega)
  have H := HA.out
  clear HA
  have hj : j < l0.length := by omega
  have p1 : 0 ≤ (j : Int) := by omega
  obtain ⟨ad1, e1, hx1⟩ := Kd.at_string HR0.out (j : Int) p1 c1
  cases e1
  replace hx1 := HXz HB hx1
  simp only [Int.toNat_natCast] at hx1
  have hel : l0.drop j = rdOf ByteArray.empty l0 (j : Int) :: l0.drop (j + 1) := by
   rw [List.drop_eq_getElem_cons hj]
   congr 1
   unfold rdOf
   rw [List.getD_eq_getElem?_getD, show (j : Int).toNat = j from rfl, List.getElem?_eq_getElem hj]; rfl
  rw [hel] at H
  simp only [impl_MayChange.ix2] at H
  obtain ⟨b, Ab0, H⟩ := Option.bind_eq_some_iff.1 H
  have Ab := Aside0.mk Ab0
  clear Ab0 hel
  have c1i := eq_true c1
  cases b with
  | false =>
   simp only [Bool.false_eq_true, if_false] at H
   have HN := Aside0.mk H
   clear H
   have HJ := Aside0.mk hj
   clear hj c1
   go_wp2_with (go_at_call 56; (with_reducible refine (impl_MayChange.clo_calls k nl nw ne Al cl l who Ad cd dn _ false _ ?sl ?sw ?sd ?s0 HCL.out ?s1 HCD.out Ab.out).mono ?_); (case sl => exact (HB.out.cell (World.block_lt_of_cell? w _ HL.out)).trans HL.out); (case sw => exact (HB.out.cell (World.block_lt_of_cell? w _ HW.out)).trans HW.out); (case sd => exact (HB.out.cell (World.block_lt_of_cell? w _ HD.out)).trans HD.out); (case s0 => exact KCz (Kd.C_below HRL.out HB.out)); (case s1 => exact KCz (Kd.C_below HRD.out HB.out)); rintro e w5 ⟨rfl, hb⟩; have n9_ := Aside0.mk (below_step HB.out hb); clear HB; have HB := n9_; clear n9_; clear hb)
   go_roundg (l0.length - (j + 1))
   case measure => have := HK.out; have := HJ.out; omega
   case rel => exact ⟨j + 1, by have hb := HR0.out.2.1; have := HJ.out; first | rfl | go_num | (congr 1; unfold wrap64; omega), by have h2 := HN.out; rw [show (j : Int) + 1 = ((j + 1 : Nat) : Int) by omega] at h2; exact ⟨h2⟩, ⟨Nat.le_refl _⟩, HB⟩
  | true =>
   simp only [if_true] at H
   obtain rfl := Option.some.inj H
   clear hj c1
   go_wp2_with (go_at_call 56; (with_reducible refine (impl_MayChange.clo_calls k nl nw ne Al cl l who Ad cd dn _ true _ ?sl ?sw ?sd ?s0 HCL.out ?s1 HCD.out Ab.out).mono ?_); (case sl => exact (HB.out.cell (World.block_lt_of_cell? w _ HL.out)).trans HL.out); (case sw => exact (HB.out.cell (World.block_lt_of_cell? w _ HW.out)).trans HW.out); (case sd => exact (HB.out.cell (World.block_lt_of_cell? w _ HD.out)).trans HD.out); (case s0 => exact KCz (Kd.C_below HRL.out HB.out)); (case s1 => exact KCz (Kd.C_below HRD.out HB.out)); rintro e w5 ⟨rfl, hb⟩; have n9_ := Aside0.mk (below_step HB.out hb); clear HB; have HB := n9_; clear n9_; clear hb)
   go_ret
   exact ⟨rfl, HB.out⟩
set_option maxHeartbeats 8000000 in
set_option maxRecDepth 100000 in
theorem impl_MayChange.index2c (k : Nat) (nl nw ne : Nat) (Al : Option Addr) (cl : Nat) (l : List (S53)) (who : ByteArray) (Ad : Option Addr) (cd : Nat) (dn : List (S98)) (A0 : Option Addr) (c0 : Nat) (l0 : List ByteArray) (r : Int) (w : World) (hl : w.cell? ⟨nl, 0, none⟩ = some (.slice Al l.length cl)) (hw : w.cell? ⟨nw, 0, none⟩ = some (.string who)) (hd : w.cell? ⟨ne, 0, none⟩ = some (.slice Ad dn.length cd)) (hrl : Kd.C k53 w Al l.length l) (hcl : l.length ≤ cl) (hrd : Kd.C k98 w Ad dn.length dn) (hcd : dn.length ≤ cd) (hr0 : Kd.C Kd.string w A0 l0.length l0) (h : impl_MayChange.ix2 k l who dn l0 0 = some r) :
  Calls Tryz.prog 54 #[.slice A0 l0.length c0, .func (.func 56) #[] #[.pointer (some ⟨nl, 0, none⟩), .pointer (some ⟨nw, 0, none⟩), .pointer (some ⟨ne, 0, none⟩)]] w fun e w' => e = .returned (.bool (decide (0 ≤ r))) ∧ Below w.heap.size w w' := by
 have hc := impl_MayChange.index2 k nl nw ne Al cl l who Ad cd dn A0 c0 l0 r w hl hw hd hrl hcl hrd hcd hr0 h
 clear hr0 h hl hw hd hrl hcl hrd hcd
 go_enter Tryz.func54, Tryz.ntmps54
 go_wp2_with (go_at_call 98; refine hc.mono ?_; rintro e w' ⟨rfl, hb⟩)
 go_ret
 exact ⟨rfl, hb⟩
set_option maxHeartbeats 8000000 in
set_option maxRecDepth 100000 in
theorem impl_MayChange.calls (k : Nat) (A0 : Option Addr) (c0 : Nat) (l0 : List (S53)) (a1 : ByteArray) (A2_0 : Option Addr) (c2_0 : Nat) (l2_0 : List (S98)) (A2_1 : Option Addr) (c2_1 : Nat) (l2_1 : List (S127)) (A3 : Option Addr) (c3 : Nat) (l3 : List ByteArray) (r : Bool) (w : World) (hr0 : Kd.C k53 w A0 l0.length l0) (hc0 : l0.length ≤ c0) (hr2_0 : Kd.C k98 w A2_0 l2_0.length l2_0) (hc2_0 : l2_0.length ≤ c2_0) (hr2_1 : Kd.C k127 w A2_1 l2_1.length l2_1) (hc2_1 : l2_1.length ≤ c2_1) (hr3 : Kd.C Kd.string w A3 l3.length l3) (hc3 : l3.length ≤ c3) (h : impl_MayChange.f k l0 a1 l2_0 l2_1 l3 = some r) :
  Calls Tryz.prog 14 #[.slice A0 l0.length c0, .string a1, .agg #[.slice A2_0 l2_0.length c2_0, .slice A2_1 l2_1.length c2_1], .slice A3 l3.length c3] w fun e w' => e = .returned (.bool r) ∧ Below w.heap.size w w' := by
 have hu := Tryz.underlying37
 have HR0 := Aside0.mk hr0
 clear hr0
 have HC0 := Aside0.mk hc0
 clear hc0
 have HR20 := Aside0.mk hr2_0
 clear hr2_0
 have HC20 := Aside0.mk hc2_0
 clear hc2_0
 have HR21 := Aside0.mk hr2_1
 clear hr2_1
 have HC21 := Aside0.mk hc2_1
 clear hc2_1
 have HR3 := Aside0.mk hr3
 clear hr3
 have HC3 := Aside0.mk hc3
 clear hc3
 have HB := Aside0.mk (Below.refl w.heap.size w)
 unfold impl_MayChange.f at h
 obtain ⟨t0, A0_0, h⟩ := Option.bind_eq_some_iff.1 h
 have A0_ := Aside0.mk A0_0
 clear A0_0
 cases t0 with
 | true =>
  rw [if_pos rfl] at h
  obtain rfl := Option.some.inj h
  clear h
  go_enter Tryz.func14, Tryz.ntmps14
  go_wp2_with (first | ((with_reducible refine gate_dst (N := 4) rfl ?_); (try (refine gate_guard (by rfl) ?_; dsimp only)); refine box_event ?hg (N := 4) ?hd (cs := #[.slice A0 l0.length c0]) (t := 32) ?hr ?_; (case hd => rfl); (case hg => rfl); (case hr => first | (go_simp; done) | (go_simp; rfl)); intro gl hg w3 hbox hb; have Ggl := Aside0.mk ((by rw [hg]; exact (below_size HB.out)) : w.heap.size ≤ gl); have n9_ := Aside0.mk (below_step HB.out hb); clear HB; have HB := n9_; clear n9_; have Bgl := Aside0.mk hbox; clear hb hbox hg; have hcglw30 := C1z Bgl; have hfglw30 := blk_frozen Bgl.out 0) | ((with_reducible refine gate_dst (N := 5) rfl ?_); (try (refine gate_guard (by rfl) ?_; dsimp only)); refine box_event ?hg (N := 5) ?hd (cs := #[.string a1]) (t := 9) ?hr ?_; (case hd => rfl); (case hg => rfl); (case hr => first | (go_simp; done) | (go_simp; rfl)); intro gw hg w4 hbox hb; have Ggw := Aside0.mk ((by rw [hg]; exact (below_size HB.out)) : w.heap.size ≤ gw); have Ngl_gw := Aside0.mk ((by rw [hg]; exact Nat.ne_of_lt (blk_lt (g := gl) (o := .cells #[.slice A0 l0.length c0] 32 (0, 0)) Bgl.out)) : gl ≠ gw); have n0_ := Aside0.mk (blk_below (g := gl) (o := .cells #[.slice A0 l0.length c0] 32 (0, 0)) Bgl.out hb); clear Bgl; have Bgl := n0_; clear n0_; have n9_ := Aside0.mk (below_step HB.out hb); clear HB; have HB := n9_; clear n9_; have Bgw := Aside0.mk hbox; clear hb hbox hg; have hcglw40 := C1z Bgl; have hfglw40 := blk_frozen Bgl.out 0; have hcgww40 := C1z Bgw; have hfgww40 := blk_frozen Bgw.out 0) | ((with_reducible refine gate_dst (N := 6) rfl ?_); (try (refine gate_guard (by rfl) ?_; dsimp only)); refine box_event ?hg (N := 6) ?hd (cs := #[.slice A2_0 l2_0.length c2_0, .slice A2_1 l2_1.length c2_1]) (t := 37) ?hr ?_; (case hd => rfl); (case hg => rfl); (case hr => first | (go_simp; done) | (go_simp; rfl)); intro ge hg w5 hbox hb; have Gge := Aside0.mk ((by rw [hg]; exact (below_size HB.out)) : w.heap.size ≤ ge); have Ngl_ge := Aside0.mk ((by rw [hg]; exact Nat.ne_of_lt (blk_lt (g := gl) (o := .cells #[.slice A0 l0.length c0] 32 (0, 0)) Bgl.out)) : gl ≠ ge); have n0_ := Aside0.mk (blk_below (g := gl) (o := .cells #[.slice A0 l0.length c0] 32 (0, 0)) Bgl.out hb); clear Bgl; have Bgl := n0_; clear n0_; have Ngw_ge := Aside0.mk ((by rw [hg]; exact Nat.ne_of_lt (blk_lt (g := gw) (o := .cells #[.string a1] 9 (0, 0)) Bgw.out)) : gw ≠ ge); have n1_ := Aside0.mk (blk_below (g := gw) (o := .cells #[.string a1] 9 (0, 0)) Bgw.out hb); clear Bgw; have Bgw := n1_; clear n1_; have n9_ := Aside0.mk (below_step HB.out hb); clear HB; have HB := n9_; clear n9_; have Bge := Aside0.mk hbox; clear hb hbox hg; have hcglw50 := C1z Bgl; have hfglw50 := blk_frozen Bgl.out 0; have hcgww50 := C1z Bgw; have hfgww50 := blk_frozen Bgw.out 0; have hcgew50 := C1z Bge; have hfgew50 := blk_frozen Bge.out 0; have hcgew51 := C2z Bge; have hfgew51 := blk_frozen Bge.out 1) | (go_at_call 51; (with_reducible refine (impl_isMany_string.calls _ _ l3 true _ ?s0 HC3.out A0_.out).mono ?_); (case s0 => exact KCz (Kd.C_below HR3.out HB.out)); rintro e w9 ⟨rfl, ⟨nd, rfl⟩⟩; have n0_ := Aside0.mk (blk_drewN Bgl.out nd); clear Bgl; have Bgl := n0_; clear n0_; have n1_ := Aside0.mk (blk_drewN Bgw.out nd); clear Bgw; have Bgw := n1_; clear n1_; have n2_ := Aside0.mk (blk_drewN Bge.out nd); clear Bge; have Bge := n2_; clear n2_; have n9_ := Aside0.mk (pw_below_drewN HB.out nd); clear HB; have HB := n9_; clear n9_; have hcglw90 := C1z Bgl; have hfglw90 := blk_frozen Bgl.out 0; have hcgww90 := C1z Bgw; have hfgww90 := blk_frozen Bgw.out 0; have hcgew90 := C1z Bge; have hfgew90 := blk_frozen Bge.out 0; have hcgew91 := C2z Bge; have hfgew91 := blk_frozen Bge.out 1))
  go_ret
  exact ⟨by first | rfl | (simp; done) | (simp [*]; done), HBa⟩
 | false =>
  rw [if_neg (by simp)] at h
  obtain ⟨t1, A1_0, h⟩ := Option.bind_eq_some_iff.1 h
  have A1_ := Aside0.mk A1_0
  clear A1_0
  cases t1 with
  | false =>
   rw [if_neg (by simp)] at h
   obtain rfl := Option.some.inj h
   clear h
   go_enter Tryz.func14, Tryz.ntmps14
   go_wp2_with (first | ((with_reducible refine gate_dst (N := 4) rfl ?_); (try (refine gate_guard (by rfl) ?_; dsimp only)); refine box_event ?hg (N := 4) ?hd (cs := #[.slice A0 l0.length c0]) (t := 32) ?hr ?_; (case hd => rfl); (case hg => rfl); (case hr => first | (go_simp; done) | (go_simp; rfl)); intro gl hg w3 hbox hb; have Ggl := Aside0.mk ((by rw [hg]; exact (below_size HB.out)) : w.heap.size ≤ gl); have n9_ := Aside0.mk (below_step HB.out hb); clear HB; have HB := n9_; clear n9_; have Bgl := Aside0.mk hbox; clear hb hbox hg; have hcglw30 := C1z Bgl; have hfglw30 := blk_frozen Bgl.out 0) | ((with_reducible refine gate_dst (N := 5) rfl ?_); (try (refine gate_guard (by rfl) ?_; dsimp only)); refine box_event ?hg (N := 5) ?hd (cs := #[.string a1]) (t := 9) ?hr ?_; (case hd => rfl); (case hg => rfl); (case hr => first | (go_simp; done) | (go_simp; rfl)); intro gw hg w4 hbox hb; have Ggw := Aside0.mk ((by rw [hg]; exact (below_size HB.out)) : w.heap.size ≤ gw); have Ngl_gw := Aside0.mk ((by rw [hg]; exact Nat.ne_of_lt (blk_lt (g := gl) (o := .cells #[.slice A0 l0.length c0] 32 (0, 0)) Bgl.out)) : gl ≠ gw); have n0_ := Aside0.mk (blk_below (g := gl) (o := .cells #[.slice A0 l0.length c0] 32 (0, 0)) Bgl.out hb); clear Bgl; have Bgl := n0_; clear n0_; have n9_ := Aside0.mk (below_step HB.out hb); clear HB; have HB := n9_; clear n9_; have Bgw := Aside0.mk hbox; clear hb hbox hg; have hcglw40 := C1z Bgl; have hfglw40 := blk_frozen Bgl.out 0; have hcgww40 := C1z Bgw; have hfgww40 := blk_frozen Bgw.out 0) | ((with_reducible refine gate_dst (N := 6) rfl ?_); (try (refine gate_guard (by rfl) ?_; dsimp only)); refine box_event ?hg (N := 6) ?hd (cs := #[.slice A2_0 l2_0.length c2_0, .slice A2_1 l2_1.length c2_1]) (t := 37) ?hr ?_; (case hd => rfl); (case hg => rfl); (case hr => first | (go_simp; done) | (go_simp; rfl)); intro ge hg w5 hbox hb; have Gge := Aside0.mk ((by rw [hg]; exact (below_size HB.out)) : w.heap.size ≤ ge); have Ngl_ge := Aside0.mk ((by rw [hg]; exact Nat.ne_of_lt (blk_lt (g := gl) (o := .cells #[.slice A0 l0.length c0] 32 (0, 0)) Bgl.out)) : gl ≠ ge); have n0_ := Aside0.mk (blk_below (g := gl) (o := .cells #[.slice A0 l0.length c0] 32 (0, 0)) Bgl.out hb); clear Bgl; have Bgl := n0_; clear n0_; have Ngw_ge := Aside0.mk ((by rw [hg]; exact Nat.ne_of_lt (blk_lt (g := gw) (o := .cells #[.string a1] 9 (0, 0)) Bgw.out)) : gw ≠ ge); have n1_ := Aside0.mk (blk_below (g := gw) (o := .cells #[.string a1] 9 (0, 0)) Bgw.out hb); clear Bgw; have Bgw := n1_; clear n1_; have n9_ := Aside0.mk (below_step HB.out hb); clear HB; have HB := n9_; clear n9_; have Bge := Aside0.mk hbox; clear hb hbox hg; have hcglw50 := C1z Bgl; have hfglw50 := blk_frozen Bgl.out 0; have hcgww50 := C1z Bgw; have hfgww50 := blk_frozen Bgw.out 0; have hcgew50 := C1z Bge; have hfgew50 := blk_frozen Bge.out 0; have hcgew51 := C2z Bge; have hfgew51 := blk_frozen Bge.out 1) | (go_at_call 51; (with_reducible refine (impl_isMany_string.calls _ _ l3 false _ ?s0 HC3.out A0_.out).mono ?_); (case s0 => exact KCz (Kd.C_below HR3.out HB.out)); rintro e w9 ⟨rfl, ⟨nd, rfl⟩⟩; have n0_ := Aside0.mk (blk_drewN Bgl.out nd); clear Bgl; have Bgl := n0_; clear n0_; have n1_ := Aside0.mk (blk_drewN Bgw.out nd); clear Bgw; have Bgw := n1_; clear n1_; have n2_ := Aside0.mk (blk_drewN Bge.out nd); clear Bge; have Bge := n2_; clear n2_; have n9_ := Aside0.mk (pw_below_drewN HB.out nd); clear HB; have HB := n9_; clear n9_; have hcglw90 := C1z Bgl; have hfglw90 := blk_frozen Bgl.out 0; have hcgww90 := C1z Bgw; have hfgww90 := blk_frozen Bgw.out 0; have hcgew90 := C1z Bge; have hfgew90 := blk_frozen Bge.out 0; have hcgew91 := C2z Bge; have hfgew91 := blk_frozen Bge.out 1) | (go_at_call 21; (with_reducible refine (impl_AclRight.calls k _ _ l0 false _ ?s0 HC0.out A1_.out).mono ?_); (case s0 => exact KCz (Kd.C_below HR0.out HB.out)); rintro e w10 ⟨rfl, hb⟩; have n0_ := Aside0.mk (blk_below (g := gl) (o := .cells #[.slice A0 l0.length c0] 32 (0, 0)) Bgl.out hb); clear Bgl; have Bgl := n0_; clear n0_; have n1_ := Aside0.mk (blk_below (g := gw) (o := .cells #[.string a1] 9 (0, 0)) Bgw.out hb); clear Bgw; have Bgw := n1_; clear n1_; have n2_ := Aside0.mk (blk_below (g := ge) (o := .cells #[.slice A2_0 l2_0.length c2_0, .slice A2_1 l2_1.length c2_1] 37 (0, 0)) Bge.out hb); clear Bge; have Bge := n2_; clear n2_; have n9_ := Aside0.mk (below_step HB.out hb); clear HB; have HB := n9_; clear n9_; clear hb; have hcglw100 := C1z Bgl; have hfglw100 := blk_frozen Bgl.out 0; have hcgww100 := C1z Bgw; have hfgww100 := blk_frozen Bgw.out 0; have hcgew100 := C1z Bge; have hfgew100 := blk_frozen Bge.out 0; have hcgew101 := C2z Bge; have hfgew101 := blk_frozen Bge.out 1))
   go_ret
   exact ⟨by first | rfl | (simp; done) | (simp [*]; done), HBa⟩
  | true =>
   rw [if_pos rfl] at h
   obtain ⟨t2, A2_0, h⟩ := Option.bind_eq_some_iff.1 h
   have A2_ := Aside0.mk A2_0
   clear A2_0
   cases t2 with
   | false =>
    rw [if_neg (by simp)] at h
    obtain rfl := Option.some.inj h
    clear h
    go_enter Tryz.func14, Tryz.ntmps14
    go_wp2_with (first | ((with_reducible refine gate_dst (N := 4) rfl ?_); (try (refine gate_guard (by rfl) ?_; dsimp only)); refine box_event ?hg (N := 4) ?hd (cs := #[.slice A0 l0.length c0]) (t := 32) ?hr ?_; (case hd => rfl); (case hg => rfl); (case hr => first | (go_simp; done) | (go_simp; rfl)); intro gl hg w3 hbox hb; have Ggl := Aside0.mk ((by rw [hg]; exact (below_size HB.out)) : w.heap.size ≤ gl); have n9_ := Aside0.mk (below_step HB.out hb); clear HB; have HB := n9_; clear n9_; have Bgl := Aside0.mk hbox; clear hb hbox hg; have hcglw30 := C1z Bgl; have hfglw30 := blk_frozen Bgl.out 0) | ((with_reducible refine gate_dst (N := 5) rfl ?_); (try (refine gate_guard (by rfl) ?_; dsimp only)); refine box_event ?hg (N := 5) ?hd (cs := #[.string a1]) (t := 9) ?hr ?_; (case hd => rfl); (case hg => rfl); (case hr => first | (go_simp; done) | (go_simp; rfl)); intro gw hg w4 hbox hb; have Ggw := Aside0.mk ((by rw [hg]; exact (below_size HB.out)) : w.heap.size ≤ gw); have Ngl_gw := Aside0.mk ((by rw [hg]; exact Nat.ne_of_lt (blk_lt (g := gl) (o := .cells #[.slice A0 l0.length c0] 32 (0, 0)) Bgl.out)) : gl ≠ gw); have n0_ := Aside0.mk (blk_below (g := gl) (o := .cells #[.slice A0 l0.length c0] 32 (0, 0)) Bgl.out hb); clear Bgl; have Bgl := n0_; clear n0_; have n9_ := Aside0.mk (below_step HB.out hb); clear HB; have HB := n9_; clear n9_; have Bgw := Aside0.mk hbox; clear hb hbox hg; have hcglw40 := C1z Bgl; have hfglw40 := blk_frozen Bgl.out 0; have hcgww40 := C1z Bgw; have hfgww40 := blk_frozen Bgw.out 0) | ((with_reducible refine gate_dst (N := 6) rfl ?_); (try (refine gate_guard (by rfl) ?_; dsimp only)); refine box_event ?hg (N := 6) ?hd (cs := #[.slice A2_0 l2_0.length c2_0, .slice A2_1 l2_1.length c2_1]) (t := 37) ?hr ?_; (case hd => rfl); (case hg => rfl); (case hr => first | (go_simp; done) | (go_simp; rfl)); intro ge hg w5 hbox hb; have Gge := Aside0.mk ((by rw [hg]; exact (below_size HB.out)) : w.heap.size ≤ ge); have Ngl_ge := Aside0.mk ((by rw [hg]; exact Nat.ne_of_lt (blk_lt (g := gl) (o := .cells #[.slice A0 l0.length c0] 32 (0, 0)) Bgl.out)) : gl ≠ ge); have n0_ := Aside0.mk (blk_below (g := gl) (o := .cells #[.slice A0 l0.length c0] 32 (0, 0)) Bgl.out hb); clear Bgl; have Bgl := n0_; clear n0_; have Ngw_ge := Aside0.mk ((by rw [hg]; exact Nat.ne_of_lt (blk_lt (g := gw) (o := .cells #[.string a1] 9 (0, 0)) Bgw.out)) : gw ≠ ge); have n1_ := Aside0.mk (blk_below (g := gw) (o := .cells #[.string a1] 9 (0, 0)) Bgw.out hb); clear Bgw; have Bgw := n1_; clear n1_; have n9_ := Aside0.mk (below_step HB.out hb); clear HB; have HB := n9_; clear n9_; have Bge := Aside0.mk hbox; clear hb hbox hg; have hcglw50 := C1z Bgl; have hfglw50 := blk_frozen Bgl.out 0; have hcgww50 := C1z Bgw; have hfgww50 := blk_frozen Bgw.out 0; have hcgew50 := C1z Bge; have hfgew50 := blk_frozen Bge.out 0; have hcgew51 := C2z Bge; have hfgew51 := blk_frozen Bge.out 1) | (go_at_call 51; (with_reducible refine (impl_isMany_string.calls _ _ l3 false _ ?s0 HC3.out A0_.out).mono ?_); (case s0 => exact KCz (Kd.C_below HR3.out HB.out)); rintro e w9 ⟨rfl, ⟨nd, rfl⟩⟩; have n0_ := Aside0.mk (blk_drewN Bgl.out nd); clear Bgl; have Bgl := n0_; clear n0_; have n1_ := Aside0.mk (blk_drewN Bgw.out nd); clear Bgw; have Bgw := n1_; clear n1_; have n2_ := Aside0.mk (blk_drewN Bge.out nd); clear Bge; have Bge := n2_; clear n2_; have n9_ := Aside0.mk (pw_below_drewN HB.out nd); clear HB; have HB := n9_; clear n9_; have hcglw90 := C1z Bgl; have hfglw90 := blk_frozen Bgl.out 0; have hcgww90 := C1z Bgw; have hfgww90 := blk_frozen Bgw.out 0; have hcgew90 := C1z Bge; have hfgew90 := blk_frozen Bge.out 0; have hcgew91 := C2z Bge; have hfgew91 := blk_frozen Bge.out 1) | (go_at_call 21; (with_reducible refine (impl_AclRight.calls k _ _ l0 true _ ?s0 HC0.out A1_.out).mono ?_); (case s0 => exact KCz (Kd.C_below HR0.out HB.out)); rintro e w10 ⟨rfl, hb⟩; have n0_ := Aside0.mk (blk_below (g := gl) (o := .cells #[.slice A0 l0.length c0] 32 (0, 0)) Bgl.out hb); clear Bgl; have Bgl := n0_; clear n0_; have n1_ := Aside0.mk (blk_below (g := gw) (o := .cells #[.string a1] 9 (0, 0)) Bgw.out hb); clear Bgw; have Bgw := n1_; clear n1_; have n2_ := Aside0.mk (blk_below (g := ge) (o := .cells #[.slice A2_0 l2_0.length c2_0, .slice A2_1 l2_1.length c2_1] 37 (0, 0)) Bge.out hb); clear Bge; have Bge := n2_; clear n2_; have n9_ := Aside0.mk (below_step HB.out hb); clear HB; have HB := n9_; clear n9_; clear hb; have hcglw100 := C1z Bgl; have hfglw100 := blk_frozen Bgl.out 0; have hcgww100 := C1z Bgw; have hfgww100 := blk_frozen Bgw.out 0; have hcgew100 := C1z Bge; have hfgew100 := blk_frozen Bge.out 0; have hcgew101 := C2z Bge; have hfgew101 := blk_frozen Bge.out 1) | (go_at_call 52; (with_reducible refine (impl_EntryRight.calls k _ _ l2_0 _ _ l2_1 false _ ?s0 HC20.out ?s1 HC21.out A2_.out).mono ?_); (case s0 => exact KCz (Kd.C_below HR20.out HB.out)); (case s1 => exact KCz (Kd.C_below HR21.out HB.out)); rintro e w11 ⟨rfl, hb⟩; have n0_ := Aside0.mk (blk_below (g := gl) (o := .cells #[.slice A0 l0.length c0] 32 (0, 0)) Bgl.out hb); clear Bgl; have Bgl := n0_; clear n0_; have n1_ := Aside0.mk (blk_below (g := gw) (o := .cells #[.string a1] 9 (0, 0)) Bgw.out hb); clear Bgw; have Bgw := n1_; clear n1_; have n2_ := Aside0.mk (blk_below (g := ge) (o := .cells #[.slice A2_0 l2_0.length c2_0, .slice A2_1 l2_1.length c2_1] 37 (0, 0)) Bge.out hb); clear Bge; have Bge := n2_; clear n2_; have n9_ := Aside0.mk (below_step HB.out hb); clear HB; have HB := n9_; clear n9_; clear hb; have hcglw110 := C1z Bgl; have hfglw110 := blk_frozen Bgl.out 0; have hcgww110 := C1z Bgw; have hfgww110 := blk_frozen Bgw.out 0; have hcgew110 := C1z Bge; have hfgew110 := blk_frozen Bge.out 0; have hcgew111 := C2z Bge; have hfgew111 := blk_frozen Bge.out 1))
    go_ret
    exact ⟨by first | rfl | (simp; done) | (simp [*]; done), HBa⟩
   | true =>
    rw [if_pos rfl] at h
    obtain ⟨t3, A3_0, h⟩ := Option.bind_eq_some_iff.1 h
    have A3_ := Aside0.mk A3_0
    clear A3_0
    cases t3 with
    | false =>
     rw [if_neg (by simp)] at h
     obtain rfl := Option.some.inj h
     clear h
     go_enter Tryz.func14, Tryz.ntmps14
     go_wp2_with (first | ((with_reducible refine gate_dst (N := 4) rfl ?_); (try (refine gate_guard (by rfl) ?_; dsimp only)); refine box_event ?hg (N := 4) ?hd (cs := #[.slice A0 l0.length c0]) (t := 32) ?hr ?_; (case hd => rfl); (case hg => rfl); (case hr => first | (go_simp; done) | (go_simp; rfl)); intro gl hg w3 hbox hb; have Ggl := Aside0.mk ((by rw [hg]; exact (below_size HB.out)) : w.heap.size ≤ gl); have n9_ := Aside0.mk (below_step HB.out hb); clear HB; have HB := n9_; clear n9_; have Bgl := Aside0.mk hbox; clear hb hbox hg; have hcglw30 := C1z Bgl; have hfglw30 := blk_frozen Bgl.out 0) | ((with_reducible refine gate_dst (N := 5) rfl ?_); (try (refine gate_guard (by rfl) ?_; dsimp only)); refine box_event ?hg (N := 5) ?hd (cs := #[.string a1]) (t := 9) ?hr ?_; (case hd => rfl); (case hg => rfl); (case hr => first | (go_simp; done) | (go_simp; rfl)); intro gw hg w4 hbox hb; have Ggw := Aside0.mk ((by rw [hg]; exact (below_size HB.out)) : w.heap.size ≤ gw); have Ngl_gw := Aside0.mk ((by rw [hg]; exact Nat.ne_of_lt (blk_lt (g := gl) (o := .cells #[.slice A0 l0.length c0] 32 (0, 0)) Bgl.out)) : gl ≠ gw); have n0_ := Aside0.mk (blk_below (g := gl) (o := .cells #[.slice A0 l0.length c0] 32 (0, 0)) Bgl.out hb); clear Bgl; have Bgl := n0_; clear n0_; have n9_ := Aside0.mk (below_step HB.out hb); clear HB; have HB := n9_; clear n9_; have Bgw := Aside0.mk hbox; clear hb hbox hg; have hcglw40 := C1z Bgl; have hfglw40 := blk_frozen Bgl.out 0; have hcgww40 := C1z Bgw; have hfgww40 := blk_frozen Bgw.out 0) | ((with_reducible refine gate_dst (N := 6) rfl ?_); (try (refine gate_guard (by rfl) ?_; dsimp only)); refine box_event ?hg (N := 6) ?hd (cs := #[.slice A2_0 l2_0.length c2_0, .slice A2_1 l2_1.length c2_1]) (t := 37) ?hr ?_; (case hd => rfl); (case hg => rfl); (case hr => first | (go_simp; done) | (go_simp; rfl)); intro ge hg w5 hbox hb; have Gge := Aside0.mk ((by rw [hg]; exact (below_size HB.out)) : w.heap.size ≤ ge); have Ngl_ge := Aside0.mk ((by rw [hg]; exact Nat.ne_of_lt (blk_lt (g := gl) (o := .cells #[.slice A0 l0.length c0] 32 (0, 0)) Bgl.out)) : gl ≠ ge); have n0_ := Aside0.mk (blk_below (g := gl) (o := .cells #[.slice A0 l0.length c0] 32 (0, 0)) Bgl.out hb); clear Bgl; have Bgl := n0_; clear n0_; have Ngw_ge := Aside0.mk ((by rw [hg]; exact Nat.ne_of_lt (blk_lt (g := gw) (o := .cells #[.string a1] 9 (0, 0)) Bgw.out)) : gw ≠ ge); have n1_ := Aside0.mk (blk_below (g := gw) (o := .cells #[.string a1] 9 (0, 0)) Bgw.out hb); clear Bgw; have Bgw := n1_; clear n1_; have n9_ := Aside0.mk (below_step HB.out hb); clear HB; have HB := n9_; clear n9_; have Bge := Aside0.mk hbox; clear hb hbox hg; have hcglw50 := C1z Bgl; have hfglw50 := blk_frozen Bgl.out 0; have hcgww50 := C1z Bgw; have hfgww50 := blk_frozen Bgw.out 0; have hcgew50 := C1z Bge; have hfgew50 := blk_frozen Bge.out 0; have hcgew51 := C2z Bge; have hfgew51 := blk_frozen Bge.out 1) | (go_at_call 51; (with_reducible refine (impl_isMany_string.calls _ _ l3 false _ ?s0 HC3.out A0_.out).mono ?_); (case s0 => exact KCz (Kd.C_below HR3.out HB.out)); rintro e w9 ⟨rfl, ⟨nd, rfl⟩⟩; have n0_ := Aside0.mk (blk_drewN Bgl.out nd); clear Bgl; have Bgl := n0_; clear n0_; have n1_ := Aside0.mk (blk_drewN Bgw.out nd); clear Bgw; have Bgw := n1_; clear n1_; have n2_ := Aside0.mk (blk_drewN Bge.out nd); clear Bge; have Bge := n2_; clear n2_; have n9_ := Aside0.mk (pw_below_drewN HB.out nd); clear HB; have HB := n9_; clear n9_; have hcglw90 := C1z Bgl; have hfglw90 := blk_frozen Bgl.out 0; have hcgww90 := C1z Bgw; have hfgww90 := blk_frozen Bgw.out 0; have hcgew90 := C1z Bge; have hfgew90 := blk_frozen Bge.out 0; have hcgew91 := C2z Bge; have hfgew91 := blk_frozen Bge.out 1) | (go_at_call 21; (with_reducible refine (impl_AclRight.calls k _ _ l0 true _ ?s0 HC0.out A1_.out).mono ?_); (case s0 => exact KCz (Kd.C_below HR0.out HB.out)); rintro e w10 ⟨rfl, hb⟩; have n0_ := Aside0.mk (blk_below (g := gl) (o := .cells #[.slice A0 l0.length c0] 32 (0, 0)) Bgl.out hb); clear Bgl; have Bgl := n0_; clear n0_; have n1_ := Aside0.mk (blk_below (g := gw) (o := .cells #[.string a1] 9 (0, 0)) Bgw.out hb); clear Bgw; have Bgw := n1_; clear n1_; have n2_ := Aside0.mk (blk_below (g := ge) (o := .cells #[.slice A2_0 l2_0.length c2_0, .slice A2_1 l2_1.length c2_1] 37 (0, 0)) Bge.out hb); clear Bge; have Bge := n2_; clear n2_; have n9_ := Aside0.mk (below_step HB.out hb); clear HB; have HB := n9_; clear n9_; clear hb; have hcglw100 := C1z Bgl; have hfglw100 := blk_frozen Bgl.out 0; have hcgww100 := C1z Bgw; have hfgww100 := blk_frozen Bgw.out 0; have hcgew100 := C1z Bge; have hfgew100 := blk_frozen Bge.out 0; have hcgew101 := C2z Bge; have hfgew101 := blk_frozen Bge.out 1) | (go_at_call 52; (with_reducible refine (impl_EntryRight.calls k _ _ l2_0 _ _ l2_1 true _ ?s0 HC20.out ?s1 HC21.out A2_.out).mono ?_); (case s0 => exact KCz (Kd.C_below HR20.out HB.out)); (case s1 => exact KCz (Kd.C_below HR21.out HB.out)); rintro e w11 ⟨rfl, hb⟩; have n0_ := Aside0.mk (blk_below (g := gl) (o := .cells #[.slice A0 l0.length c0] 32 (0, 0)) Bgl.out hb); clear Bgl; have Bgl := n0_; clear n0_; have n1_ := Aside0.mk (blk_below (g := gw) (o := .cells #[.string a1] 9 (0, 0)) Bgw.out hb); clear Bgw; have Bgw := n1_; clear n1_; have n2_ := Aside0.mk (blk_below (g := ge) (o := .cells #[.slice A2_0 l2_0.length c2_0, .slice A2_1 l2_1.length c2_1] 37 (0, 0)) Bge.out hb); clear Bge; have Bge := n2_; clear n2_; have n9_ := Aside0.mk (below_step HB.out hb); clear HB; have HB := n9_; clear n9_; clear hb; have hcglw110 := C1z Bgl; have hfglw110 := blk_frozen Bgl.out 0; have hcgww110 := C1z Bgw; have hfgww110 := blk_frozen Bgw.out 0; have hcgew110 := C1z Bge; have hfgew110 := blk_frozen Bge.out 0; have hcgew111 := C2z Bge; have hfgew111 := blk_frozen Bge.out 1) | (go_at_call 53; (with_reducible refine (impl_NameRight.calls a1 false _ A3_.out).mono ?_); rintro e w12 ⟨rfl, hb⟩; have n0_ := Aside0.mk (blk_below (g := gl) (o := .cells #[.slice A0 l0.length c0] 32 (0, 0)) Bgl.out hb); clear Bgl; have Bgl := n0_; clear n0_; have n1_ := Aside0.mk (blk_below (g := gw) (o := .cells #[.string a1] 9 (0, 0)) Bgw.out hb); clear Bgw; have Bgw := n1_; clear n1_; have n2_ := Aside0.mk (blk_below (g := ge) (o := .cells #[.slice A2_0 l2_0.length c2_0, .slice A2_1 l2_1.length c2_1] 37 (0, 0)) Bge.out hb); clear Bge; have Bge := n2_; clear n2_; have n9_ := Aside0.mk (below_step HB.out hb); clear HB; have HB := n9_; clear n9_; clear hb; have hcglw120 := C1z Bgl; have hfglw120 := blk_frozen Bgl.out 0; have hcgww120 := C1z Bgw; have hfgww120 := blk_frozen Bgw.out 0; have hcgew120 := C1z Bge; have hfgew120 := blk_frozen Bge.out 0; have hcgew121 := C2z Bge; have hfgew121 := blk_frozen Bge.out 1))
     go_ret
     exact ⟨by first | rfl | (simp; done) | (simp [*]; done), HBa⟩
    | true =>
     rw [if_pos rfl] at h
     obtain ⟨t4, A4_0, h⟩ := Option.bind_eq_some_iff.1 h
     have A4_ := Aside0.mk A4_0
     clear A4_0
     by_cases d4 : 0 ≤ t4
     ·rw [if_pos d4] at h
      have d4b : decide (0 ≤ t4) = true := decide_eq_true d4
      obtain rfl := Option.some.inj h
      clear h
      clear d4
      go_enter Tryz.func14, Tryz.ntmps14
      go_wp2_with (first | ((with_reducible refine gate_dst (N := 4) rfl ?_); (try (refine gate_guard (by rfl) ?_; dsimp only)); refine box_event ?hg (N := 4) ?hd (cs := #[.slice A0 l0.length c0]) (t := 32) ?hr ?_; (case hd => rfl); (case hg => rfl); (case hr => first | (go_simp; done) | (go_simp; rfl)); intro gl hg w3 hbox hb; have Ggl := Aside0.mk ((by rw [hg]; exact (below_size HB.out)) : w.heap.size ≤ gl); have n9_ := Aside0.mk (below_step HB.out hb); clear HB; have HB := n9_; clear n9_; have Bgl := Aside0.mk hbox; clear hb hbox hg; have hcglw30 := C1z Bgl; have hfglw30 := blk_frozen Bgl.out 0) | ((with_reducible refine gate_dst (N := 5) rfl ?_); (try (refine gate_guard (by rfl) ?_; dsimp only)); refine box_event ?hg (N := 5) ?hd (cs := #[.string a1]) (t := 9) ?hr ?_; (case hd => rfl); (case hg => rfl); (case hr => first | (go_simp; done) | (go_simp; rfl)); intro gw hg w4 hbox hb; have Ggw := Aside0.mk ((by rw [hg]; exact (below_size HB.out)) : w.heap.size ≤ gw); have Ngl_gw := Aside0.mk ((by rw [hg]; exact Nat.ne_of_lt (blk_lt (g := gl) (o := .cells #[.slice A0 l0.length c0] 32 (0, 0)) Bgl.out)) : gl ≠ gw); have n0_ := Aside0.mk (blk_below (g := gl) (o := .cells #[.slice A0 l0.length c0] 32 (0, 0)) Bgl.out hb); clear Bgl; have Bgl := n0_; clear n0_; have n9_ := Aside0.mk (below_step HB.out hb); clear HB; have HB := n9_; clear n9_; have Bgw := Aside0.mk hbox; clear hb hbox hg; have hcglw40 := C1z Bgl; have hfglw40 := blk_frozen Bgl.out 0; have hcgww40 := C1z Bgw; have hfgww40 := blk_frozen Bgw.out 0) | ((with_reducible refine gate_dst (N := 6) rfl ?_); (try (refine gate_guard (by rfl) ?_; dsimp only)); refine box_event ?hg (N := 6) ?hd (cs := #[.slice A2_0 l2_0.length c2_0, .slice A2_1 l2_1.length c2_1]) (t := 37) ?hr ?_; (case hd => rfl); (case hg => rfl); (case hr => first | (go_simp; done) | (go_simp; rfl)); intro ge hg w5 hbox hb; have Gge := Aside0.mk ((by rw [hg]; exact (below_size HB.out)) : w.heap.size ≤ ge); have Ngl_ge := Aside0.mk ((by rw [hg]; exact Nat.ne_of_lt (blk_lt (g := gl) (o := .cells #[.slice A0 l0.length c0] 32 (0, 0)) Bgl.out)) : gl ≠ ge); have n0_ := Aside0.mk (blk_below (g := gl) (o := .cells #[.slice A0 l0.length c0] 32 (0, 0)) Bgl.out hb); clear Bgl; have Bgl := n0_; clear n0_; have Ngw_ge := Aside0.mk ((by rw [hg]; exact Nat.ne_of_lt (blk_lt (g := gw) (o := .cells #[.string a1] 9 (0, 0)) Bgw.out)) : gw ≠ ge); have n1_ := Aside0.mk (blk_below (g := gw) (o := .cells #[.string a1] 9 (0, 0)) Bgw.out hb); clear Bgw; have Bgw := n1_; clear n1_; have n9_ := Aside0.mk (below_step HB.out hb); clear HB; have HB := n9_; clear n9_; have Bge := Aside0.mk hbox; clear hb hbox hg; have hcglw50 := C1z Bgl; have hfglw50 := blk_frozen Bgl.out 0; have hcgww50 := C1z Bgw; have hfgww50 := blk_frozen Bgw.out 0; have hcgew50 := C1z Bge; have hfgew50 := blk_frozen Bge.out 0; have hcgew51 := C2z Bge; have hfgew51 := blk_frozen Bge.out 1) | (go_at_call 51; (with_reducible refine (impl_isMany_string.calls _ _ l3 false _ ?s0 HC3.out A0_.out).mono ?_); (case s0 => exact KCz (Kd.C_below HR3.out HB.out)); rintro e w9 ⟨rfl, ⟨nd, rfl⟩⟩; have n0_ := Aside0.mk (blk_drewN Bgl.out nd); clear Bgl; have Bgl := n0_; clear n0_; have n1_ := Aside0.mk (blk_drewN Bgw.out nd); clear Bgw; have Bgw := n1_; clear n1_; have n2_ := Aside0.mk (blk_drewN Bge.out nd); clear Bge; have Bge := n2_; clear n2_; have n9_ := Aside0.mk (pw_below_drewN HB.out nd); clear HB; have HB := n9_; clear n9_; have hcglw90 := C1z Bgl; have hfglw90 := blk_frozen Bgl.out 0; have hcgww90 := C1z Bgw; have hfgww90 := blk_frozen Bgw.out 0; have hcgew90 := C1z Bge; have hfgew90 := blk_frozen Bge.out 0; have hcgew91 := C2z Bge; have hfgew91 := blk_frozen Bge.out 1) | (go_at_call 21; (with_reducible refine (impl_AclRight.calls k _ _ l0 true _ ?s0 HC0.out A1_.out).mono ?_); (case s0 => exact KCz (Kd.C_below HR0.out HB.out)); rintro e w10 ⟨rfl, hb⟩; have n0_ := Aside0.mk (blk_below (g := gl) (o := .cells #[.slice A0 l0.length c0] 32 (0, 0)) Bgl.out hb); clear Bgl; have Bgl := n0_; clear n0_; have n1_ := Aside0.mk (blk_below (g := gw) (o := .cells #[.string a1] 9 (0, 0)) Bgw.out hb); clear Bgw; have Bgw := n1_; clear n1_; have n2_ := Aside0.mk (blk_below (g := ge) (o := .cells #[.slice A2_0 l2_0.length c2_0, .slice A2_1 l2_1.length c2_1] 37 (0, 0)) Bge.out hb); clear Bge; have Bge := n2_; clear n2_; have n9_ := Aside0.mk (below_step HB.out hb); clear HB; have HB := n9_; clear n9_; clear hb; have hcglw100 := C1z Bgl; have hfglw100 := blk_frozen Bgl.out 0; have hcgww100 := C1z Bgw; have hfgww100 := blk_frozen Bgw.out 0; have hcgew100 := C1z Bge; have hfgew100 := blk_frozen Bge.out 0; have hcgew101 := C2z Bge; have hfgew101 := blk_frozen Bge.out 1) | (go_at_call 52; (with_reducible refine (impl_EntryRight.calls k _ _ l2_0 _ _ l2_1 true _ ?s0 HC20.out ?s1 HC21.out A2_.out).mono ?_); (case s0 => exact KCz (Kd.C_below HR20.out HB.out)); (case s1 => exact KCz (Kd.C_below HR21.out HB.out)); rintro e w11 ⟨rfl, hb⟩; have n0_ := Aside0.mk (blk_below (g := gl) (o := .cells #[.slice A0 l0.length c0] 32 (0, 0)) Bgl.out hb); clear Bgl; have Bgl := n0_; clear n0_; have n1_ := Aside0.mk (blk_below (g := gw) (o := .cells #[.string a1] 9 (0, 0)) Bgw.out hb); clear Bgw; have Bgw := n1_; clear n1_; have n2_ := Aside0.mk (blk_below (g := ge) (o := .cells #[.slice A2_0 l2_0.length c2_0, .slice A2_1 l2_1.length c2_1] 37 (0, 0)) Bge.out hb); clear Bge; have Bge := n2_; clear n2_; have n9_ := Aside0.mk (below_step HB.out hb); clear HB; have HB := n9_; clear n9_; clear hb; have hcglw110 := C1z Bgl; have hfglw110 := blk_frozen Bgl.out 0; have hcgww110 := C1z Bgw; have hfgww110 := blk_frozen Bgw.out 0; have hcgew110 := C1z Bge; have hfgew110 := blk_frozen Bge.out 0; have hcgew111 := C2z Bge; have hfgew111 := blk_frozen Bge.out 1) | (go_at_call 53; (with_reducible refine (impl_NameRight.calls a1 true _ A3_.out).mono ?_); rintro e w12 ⟨rfl, hb⟩; have n0_ := Aside0.mk (blk_below (g := gl) (o := .cells #[.slice A0 l0.length c0] 32 (0, 0)) Bgl.out hb); clear Bgl; have Bgl := n0_; clear n0_; have n1_ := Aside0.mk (blk_below (g := gw) (o := .cells #[.string a1] 9 (0, 0)) Bgw.out hb); clear Bgw; have Bgw := n1_; clear n1_; have n2_ := Aside0.mk (blk_below (g := ge) (o := .cells #[.slice A2_0 l2_0.length c2_0, .slice A2_1 l2_1.length c2_1] 37 (0, 0)) Bge.out hb); clear Bge; have Bge := n2_; clear n2_; have n9_ := Aside0.mk (below_step HB.out hb); clear HB; have HB := n9_; clear n9_; clear hb; have hcglw120 := C1z Bgl; have hfglw120 := blk_frozen Bgl.out 0; have hcgww120 := C1z Bgw; have hfgww120 := blk_frozen Bgw.out 0; have hcgew120 := C1z Bge; have hfgew120 := blk_frozen Bge.out 0; have hcgew121 := C2z Bge; have hfgew121 := blk_frozen Bge.out 1) | (go_at_call 54; (with_reducible refine (impl_MayChange.index1c k _ _ l3 t4 _ ?s0 A4_.out).mono ?_); (case s0 => exact KCz (Kd.C_below HR3.out HB.out)); rintro e w13 ⟨rfl, hb⟩; have n0_ := Aside0.mk (blk_below (g := gl) (o := .cells #[.slice A0 l0.length c0] 32 (0, 0)) Bgl.out hb); clear Bgl; have Bgl := n0_; clear n0_; have n1_ := Aside0.mk (blk_below (g := gw) (o := .cells #[.string a1] 9 (0, 0)) Bgw.out hb); clear Bgw; have Bgw := n1_; clear n1_; have n2_ := Aside0.mk (blk_below (g := ge) (o := .cells #[.slice A2_0 l2_0.length c2_0, .slice A2_1 l2_1.length c2_1] 37 (0, 0)) Bge.out hb); clear Bge; have Bge := n2_; clear n2_; have n9_ := Aside0.mk (below_step HB.out hb); clear HB; have HB := n9_; clear n9_; clear hb; have hcglw130 := C1z Bgl; have hfglw130 := blk_frozen Bgl.out 0; have hcgww130 := C1z Bgw; have hfgww130 := blk_frozen Bgw.out 0; have hcgew130 := C1z Bge; have hfgew130 := blk_frozen Bge.out 0; have hcgew131 := C2z Bge; have hfgew131 := blk_frozen Bge.out 1))
      go_ret
      exact ⟨by first | rfl | (simp; done) | (simp [*]; done), HBa⟩
     rw [if_neg d4] at h
     have d4b : decide (0 ≤ t4) = false := decide_eq_false d4
     clear d4
     obtain ⟨t5, A5_0, h⟩ := Option.bind_eq_some_iff.1 h
     have A5_ := Aside0.mk A5_0
     clear A5_0
     obtain rfl := Option.some.inj h
     clear h
     go_enter Tryz.func14, Tryz.ntmps14
     go_wp2_with (first | ((with_reducible refine gate_dst (N := 4) rfl ?_); (try (refine gate_guard (by rfl) ?_; dsimp only)); refine box_event ?hg (N := 4) ?hd (cs := #[.slice A0 l0.length c0]) (t := 32) ?hr ?_; (case hd => rfl); (case hg => rfl); (case hr => first | (go_simp; done) | (go_simp; rfl)); intro gl hg w3 hbox hb; have Ggl := Aside0.mk ((by rw [hg]; exact (below_size HB.out)) : w.heap.size ≤ gl); have n9_ := Aside0.mk (below_step HB.out hb); clear HB; have HB := n9_; clear n9_; have Bgl := Aside0.mk hbox; clear hb hbox hg; have hcglw30 := C1z Bgl; have hfglw30 := blk_frozen Bgl.out 0) | ((with_reducible refine gate_dst (N := 5) rfl ?_); (try (refine gate_guard (by rfl) ?_; dsimp only)); refine box_event ?hg (N := 5) ?hd (cs := #[.string a1]) (t := 9) ?hr ?_; (case hd => rfl); (case hg => rfl); (case hr => first | (go_simp; done) | (go_simp; rfl)); intro gw hg w4 hbox hb; have Ggw := Aside0.mk ((by rw [hg]; exact (below_size HB.out)) : w.heap.size ≤ gw); have Ngl_gw := Aside0.mk ((by rw [hg]; exact Nat.ne_of_lt (blk_lt (g := gl) (o := .cells #[.slice A0 l0.length c0] 32 (0, 0)) Bgl.out)) : gl ≠ gw); have n0_ := Aside0.mk (blk_below (g := gl) (o := .cells #[.slice A0 l0.length c0] 32 (0, 0)) Bgl.out hb); clear Bgl; have Bgl := n0_; clear n0_; have n9_ := Aside0.mk (below_step HB.out hb); clear HB; have HB := n9_; clear n9_; have Bgw := Aside0.mk hbox; clear hb hbox hg; have hcglw40 := C1z Bgl; have hfglw40 := blk_frozen Bgl.out 0; have hcgww40 := C1z Bgw; have hfgww40 := blk_frozen Bgw.out 0) | ((with_reducible refine gate_dst (N := 6) rfl ?_); (try (refine gate_guard (by rfl) ?_; dsimp only)); refine box_event ?hg (N := 6) ?hd (cs := #[.slice A2_0 l2_0.length c2_0, .slice A2_1 l2_1.length c2_1]) (t := 37) ?hr ?_; (case hd => rfl); (case hg => rfl); (case hr => first | (go_simp; done) | (go_simp; rfl)); intro ge hg w5 hbox hb; have Gge := Aside0.mk ((by rw [hg]; exact (below_size HB.out)) : w.heap.size ≤ ge); have Ngl_ge := Aside0.mk ((by rw [hg]; exact Nat.ne_of_lt (blk_lt (g := gl) (o := .cells #[.slice A0 l0.length c0] 32 (0, 0)) Bgl.out)) : gl ≠ ge); have n0_ := Aside0.mk (blk_below (g := gl) (o := .cells #[.slice A0 l0.length c0] 32 (0, 0)) Bgl.out hb); clear Bgl; have Bgl := n0_; clear n0_; have Ngw_ge := Aside0.mk ((by rw [hg]; exact Nat.ne_of_lt (blk_lt (g := gw) (o := .cells #[.string a1] 9 (0, 0)) Bgw.out)) : gw ≠ ge); have n1_ := Aside0.mk (blk_below (g := gw) (o := .cells #[.string a1] 9 (0, 0)) Bgw.out hb); clear Bgw; have Bgw := n1_; clear n1_; have n9_ := Aside0.mk (below_step HB.out hb); clear HB; have HB := n9_; clear n9_; have Bge := Aside0.mk hbox; clear hb hbox hg; have hcglw50 := C1z Bgl; have hfglw50 := blk_frozen Bgl.out 0; have hcgww50 := C1z Bgw; have hfgww50 := blk_frozen Bgw.out 0; have hcgew50 := C1z Bge; have hfgew50 := blk_frozen Bge.out 0; have hcgew51 := C2z Bge; have hfgew51 := blk_frozen Bge.out 1) | (go_at_call 51; (with_reducible refine (impl_isMany_string.calls _ _ l3 false _ ?s0 HC3.out A0_.out).mono ?_); (case s0 => exact KCz (Kd.C_below HR3.out HB.out)); rintro e w9 ⟨rfl, ⟨nd, rfl⟩⟩; have n0_ := Aside0.mk (blk_drewN Bgl.out nd); clear Bgl; have Bgl := n0_; clear n0_; have n1_ := Aside0.mk (blk_drewN Bgw.out nd); clear Bgw; have Bgw := n1_; clear n1_; have n2_ := Aside0.mk (blk_drewN Bge.out nd); clear Bge; have Bge := n2_; clear n2_; have n9_ := Aside0.mk (pw_below_drewN HB.out nd); clear HB; have HB := n9_; clear n9_; have hcglw90 := C1z Bgl; have hfglw90 := blk_frozen Bgl.out 0; have hcgww90 := C1z Bgw; have hfgww90 := blk_frozen Bgw.out 0; have hcgew90 := C1z Bge; have hfgew90 := blk_frozen Bge.out 0; have hcgew91 := C2z Bge; have hfgew91 := blk_frozen Bge.out 1) | (go_at_call 21; (with_reducible refine (impl_AclRight.calls k _ _ l0 true _ ?s0 HC0.out A1_.out).mono ?_); (case s0 => exact KCz (Kd.C_below HR0.out HB.out)); rintro e w10 ⟨rfl, hb⟩; have n0_ := Aside0.mk (blk_below (g := gl) (o := .cells #[.slice A0 l0.length c0] 32 (0, 0)) Bgl.out hb); clear Bgl; have Bgl := n0_; clear n0_; have n1_ := Aside0.mk (blk_below (g := gw) (o := .cells #[.string a1] 9 (0, 0)) Bgw.out hb); clear Bgw; have Bgw := n1_; clear n1_; have n2_ := Aside0.mk (blk_below (g := ge) (o := .cells #[.slice A2_0 l2_0.length c2_0, .slice A2_1 l2_1.length c2_1] 37 (0, 0)) Bge.out hb); clear Bge; have Bge := n2_; clear n2_; have n9_ := Aside0.mk (below_step HB.out hb); clear HB; have HB := n9_; clear n9_; clear hb; have hcglw100 := C1z Bgl; have hfglw100 := blk_frozen Bgl.out 0; have hcgww100 := C1z Bgw; have hfgww100 := blk_frozen Bgw.out 0; have hcgew100 := C1z Bge; have hfgew100 := blk_frozen Bge.out 0; have hcgew101 := C2z Bge; have hfgew101 := blk_frozen Bge.out 1) | (go_at_call 52; (with_reducible refine (impl_EntryRight.calls k _ _ l2_0 _ _ l2_1 true _ ?s0 HC20.out ?s1 HC21.out A2_.out).mono ?_); (case s0 => exact KCz (Kd.C_below HR20.out HB.out)); (case s1 => exact KCz (Kd.C_below HR21.out HB.out)); rintro e w11 ⟨rfl, hb⟩; have n0_ := Aside0.mk (blk_below (g := gl) (o := .cells #[.slice A0 l0.length c0] 32 (0, 0)) Bgl.out hb); clear Bgl; have Bgl := n0_; clear n0_; have n1_ := Aside0.mk (blk_below (g := gw) (o := .cells #[.string a1] 9 (0, 0)) Bgw.out hb); clear Bgw; have Bgw := n1_; clear n1_; have n2_ := Aside0.mk (blk_below (g := ge) (o := .cells #[.slice A2_0 l2_0.length c2_0, .slice A2_1 l2_1.length c2_1] 37 (0, 0)) Bge.out hb); clear Bge; have Bge := n2_; clear n2_; have n9_ := Aside0.mk (below_step HB.out hb); clear HB; have HB := n9_; clear n9_; clear hb; have hcglw110 := C1z Bgl; have hfglw110 := blk_frozen Bgl.out 0; have hcgww110 := C1z Bgw; have hfgww110 := blk_frozen Bgw.out 0; have hcgew110 := C1z Bge; have hfgew110 := blk_frozen Bge.out 0; have hcgew111 := C2z Bge; have hfgew111 := blk_frozen Bge.out 1) | (go_at_call 53; (with_reducible refine (impl_NameRight.calls a1 true _ A3_.out).mono ?_); rintro e w12 ⟨rfl, hb⟩; have n0_ := Aside0.mk (blk_below (g := gl) (o := .cells #[.slice A0 l0.length c0] 32 (0, 0)) Bgl.out hb); clear Bgl; have Bgl := n0_; clear n0_; have n1_ := Aside0.mk (blk_below (g := gw) (o := .cells #[.string a1] 9 (0, 0)) Bgw.out hb); clear Bgw; have Bgw := n1_; clear n1_; have n2_ := Aside0.mk (blk_below (g := ge) (o := .cells #[.slice A2_0 l2_0.length c2_0, .slice A2_1 l2_1.length c2_1] 37 (0, 0)) Bge.out hb); clear Bge; have Bge := n2_; clear n2_; have n9_ := Aside0.mk (below_step HB.out hb); clear HB; have HB := n9_; clear n9_; clear hb; have hcglw120 := C1z Bgl; have hfglw120 := blk_frozen Bgl.out 0; have hcgww120 := C1z Bgw; have hfgww120 := blk_frozen Bgw.out 0; have hcgew120 := C1z Bge; have hfgew120 := blk_frozen Bge.out 0; have hcgew121 := C2z Bge; have hfgew121 := blk_frozen Bge.out 1) | (go_at_call 54; (with_reducible refine (impl_MayChange.index1c k _ _ l3 t4 _ ?s0 A4_.out).mono ?_); (case s0 => exact KCz (Kd.C_below HR3.out HB.out)); rintro e w13 ⟨rfl, hb⟩; have n0_ := Aside0.mk (blk_below (g := gl) (o := .cells #[.slice A0 l0.length c0] 32 (0, 0)) Bgl.out hb); clear Bgl; have Bgl := n0_; clear n0_; have n1_ := Aside0.mk (blk_below (g := gw) (o := .cells #[.string a1] 9 (0, 0)) Bgw.out hb); clear Bgw; have Bgw := n1_; clear n1_; have n2_ := Aside0.mk (blk_below (g := ge) (o := .cells #[.slice A2_0 l2_0.length c2_0, .slice A2_1 l2_1.length c2_1] 37 (0, 0)) Bge.out hb); clear Bge; have Bge := n2_; clear n2_; have n9_ := Aside0.mk (below_step HB.out hb); clear HB; have HB := n9_; clear n9_; clear hb; have hcglw130 := C1z Bgl; have hfglw130 := blk_frozen Bgl.out 0; have hcgww130 := C1z Bgw; have hfgww130 := blk_frozen Bgw.out 0; have hcgew130 := C1z Bge; have hfgew130 := blk_frozen Bge.out 0; have hcgew131 := C2z Bge; have hfgew131 := blk_frozen Bge.out 1) | (go_at_call 54; (with_reducible refine (impl_MayChange.index2c k gl gw ge A0 c0 l0 a1 A2_0 c2_0 l2_0 _ _ l3 t5 _ ?sl ?sw ?sd ?s0 HC0.out ?s1 HC20.out ?s2 A5_.out).mono ?_); (case sl => exact (blk_cell Bgl.out 0).trans rfl); (case sw => exact (blk_cell Bgw.out 0).trans rfl); (case sd => exact (blk_cell Bge.out 0).trans rfl); (case s0 => exact KCz (Kd.C_below HR0.out HB.out)); (case s1 => exact KCz (Kd.C_below HR20.out HB.out)); (case s2 => exact KCz (Kd.C_below HR3.out HB.out)); rintro e w14 ⟨rfl, hb⟩; have n0_ := Aside0.mk (blk_below (g := gl) (o := .cells #[.slice A0 l0.length c0] 32 (0, 0)) Bgl.out hb); clear Bgl; have Bgl := n0_; clear n0_; have n1_ := Aside0.mk (blk_below (g := gw) (o := .cells #[.string a1] 9 (0, 0)) Bgw.out hb); clear Bgw; have Bgw := n1_; clear n1_; have n2_ := Aside0.mk (blk_below (g := ge) (o := .cells #[.slice A2_0 l2_0.length c2_0, .slice A2_1 l2_1.length c2_1] 37 (0, 0)) Bge.out hb); clear Bge; have Bge := n2_; clear n2_; have n9_ := Aside0.mk (below_step HB.out hb); clear HB; have HB := n9_; clear n9_; clear hb; have hcglw140 := C1z Bgl; have hfglw140 := blk_frozen Bgl.out 0; have hcgww140 := C1z Bgw; have hfgww140 := blk_frozen Bgw.out 0; have hcgew140 := C1z Bge; have hfgew140 := blk_frozen Bge.out 0; have hcgew141 := C2z Bge; have hfgew141 := blk_frozen Bge.out 1))
     go_ret
     exact ⟨by first | rfl | (simp; done) | (simp [*]; done), HBa⟩
def laws_eqStringS.l0 : Nat → List ByteArray → List ByteArray → Int → Option (Bool)
 | 0, _, _, _ => none
 | k + 1, x0, x1, x5 => if x5 < (x0.length : Int) then (if 0 ≤ x5 then (if x5 < (x1.length : Int) then (if (rdOf ByteArray.empty x0 x5).toList = (rdOf ByteArray.empty x1 x5).toList then (laws_eqStringS.l0 k x0 x1 (wrap64 (x5 + 1))) else (some false)) else (none)) else (none)) else (some true)
def laws_eqStringS.f (k : Nat) (l0 : List ByteArray) (l1 : List ByteArray) : Option (Bool) := if (l0.length : Int) = (l1.length : Int) then (laws_eqStringS.l0 k l0 l1 0) else (some false)
theorem laws_eqStringS.mono_l : ∀ k, (∀ y0 y1 y2, LeO (laws_eqStringS.l0 k y0 y1 y2) (laws_eqStringS.l0 (k + 1) y0 y1 y2))
 | 0 => fun _ _ _ r h => by simp [laws_eqStringS.l0] at h
 | k + 1 => by
  have ih0 := laws_eqStringS.mono_l k
  ·intro y0 y1 y2
   unfold laws_eqStringS.l0
   repeat' first
   | (with_reducible exact ih0 _ _ _)
   | (with_reducible exact LeO.refl _)
   | (with_reducible exact LeO.none _)
   | (with_reducible refine LeO.ite ?_ ?_)
   | (with_reducible refine LeO.bind ?_ (fun _ => ?_))
   | exact ih0 _ _ _
   | exact LeO.none _
   | refine LeO.ite ?_ ?_
   | refine LeO.bind ?_ (fun _ => ?_)
theorem laws_eqStringS.mono : ∀ a0 a1 k, LeO (laws_eqStringS.f k a0 a1) (laws_eqStringS.f (k + 1) a0 a1) := by
 intro a0 a1 k
 have ih0 := laws_eqStringS.mono_l k
 unfold laws_eqStringS.f
 repeat' first
   | (with_reducible exact ih0 _ _ _)
   | (with_reducible exact LeO.refl _)
   | (with_reducible exact LeO.none _)
   | (with_reducible refine LeO.ite ?_ ?_)
   | (with_reducible refine LeO.bind ?_ (fun _ => ?_))
   | exact ih0 _ _ _
   | exact LeO.none _
   | refine LeO.ite ?_ ?_
   | refine LeO.bind ?_ (fun _ => ?_)
set_option maxHeartbeats 8000000 in
set_option maxRecDepth 100000 in
theorem laws_eqStringS.calls (k : Nat) (A0 : Option Addr) (c0 : Nat) (l0 : List ByteArray) (A1 : Option Addr) (c1 : Nat) (l1 : List ByteArray) (r : Bool) (w : World) (hr0 : Kd.C Kd.string w A0 l0.length l0) (hc0 : l0.length ≤ c0) (hr1 : Kd.C Kd.string w A1 l1.length l1) (hc1 : l1.length ≤ c1) (h : laws_eqStringS.f k l0 l1 = some r) :
  Calls Tryz.prog 17 #[.slice A0 l0.length c0, .slice A1 l1.length c1] w fun e w' => e = .returned (.bool r) ∧ Drawn0 w w' := by
 have HR0 := Aside0.mk hr0
 have HC0 := Aside0.mk hc0
 clear hr0 hc0
 have HR1 := Aside0.mk hr1
 have HC1 := Aside0.mk hc1
 clear hr1 hc1
 have H : (if (l0.length : Int) = (l1.length : Int) then (laws_eqStringS.l0 k l0 l1 0) else (some false)) = some r := h
 clear h
 by_cases c3 : (l0.length : Int) = (l1.length : Int)
 rotate_left
 ·rw [if_neg c3] at H
  have c3b0 : ((l0.length : Int) == (l1.length : Int)) = false := beq_eq_false_iff_ne.mpr c3
  have c3b1 : ((l0.length : Int) != (l1.length : Int)) = true := bne_iff_ne.mpr c3
  have c3b2 : (l0.length == l1.length) = false := by first | simpa using c3 | (simp at c3 ⊢; omega)
  obtain rfl := Option.some.inj H
  go_enter Tryz.func17, Tryz.ntmps17
  go_wp2
  repeat (go_quiet (fail); try go_wp2)
  go_ret
  exact ⟨EZb, DRz⟩
 rw [if_pos c3] at H
 have c3b0 : ((l0.length : Int) == (l1.length : Int)) = true := beq_iff_eq.mpr c3
 have c3b1 : ((l0.length : Int) != (l1.length : Int)) = false := bne_eq_false_iff_eq.mpr c3
 have c3b2 : (l0.length == l1.length) = true := by first | simpa using c3 | (simp at c3 ⊢; omega)
 clear c3
 have H' := Aside0.mk H
 clear H
 go_enter Tryz.func17, Tryz.ntmps17
 go_wp2
 repeat (go_quiet (fail); try go_wp2)
 go_loopg [5] k (fun kq v5 w' => ∃ (x5_1 : Int), v5 = .int .i64 x5_1 ∧ Aside0 (laws_eqStringS.l0 kq l0 l1 x5_1 = some r) ∧ Aside0 (kq ≤ k) ∧ Drawn0 w w')
 case atStart => exact ⟨(0), EZc, H', ⟨Nat.le_refl _⟩, DRz⟩
 case round =>
  clear H'
  try clear c1
  try clear p2
  try clear c3
  try clear c3b0
  try clear c3b1
  try clear c3b2
  obtain ⟨x5_1, rfl, HA, HK1, ⟨m1, rfl⟩⟩ := hrel
  cases gk with
  | zero => exact absurd HA.out (by simp [laws_eqStringS.l0])
  | succ k1 =>
   have H := HA.out
   clear HA
   simp only [laws_eqStringS.l0] at H
   by_cases c4 : x5_1 < (l0.length : Int)
   rotate_left
   ·rw [if_neg c4] at H
    have c4b0 : decide (x5_1 < (l0.length : Int)) = false := decide_eq_false c4
    clear c4
    obtain rfl := Option.some.inj H
    go_wp2
    repeat (go_quiet (fail); try go_wp2)
    go_ret
    exact ⟨EZb, DRz⟩
   rw [if_pos c4] at H
   have c4b0 : decide (x5_1 < (l0.length : Int)) = true := decide_eq_true c4
   clear c4
   by_cases c5 : 0 ≤ x5_1
   rotate_left
   ·rw [if_neg c5] at H
    exact absurd H (by simp)
   rw [if_pos c5] at H
   have c5b0 : decide (0 ≤ x5_1) = true := decide_eq_true c5
   clear c5
   by_cases c6 : x5_1 < (l1.length : Int)
   rotate_left
   ·rw [if_neg c6] at H
    exact absurd H (by simp)
   rw [if_pos c6] at H
   have c6b0 : decide (x5_1 < (l1.length : Int)) = true := decide_eq_true c6
   clear c6
   by_cases c7 : (rdOf ByteArray.empty l0 x5_1).toList = (rdOf ByteArray.empty l1 x5_1).toList
   rotate_left
   ·rw [if_neg c7] at H
    have c7b0 : ((rdOf ByteArray.empty l0 x5_1).toList == (rdOf ByteArray.empty l1 x5_1).toList) = false := beq_eq_false_iff_ne.mpr c7
    have c7b1 : ((rdOf ByteArray.empty l0 x5_1).toList != (rdOf ByteArray.empty l1 x5_1).toList) = true := bne_iff_ne.mpr c7
    obtain rfl := Option.some.inj H
    have p332 : 0 ≤ (x5_1 : Int) := ODz
    have q332 : x5_1 < (l0.length : Int) := ODz
    obtain ⟨ad332, e332, hx332_0⟩ := Kd.at_string HR0.out x5_1 p332 q332
    cases e332
    replace p332 := eq_true p332
    replace q332 := eq_true q332
    have p333 : 0 ≤ (x5_1 : Int) := ODz
    have q333 : x5_1 < (l1.length : Int) := ODz
    obtain ⟨ad333, e333, hx333_0⟩ := Kd.at_string HR1.out x5_1 p333 q333
    cases e333
    replace p333 := eq_true p333
    replace q333 := eq_true q333
    go_wp2
    repeat (go_quiet (fail); try go_wp2)
    go_ret
    exact ⟨EZb, DRz⟩
   rw [if_pos c7] at H
   have c7b0 : ((rdOf ByteArray.empty l0 x5_1).toList == (rdOf ByteArray.empty l1 x5_1).toList) = true := beq_iff_eq.mpr c7
   have c7b1 : ((rdOf ByteArray.empty l0 x5_1).toList != (rdOf ByteArray.empty l1 x5_1).toList) = false := bne_eq_false_iff_eq.mpr c7
   clear c7
   have H' := Aside0.mk H
   clear H
   have p332 : 0 ≤ (x5_1 : Int) := ODz
   have q332 : x5_1 < (l0.length : Int) := ODz
   obtain ⟨ad332, e332, hx332_0⟩ := Kd.at_string HR0.out x5_1 p332 q332
   cases e332
   replace p332 := eq_true p332
   replace q332 := eq_true q332
   have p333 : 0 ≤ (x5_1 : Int) := ODz
   have q333 : x5_1 < (l1.length : Int) := ODz
   obtain ⟨ad333, e333, hx333_0⟩ := Kd.at_string HR1.out x5_1 p333 q333
   cases e333
   replace p333 := eq_true p333
   replace q333 := eq_true q333
   go_wp2
   repeat (go_quiet (fail); try go_wp2)
   go_roundg k1
   case measure => have := HK1.out; omega
   case rel => exact ⟨(wrap64 (x5_1 + 1)), EZc, H', ⟨by have := HK1.out; omega⟩, DRz⟩
def laws_eqRdn.f (a0_0 : ByteArray) (a0_1 : ByteArray) (a1_0 : ByteArray) (a1_1 : ByteArray) : Option (Bool) := if a0_0.toList = a1_0.toList then (if a0_1.toList = a1_1.toList then (some true) else (some false)) else (some false)
set_option maxHeartbeats 8000000 in
set_option maxRecDepth 100000 in
theorem laws_eqRdn.calls (a0_0 : ByteArray) (a0_1 : ByteArray) (a1_0 : ByteArray) (a1_1 : ByteArray) (r : Bool) (w : World) (h : laws_eqRdn.f a0_0 a0_1 a1_0 a1_1 = some r) :
  Calls Tryz.prog 103 #[.agg #[.string a0_0, .string a0_1], .agg #[.string a1_0, .string a1_1]] w fun e w' => e = .returned (.bool r) ∧ Below w.heap.size w w' := by
 have hu98 := Tryz.underlying98
 have HB := Aside0.mk (Below.refl w.heap.size w)
 have H : (if a0_0.toList = a1_0.toList then (if a0_1.toList = a1_1.toList then (some true) else (some false)) else (some false)) = some r := h
 clear h
 by_cases c3 : a0_0.toList = a1_0.toList
 rotate_left
 ·rw [if_neg c3] at H
  have c3b0 : (a0_0.toList == a1_0.toList) = false := beq_eq_false_iff_ne.mpr c3
  have c3b1 : (a0_0.toList != a1_0.toList) = true := bne_iff_ne.mpr c3
  obtain rfl := Option.some.inj H
  go_enter Tryz.func103, Tryz.ntmps103
  go_wp2_with (first | ((with_reducible refine gate_dst (N := 2) rfl ?_); refine box_event ?hg (N := 2) ?hd (cs := #[.string a0_0, .string a0_1]) (t := 98) ?hr ?_; (case hd => rfl); (case hg => rfl); (case hr => first | (go_simp; done) | (go_simp; rfl)); intro gb334 hg w15 hbox hb; have n0_ := Aside0.mk (below_step HBa hb); have n1_ := Aside0.mk (hbox); have n2_ := BSz w hg HBa; have n3_ := BSz w hg HBa; clear HB; have HB := n0_; have BK334 := n1_; have GW334 := n2_; have GE334 := n3_; clear n0_ n1_ n2_ n3_; clear hb hbox hg) | ((with_reducible refine gate_dst (N := 3) rfl ?_); refine box_event ?hg (N := 3) ?hd (cs := #[.string a1_0, .string a1_1]) (t := 98) ?hr ?_; (case hd => rfl); (case hg => rfl); (case hr => first | (go_simp; done) | (go_simp; rfl)); intro gb335 hg w16 hbox hb; have n0_ := BBz BK334 hb; have n1_ := Aside0.mk (below_step (HBb GE334) hb); have n2_ := Aside0.mk (hbox); have n3_ := BSz w hg (HBb GE334); have n4_ := BSz w hg (HBb GE334); have n5_ := BNz BK334 hg; have n6_ := BMz BK334 hg; clear BK334; clear HB; have BK334 := n0_; have HB := n1_; have BK335 := n2_; have GW335 := n3_; have GE335 := n4_; have NB334_335 := n5_; have NB335_334 := n6_; clear n0_ n1_ n2_ n3_ n4_ n5_ n6_; clear hb hbox hg; have hnb17 := NB334_335.out; have hnc17 := NB335_334.out; have hcz18_0 := C1z BK334; have hcz18_1 := C2z BK334; have hfz18_0 := blk_frozen BK334.out 0; have hfz18_1 := blk_frozen BK334.out 1; have hcz19_0 := C1z BK335; have hcz19_1 := C2z BK335; have hfz19_0 := blk_frozen BK335.out 0; have hfz19_1 := blk_frozen BK335.out 1))
  go_ret
  exact ⟨EZa, HBc GE334 GE335⟩
 rw [if_pos c3] at H
 have c3b0 : (a0_0.toList == a1_0.toList) = true := beq_iff_eq.mpr c3
 have c3b1 : (a0_0.toList != a1_0.toList) = false := bne_eq_false_iff_eq.mpr c3
 clear c3
 by_cases c4 : a0_1.toList = a1_1.toList
 ·rw [if_pos c4] at H
  have c4b0 : (a0_1.toList == a1_1.toList) = true := beq_iff_eq.mpr c4
  have c4b1 : (a0_1.toList != a1_1.toList) = false := bne_eq_false_iff_eq.mpr c4
  clear c4
  obtain rfl := Option.some.inj H
  go_enter Tryz.func103, Tryz.ntmps103
  go_wp2_with (first | ((with_reducible refine gate_dst (N := 2) rfl ?_); refine box_event ?hg (N := 2) ?hd (cs := #[.string a0_0, .string a0_1]) (t := 98) ?hr ?_; (case hd => rfl); (case hg => rfl); (case hr => first | (go_simp; done) | (go_simp; rfl)); intro gb334 hg w5 hbox hb; have n0_ := Aside0.mk (below_step HBa hb); have n1_ := Aside0.mk (hbox); have n2_ := BSz w hg HBa; have n3_ := BSz w hg HBa; clear HB; have HB := n0_; have BK334 := n1_; have GW334 := n2_; have GE334 := n3_; clear n0_ n1_ n2_ n3_; clear hb hbox hg) | ((with_reducible refine gate_dst (N := 3) rfl ?_); refine box_event ?hg (N := 3) ?hd (cs := #[.string a1_0, .string a1_1]) (t := 98) ?hr ?_; (case hd => rfl); (case hg => rfl); (case hr => first | (go_simp; done) | (go_simp; rfl)); intro gb335 hg w6 hbox hb; have n0_ := BBz BK334 hb; have n1_ := Aside0.mk (below_step (HBb GE334) hb); have n2_ := Aside0.mk (hbox); have n3_ := BSz w hg (HBb GE334); have n4_ := BSz w hg (HBb GE334); have n5_ := BNz BK334 hg; have n6_ := BMz BK334 hg; clear BK334; clear HB; have BK334 := n0_; have HB := n1_; have BK335 := n2_; have GW335 := n3_; have GE335 := n4_; have NB334_335 := n5_; have NB335_334 := n6_; clear n0_ n1_ n2_ n3_ n4_ n5_ n6_; clear hb hbox hg; have hnb7 := NB334_335.out; have hnc7 := NB335_334.out; have hcz8_0 := C1z BK334; have hcz8_1 := C2z BK334; have hfz8_0 := blk_frozen BK334.out 0; have hfz8_1 := blk_frozen BK334.out 1; have hcz9_0 := C1z BK335; have hcz9_1 := C2z BK335; have hfz9_0 := blk_frozen BK335.out 0; have hfz9_1 := blk_frozen BK335.out 1))
  go_ret
  exact ⟨EZa, HBc GE334 GE335⟩
 rw [if_neg c4] at H
 have c4b0 : (a0_1.toList == a1_1.toList) = false := beq_eq_false_iff_ne.mpr c4
 have c4b1 : (a0_1.toList != a1_1.toList) = true := bne_iff_ne.mpr c4
 obtain rfl := Option.some.inj H
 go_enter Tryz.func103, Tryz.ntmps103
 go_wp2_with (first | ((with_reducible refine gate_dst (N := 2) rfl ?_); refine box_event ?hg (N := 2) ?hd (cs := #[.string a0_0, .string a0_1]) (t := 98) ?hr ?_; (case hd => rfl); (case hg => rfl); (case hr => first | (go_simp; done) | (go_simp; rfl)); intro gb334 hg w10 hbox hb; have n0_ := Aside0.mk (below_step HBa hb); have n1_ := Aside0.mk (hbox); have n2_ := BSz w hg HBa; have n3_ := BSz w hg HBa; clear HB; have HB := n0_; have BK334 := n1_; have GW334 := n2_; have GE334 := n3_; clear n0_ n1_ n2_ n3_; clear hb hbox hg) | ((with_reducible refine gate_dst (N := 3) rfl ?_); refine box_event ?hg (N := 3) ?hd (cs := #[.string a1_0, .string a1_1]) (t := 98) ?hr ?_; (case hd => rfl); (case hg => rfl); (case hr => first | (go_simp; done) | (go_simp; rfl)); intro gb335 hg w11 hbox hb; have n0_ := BBz BK334 hb; have n1_ := Aside0.mk (below_step (HBb GE334) hb); have n2_ := Aside0.mk (hbox); have n3_ := BSz w hg (HBb GE334); have n4_ := BSz w hg (HBb GE334); have n5_ := BNz BK334 hg; have n6_ := BMz BK334 hg; clear BK334; clear HB; have BK334 := n0_; have HB := n1_; have BK335 := n2_; have GW335 := n3_; have GE335 := n4_; have NB334_335 := n5_; have NB335_334 := n6_; clear n0_ n1_ n2_ n3_ n4_ n5_ n6_; clear hb hbox hg; have hnb12 := NB334_335.out; have hnc12 := NB335_334.out; have hcz13_0 := C1z BK334; have hcz13_1 := C2z BK334; have hfz13_0 := blk_frozen BK334.out 0; have hfz13_1 := blk_frozen BK334.out 1; have hcz14_0 := C1z BK335; have hcz14_1 := C2z BK335; have hfz14_0 := blk_frozen BK335.out 0; have hfz14_1 := blk_frozen BK335.out 1))
 go_ret
 exact ⟨EZa, HBc GE334 GE335⟩
end Go.Proofs.YtgkjlfimjnhbbaaGreatDoor.PFnExactMayChange
