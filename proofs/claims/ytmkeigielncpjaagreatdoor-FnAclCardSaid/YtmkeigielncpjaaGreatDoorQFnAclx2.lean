import Derived.Test.YtmkeigielncpjaaGreatDoorQFnAclx0
import Derived.Test.YtmkeigielncpjaaGreatDoorQFnAclx1
namespace Go.Proofs.YtmkeigielncpjaaGreatDoor.PFnAcl
open Go.RowKit Go.Proofs.YtmkeigielncpjaaGreatDoorW.PrintWords Go.Proofs.YtmkeigielncpjaaGreatDoorW.PrintLast Go.Proofs.YtmkeigielncpjaaGreatDoorW.PrintMore
set_option maxRecDepth 100000
set_option maxHeartbeats 16000000
attribute [local go_sem] max2_int min2_int max_two min_two max_three min_three max_four min_four
set_option linter.unusedVariables false
set_option linter.unusedSimpArgs false
def Qt.l0 : Nat → List Int → Int → List Int → Int → Int → Int → Option (List Int × Int × Int × Int)
 | 0, _, _, _, _, _, _ => none
 | k + 1, x0, x4, x134000, x134001, x134002, x134003 => if x4 < (x0.length : Int) then (if x4 < 64 then (if 0 ≤ x4 then (Qt.l0 k x0 (wrap64 (x4 + 1)) x134000 x134001 (IntKind.u64.wrap ((Go.bits .xor .u64 x134002 (IntKind.u64.wrap (rd x0 x4))) * 1099511628211)) x134003) else (none)) else (if (wrap64 ((x0.length : Int) / 20)) > 12 then (some (x134000, x134001, x134002, 12)) else (some (x134000, x134001, x134002, wrap64 ((x0.length : Int) / 20))))) else (if (wrap64 ((x0.length : Int) / 20)) > 12 then (some (x134000, x134001, x134002, 12)) else (some (x134000, x134001, x134002, wrap64 ((x0.length : Int) / 20))))
def Qt.f (k : Nat) (l0 : List Int) : Option (List Int × Int × Int × Int) := Qt.l0 k l0 0 l0 0 88172645463325252 0
theorem Qt.mono_l : ∀ k, (∀ y0 y1 y2 y3 y4 y5, LeO (Qt.l0 k y0 y1 y2 y3 y4 y5) (Qt.l0 (k + 1) y0 y1 y2 y3 y4 y5))
 | 0 => fun _ _ _ _ _ _ r h => by simp [Qt.l0] at h
 | k + 1 => by
  have ih0 := Qt.mono_l k
  ·intro y0 y1 y2 y3 y4 y5
   unfold Qt.l0
   with_reducible repeat' first | exact ih0 _ _ _ _ _ _ | exact LeO.refl _ | exact LeO.none _ | refine LeO.ite ?_ ?_ | refine LeO.bind ?_ (fun _ => ?_)
theorem Qt.mono : ∀ a0 k, LeO (Qt.f k a0) (Qt.f (k + 1) a0) := by
 intro a0 k
 have ih0 := Qt.mono_l k
 unfold Qt.f
 with_reducible repeat' first | exact ih0 _ _ _ _ _ _ | exact LeO.refl _ | exact LeO.none _ | refine LeO.ite ?_ ?_ | refine LeO.bind ?_ (fun _ => ?_)
def Qt.T5 : Bool × List (List Nat × List Nat) := (true, [([], []), ([], []), ([1], [1]), ([2], [2]), ([3], [3]), ([], []), ([], []), ([5, 6], [5, 6]), ([7], [7]), ([8], [8]), ([4, 9], [4, 9]), ([10], [10]), ([0, 0, 1, 2, 3, 4, 5, 6, 7, 8, 9, 10, 11], [0]), ([12, 0, 1, 2, 3, 4, 5, 6, 7, 8, 9, 10, 11], [12]), ([13, 11, 0, 1, 2, 3, 4, 5, 6, 7, 8, 9, 10, 11], [11, 13])])
def Qt.B5 : List Nat := [0, 0, 2, 6, 14, 0, 0, 96, 224, 480, 1022, 2046, 4095, 8191, 16383]
theorem Qt.tab5 : rtab .any (opsOf Tryz.f47 5) = Qt.T5 := by kernel_rfl
theorem Qt.bits5 : waitsOk Qt.T5.2 Qt.B5 = true := by kernel_rfl
theorem Qt.calls (k : Nat) (A0 : Option Addr) (c0 : Nat) (l0 : List Int) (r1 : List Int) (r2 : Int) (r3 : Int) (r4 : Int) (w0 w : World) (hB : Below w0.heap.size w0 w) (hr0 : Kd.C (Kd.int .u8) w0 A0 l0.length l0) (hc0 : l0.length ≤ c0) (h : Qt.f k l0 = some (r1, r2, r3, r4)) :
  Calls Tryz.prog 47 #[.slice A0 l0.length c0] w fun e w' => ∃ g_ : Nat, e = .returned (.pointer (some ⟨g_, 0, none⟩)) ∧ IsS112 w0 w' g_ r1 r2 r3 r4 ∧ Below w0.heap.size w0 w' ∧ Below w.heap.size w w' := by
 have HB0_ := Aside0.mk hB
 have HR0_o := Aside0.mk hr0
 replace hr0 := Kd.C_below hr0 hB
 replace hB := Below.refl w.heap.size w
 have hu112 := Tryz.underlying112
 have HR0 := Aside0.mk hr0
 have HC0 := Aside0.mk hc0
 clear hr0 hc0
 have HBW := Aside0.mk (Below.refl w.heap.size w)
 have HW0 := Aside0.mk hB.size
 have HB := Aside0.mk hB
 clear hB
 have H : (Qt.l0 k l0 0 l0 0 88172645463325252 0) = some (r1, r2, r3, r4) := h
 clear h
 have H' := Aside0.mk H
 clear H
 go_enter Tryz.func47, Tryz.ntmps47
 go_wp2_with (first | ((with_reducible refine gate_dst (N := 7) rfl ?_); refine box_event ?hg (N := 7) ?hd (cs := #[.slice A0 l0.length c0, .int .i64 0, .int .u64 88172645463325252, .int .i64 0]) (t := 112) ?hr ?_; (case hd => rfl); (case hg => rfl); (case hr => first | (go_simp; done) | (go_simp; rfl)); intro gb133 hg w2 hbox hb; have n0_ := Aside0.mk (below_step HBW.out hb); have n1_ := Aside0.mk (below_step HBa hb); have n2_ := Aside0.mk (hbox); have n3_ := Aside0.mk ((by rw [hg]; exact (below_size (by repeat (first | (with_reducible first | exact HBW.out | apply below_alloc | apply pw_below_drewN | apply below_drew1) | exact HBW.out))) : w.heap.size ≤ gb133)); have n4_ := Aside0.mk ((Nat.le_trans HW0.out (by rw [hg]; exact (below_size (by repeat (first | (with_reducible first | exact HBW.out | apply below_alloc | apply pw_below_drewN | apply below_drew1) | exact HBW.out))) : w.heap.size ≤ gb133) : w.heap.size ≤ gb133)); clear HBW; clear HB; have HBW := n0_; have HB := n1_; have BK133 := n2_; have GW133 := n3_; have GE133 := n4_; clear n0_ n1_ n2_ n3_ n4_; clear hb hbox hg))
 go_loopg [4] k (fun kq v4 w' => ∃ (x4_1 : Int) (x134002_1 : Int), v4 = .int .i64 x4_1 ∧ Aside0 (Qt.l0 kq l0 x4_1 l0 0 x134002_1 0 = some (r1, r2, r3, r4)) ∧ Aside0 (kq ≤ k) ∧ Aside0 (w'.heap[gb133]? = some (.cells #[(.slice A0 l0.length c0), .int .i64 0, .int .u64 x134002_1, .int .i64 0] 112 (0, 0))) ∧ Aside0 (Below w.heap.size w w'))
 case atStart => exact ⟨(0), (88172645463325252), EZc, H', ⟨Nat.le_refl _⟩, ⟨by (with_reducible repeat first | apply blk_drewN | apply blk_drew | apply blk_alloc); exact BK133.out⟩, ⟨by repeat (first | (with_reducible first | exact HB.out | apply below_alloc | apply pw_below_drewN | apply below_drew1 | refine below_set ?_ GE133.out) | exact HB.out)⟩⟩
 case round =>
  clear H'
  obtain ⟨x4_1, x134002_1, rfl, HA, HK1, BK133, HB⟩ := hrel
  cases gk with
  | zero => exact absurd HA.out (by simp [Qt.l0])
  | succ k1 =>
   have H := HA.out
   clear HA
   simp only [Qt.l0] at H
   by_cases c3 : x4_1 < (l0.length : Int)
   rotate_left
   ·rw [if_neg c3] at H
    have c3b0 := decide_eq_false c3
    clear c3
    by_cases c11 : (wrap64 ((l0.length : Int) / 20)) > 12
    ·rw [if_pos c11] at H
     have c11b0 : decide (12 < (wrap64 ((l0.length : Int) / 20))) = true := decide_eq_true c11
     (try (have c11v0 := c11b0; (try rw [show wrap64 ((l0.length : Int) / 20) = (l0.length : Int) / 20 from by unfold wrap64; omega] at c11v0)))
     clear c11
     obtain ⟨rfl, rfl, rfl, rfl⟩ := SQz H
     have hcz12_0 := C1z BK133
     have hcz12_1 := C2z BK133
     have hcz12_2 := C3z BK133
     have hcz12_3 := C4z BK133
     have hfz12_0 := blk_frozen BK133.out 0
     have hfz12_1 := blk_frozen BK133.out 1
     have hfz12_2 := blk_frozen BK133.out 2
     have hfz12_3 := blk_frozen BK133.out 3
     go_wp2
     go_ret
     exact ⟨_, rfl, (show IsS112 w0 _ gb133 l0 0 x134002_1 12 from ⟨_, _, by (with_reducible repeat first | apply blk_drewN | apply blk_drew | apply blk_alloc); refine blk_put (cs := #[.slice A0 l0.length c0, .int .i64 0, .int .u64 x134002_1, .int .i64 (wrap64 ((l0.length : Int) / 20))]) ?_ 3 _ rfl; (with_reducible repeat first | apply blk_drewN | apply blk_drew | apply blk_alloc); refine blk_put (cs := #[.slice A0 l0.length c0, .int .i64 0, .int .u64 x134002_1, .int .i64 0]) ?_ 3 _ rfl; (with_reducible repeat first | apply blk_drewN | apply blk_drew | apply blk_alloc); exact BK133.out, (Nat.le_trans HB0_.out.size GE133.out), HR0_o.out⟩), below_then HB0_.out HB0_.out.size (HBb GE133), HBb GE133⟩
    rw [if_neg c11] at H
    have c11b0 : decide (12 < (wrap64 ((l0.length : Int) / 20))) = false := decide_eq_false c11
    (try (have c11v0 := c11b0; (try rw [show wrap64 ((l0.length : Int) / 20) = (l0.length : Int) / 20 from by unfold wrap64; omega] at c11v0)))
    clear c11
    obtain ⟨rfl, rfl, rfl, rfl⟩ := SQz H
    have hcz13_0 := C1z BK133
    have hcz13_1 := C2z BK133
    have hcz13_2 := C3z BK133
    have hcz13_3 := C4z BK133
    have hfz13_0 := blk_frozen BK133.out 0
    have hfz13_1 := blk_frozen BK133.out 1
    have hfz13_2 := blk_frozen BK133.out 2
    have hfz13_3 := blk_frozen BK133.out 3
    go_wp2
    go_ret
    exact ⟨_, rfl, (show IsS112 w0 _ gb133 l0 0 x134002_1 (wrap64 ((l0.length : Int) / 20)) from ⟨_, _, by (with_reducible repeat first | apply blk_drewN | apply blk_drew | apply blk_alloc); refine blk_put (cs := #[.slice A0 l0.length c0, .int .i64 0, .int .u64 x134002_1, .int .i64 0]) ?_ 3 _ rfl; (with_reducible repeat first | apply blk_drewN | apply blk_drew | apply blk_alloc); exact BK133.out, (Nat.le_trans HB0_.out.size GE133.out), HR0_o.out⟩), below_then HB0_.out HB0_.out.size (HBb GE133), HBb GE133⟩
   rw [if_pos c3] at H
   have c3b0 := decide_eq_true c3
   clear c3
   by_cases c4 : x4_1 < 64
   rotate_left
   ·rw [if_neg c4] at H
    have c4b0 := decide_eq_false c4
    clear c4
    by_cases c8 : (wrap64 ((l0.length : Int) / 20)) > 12
    ·rw [if_pos c8] at H
     have c8b0 : decide (12 < (wrap64 ((l0.length : Int) / 20))) = true := decide_eq_true c8
     (try (have c8v0 := c8b0; (try rw [show wrap64 ((l0.length : Int) / 20) = (l0.length : Int) / 20 from by unfold wrap64; omega] at c8v0)))
     clear c8
     obtain ⟨rfl, rfl, rfl, rfl⟩ := SQz H
     have hcz9_0 := C1z BK133
     have hcz9_1 := C2z BK133
     have hcz9_2 := C3z BK133
     have hcz9_3 := C4z BK133
     have hfz9_0 := blk_frozen BK133.out 0
     have hfz9_1 := blk_frozen BK133.out 1
     have hfz9_2 := blk_frozen BK133.out 2
     have hfz9_3 := blk_frozen BK133.out 3
     go_wp2
     go_ret
     exact ⟨_, rfl, (show IsS112 w0 _ gb133 l0 0 x134002_1 12 from ⟨_, _, by (with_reducible repeat first | apply blk_drewN | apply blk_drew | apply blk_alloc); refine blk_put (cs := #[.slice A0 l0.length c0, .int .i64 0, .int .u64 x134002_1, .int .i64 (wrap64 ((l0.length : Int) / 20))]) ?_ 3 _ rfl; (with_reducible repeat first | apply blk_drewN | apply blk_drew | apply blk_alloc); refine blk_put (cs := #[.slice A0 l0.length c0, .int .i64 0, .int .u64 x134002_1, .int .i64 0]) ?_ 3 _ rfl; (with_reducible repeat first | apply blk_drewN | apply blk_drew | apply blk_alloc); exact BK133.out, (Nat.le_trans HB0_.out.size GE133.out), HR0_o.out⟩), below_then HB0_.out HB0_.out.size (HBb GE133), HBb GE133⟩
    rw [if_neg c8] at H
    have c8b0 : decide (12 < (wrap64 ((l0.length : Int) / 20))) = false := decide_eq_false c8
    (try (have c8v0 := c8b0; (try rw [show wrap64 ((l0.length : Int) / 20) = (l0.length : Int) / 20 from by unfold wrap64; omega] at c8v0)))
    clear c8
    obtain ⟨rfl, rfl, rfl, rfl⟩ := SQz H
    have hcz10_0 := C1z BK133
    have hcz10_1 := C2z BK133
    have hcz10_2 := C3z BK133
    have hcz10_3 := C4z BK133
    have hfz10_0 := blk_frozen BK133.out 0
    have hfz10_1 := blk_frozen BK133.out 1
    have hfz10_2 := blk_frozen BK133.out 2
    have hfz10_3 := blk_frozen BK133.out 3
    go_wp2
    go_ret
    exact ⟨_, rfl, (show IsS112 w0 _ gb133 l0 0 x134002_1 (wrap64 ((l0.length : Int) / 20)) from ⟨_, _, by (with_reducible repeat first | apply blk_drewN | apply blk_drew | apply blk_alloc); refine blk_put (cs := #[.slice A0 l0.length c0, .int .i64 0, .int .u64 x134002_1, .int .i64 0]) ?_ 3 _ rfl; (with_reducible repeat first | apply blk_drewN | apply blk_drew | apply blk_alloc); exact BK133.out, (Nat.le_trans HB0_.out.size GE133.out), HR0_o.out⟩), below_then HB0_.out HB0_.out.size (HBb GE133), HBb GE133⟩
   rw [if_pos c4] at H
   have c4b0 := decide_eq_true c4
   clear c4
   by_cases c5 : 0 ≤ x4_1
   rotate_left
   ·rw [if_neg c5] at H
    exact absurd H (by simp)
   rw [if_pos c5] at H
   have c5b0 := decide_eq_true c5
   clear c5
   have H' := Aside0.mk H
   clear H
   try go_wp2
   have n0_ := Aside0.mk (blk_drew BK133.out)
   have n1_ := Aside0.mk (below_drew1 HB.out)
   clear BK133
   clear HB
   have BK133 := n0_
   have HB := n1_
   clear n0_ n1_
   have p134 : 0 ≤ (x4_1 : Int) := ODz
   have q134 : x4_1 < (l0.length : Int) := ODz
   obtain ⟨ad134, e134, hx134_0⟩ := Kd.at_int HR0.out x4_1 p134 q134
   have hw134_0 := hx134_0
   cases e134
   replace hx134_0 := pw_cell_below HB.out hx134_0
   replace p134 := eq_true p134
   replace q134 := eq_true q134
   refine start_ (n := 15) (S := fun w' => w'.cell? ⟨gb133, 0, none⟩ = some (.slice (some ad134) l0.length c0) ∧ w'.cell? ⟨gb133, 1, none⟩ = some (.int .i64 0) ∧ w'.cell? ⟨gb133, 2, none⟩ = some (.int .u64 x134002_1) ∧ w'.cell? ⟨gb133, 3, none⟩ = some (.int .i64 0) ∧ w'.cell? (ad134.add (x4_1).toNat) = some (.int .u8 (rd l0 x4_1))) (ds := [14]) (bz 15 0) (by kernel_rfl) rfl (by kernel_rfl) ⟨(blk_cell BK133.out 0).trans rfl, (blk_cell BK133.out 1).trans rfl, (blk_cell BK133.out 2).trans rfl, (blk_cell BK133.out 3).trans rfl, (HXz HB hw134_0 :)⟩ (fun hHeld => ?_); refine with_tabW Qt.tab5 Qt.bits5 (fun HT_ HW_ => ?_)
   generalize wr.drew = w6 at BK133 HB hx134_0 hHeld ⊢
   refine PYz 0 18 (bz 15 1) rfl rfl (any_of HT_.out (by kernel_rfl)) ?_
   refine PYz 1 19 (bz 15 3) rfl rfl (any_of HT_.out (by kernel_rfl)) ?_
   refine PYz 2 20 (bz 15 7) rfl rfl (any_of HT_.out (by kernel_rfl)) ?_
   refine PYz 3 21 (bz 15 15) rfl rfl (any_of HT_.out (by kernel_rfl)) ?_
   refine PYz 5 23 (bz 15 47) rfl rfl (any_of HT_.out (by kernel_rfl)) ?_
   refine PYz 6 24 (bz 15 111) rfl rfl (any_of HT_.out (by kernel_rfl)) ?_
   refine PYz 7 25 (bz 15 239) rfl rfl (any_of HT_.out (by kernel_rfl)) ?_
   refine PTz 4 22 (bz 15 255) rfl rfl (take_ofW HT_.out HW_.out (by kernel_rfl)) hHeld ?_
   refine PTz 8 26 (bz 15 511) rfl rfl (take_ofW HT_.out HW_.out (by kernel_rfl)) hHeld ?_
   refine PYz 9 27 (bz 15 1023) rfl rfl (any_of HT_.out (by kernel_rfl)) ?_
   refine PYz 10 28 (bz 15 2047) rfl rfl (any_of HT_.out (by kernel_rfl)) ?_
   refine PYz 11 29 (bz 15 4095) rfl rfl (any_of HT_.out (by kernel_rfl)) ?_
   refine PYz 12 30 (bz 15 8191) rfl rfl (any_of HT_.out (by kernel_rfl)) ?_
   refine PYz 13 31 (bz 15 16383) rfl rfl (any_of HT_.out (by kernel_rfl)) ?_
   refine last_ (i := 14) (N := none) (bz 15 32767) rfl rfl (one_of HT_.out (by kernel_rfl)) (by decide) (fun K hK => ?_)
   have hs7 : w6.cell? ⟨gb133, 2, none⟩ = some (.int .u64 x134002_1) := (blk_cell BK133.out 2).trans rfl
   have hfs7 := blk_frozen BK133.out 2
   refine skip_ (w1 := ?_) (by rfl) rfl ?_ ?_
   rotate_left
   ·go_simp
    rfl
   refine hK.out _ _ ?_
   clear hK K
   refine done_ (done_of HT_.out (by kernel_rfl)) ?_
   try go_wp2
   go_roundg k1
   case measure => have := HK1.out; omega
   case rel => exact ⟨(wrap64 (x4_1 + 1)), (IntKind.u64.wrap ((Go.bits .xor .u64 x134002_1 (IntKind.u64.wrap (rd l0 x4_1))) * 1099511628211)), EZc, H', ⟨by have := HK1.out; omega⟩, ⟨by (with_reducible repeat first | apply blk_drewN | apply blk_drew | apply blk_alloc); refine blk_put (cs := #[.slice (some ad134) l0.length c0, .int .i64 0, .int .u64 x134002_1, .int .i64 0]) ?_ 2 _ rfl; (with_reducible repeat first | apply blk_drewN | apply blk_drew | apply blk_alloc); exact BK133.out⟩, ⟨by repeat (first | (with_reducible first | exact HB.out | apply below_alloc | apply pw_below_drewN | apply below_drew1 | refine below_set ?_ GE133.out) | exact HB.out)⟩⟩
def Vd.l0 : Nat → Int → List (S96) → List (S117) → List (S96) → List (S117) → Option ((List (S96)) × (List (S117)))
 | 0, _, _, _, _, _ => none
 | k + 1, x4, x136000, x136001, x144000, x144001 => if x4 < (x136001.length : Int) then (if 0 ≤ x4 then ((some (([] : List ByteArray) : List ByteArray)).bind fun y145 => (if y145.length + ((rd_T117 x136001 x4).f1).length < 8796093022208 then (if x144001.length < 3518437208883 then (Vd.l0 k (wrap64 (x4 + 1)) x136000 x136001 x144000 (x144001 ++ [(⟨(rd_T117 x136001 x4).f0, (y145 ++ ((rd_T117 x136001 x4).f1))⟩ : S117)])) else (none)) else (none))) else (none)) else (some (x144000, x144001))
def Vd.f (k : Nat) (l0_0 : List (S96)) (l0_1 : List (S117)) : Option ((List (S96)) × (List (S117))) := (some (([] : List (S96)) : List (S96))).bind fun y137 => (if y137.length + l0_0.length < 4398046511104 then (Vd.l0 k 0 l0_0 l0_1 (y137 ++ l0_0) ([] : List (S117))) else (none))
theorem Vd.mono_l : ∀ k, (∀ y0 y1 y2 y3 y4, LeO (Vd.l0 k y0 y1 y2 y3 y4) (Vd.l0 (k + 1) y0 y1 y2 y3 y4))
 | 0 => fun _ _ _ _ _ r h => by simp [Vd.l0] at h
 | k + 1 => by
  have ih0 := Vd.mono_l k
  ·intro y0 y1 y2 y3 y4
   unfold Vd.l0
   with_reducible repeat' first | exact ih0 _ _ _ _ _ | exact LeO.refl _ | exact LeO.none _ | refine LeO.ite ?_ ?_ | refine LeO.bind ?_ (fun _ => ?_)
theorem Vd.mono : ∀ a0 a1 k, LeO (Vd.f k a0 a1) (Vd.f (k + 1) a0 a1) := by
 intro a0 a1 k
 have ih0 := Vd.mono_l k
 unfold Vd.f
 with_reducible repeat' first | exact ih0 _ _ _ _ _ | exact LeO.refl _ | exact LeO.none _ | refine LeO.ite ?_ ?_ | refine LeO.bind ?_ (fun _ => ?_)
def Vd.T5 : Bool × List (List Nat × List Nat) := (true, [([], []), ([0], [0]), ([], []), ([2], [2]), ([], []), ([3, 4], [3, 4]), ([5], [5]), ([6], [6]), ([], []), ([], []), ([9], [9]), ([], []), ([10, 11], [10, 11]), ([12], [12]), ([13], [13]), ([8, 14], [8, 14]), ([7, 15], [7, 15]), ([16], [16]), ([1, 17, 15], [1, 17]), ([0, 1, 2, 3, 4, 5, 6, 7, 8, 9, 10, 11, 12, 13, 14, 15, 16, 17, 18], []), ([19, 18, 18, 0, 1, 2, 3, 4, 5, 6, 7, 8, 9, 10, 11, 12, 13, 14, 15, 16, 17, 18], [18, 19])])
def Vd.B5 : List Nat := [0, 1, 0, 4, 0, 28, 60, 124, 0, 0, 512, 0, 3584, 7680, 15872, 32512, 65532, 131068, 262143, 524287, 1048575]
theorem Vd.tab5 : rtab .any (opsOf Tryz.f191 5) = Vd.T5 := by kernel_rfl
theorem Vd.bits5 : waitsOk Vd.T5.2 Vd.B5 = true := by kernel_rfl
theorem Vd.calls (k : Nat) (A0_0 : Option Addr) (c0_0 : Nat) (l0_0 : List (S96)) (A0_1 : Option Addr) (c0_1 : Nat) (l0_1 : List (S117)) (r1 : List (S96)) (r2 : List (S117)) (w : World) (hr0_0 : Kd.C k96 w A0_0 l0_0.length l0_0) (hc0_0 : l0_0.length ≤ c0_0) (hr0_1 : Kd.C k117 w A0_1 l0_1.length l0_1) (hc0_1 : l0_1.length ≤ c0_1) (h : Vd.f k l0_0 l0_1 = some (r1, r2)) :
  Calls Tryz.prog 191 #[.agg #[.slice A0_0 l0_0.length c0_0, .slice A0_1 l0_1.length c0_1]] w fun e w' => ∃ v0_ v1_ : Value, e = .returned (.agg #[v0_, v1_]) ∧ Kd.R k96 96 w' w.heap.size (fun _ => True) v0_ r1 ∧ Kd.S k117 117 w' w.heap.size (fun _ => True) v1_ r2 ∧ Below w.heap.size w w' := by
 have hu51 := Tryz.underlying51
 have hu117 := Tryz.underlying117
 have HR0_0 := Aside0.mk hr0_0
 have HC0_0 := Aside0.mk hc0_0
 clear hr0_0 hc0_0
 have HR0_1 := Aside0.mk hr0_1
 have HC0_1 := Aside0.mk hc0_1
 clear hr0_1 hc0_1
 have HB := Aside0.mk (Below.refl w.heap.size w)
 have H : ((some (([] : List (S96)) : List (S96))).bind fun y137 => (if y137.length + l0_0.length < 4398046511104 then (Vd.l0 k 0 l0_0 l0_1 (y137 ++ l0_0) ([] : List (S117))) else (none))) = some (r1, r2) := h
 clear h
 obtain ⟨y137, hy137⟩ : ∃ y_ : List (S96), y_ = (([] : List (S96))) := ⟨_, rfl⟩
 replace H : (if y137.length + l0_0.length < 4398046511104 then (Vd.l0 k 0 l0_0 l0_1 (y137 ++ l0_0) ([] : List (S117))) else (none)) = some (r1, r2) := by first | (rw [hy137]; with_reducible exact H) | (have H2_ := (Option.bind_some _ _).symm.trans H; rw [hy137]; with_reducible exact H2_) | (have H2_ := (Option.bind_some _ _).symm.trans H; with_reducible exact H2_) | with_reducible exact H | (rw [hy137]; exact H) | exact H
 have Ny137 := Aside0.mk hy137
 clear hy137
 by_cases c2 : y137.length + l0_0.length < 4398046511104
 rotate_left
 ·rw [if_neg c2] at H
  exact absurd H (by simp)
 rw [if_pos c2] at H
 have LMc2 := Aside0.mk c2
 clear c2
 obtain ⟨y140, hy140⟩ : ∃ y_ : List (S96), y_ = (y137 ++ l0_0) := ⟨_, rfl⟩
 replace H : (Vd.l0 k 0 l0_0 l0_1 y140 ([] : List (S117))) = some (r1, r2) := by first | (rw [hy140]; with_reducible exact H) | (have H2_ := (Option.bind_some _ _).symm.trans H; rw [hy140]; with_reducible exact H2_) | (have H2_ := (Option.bind_some _ _).symm.trans H; with_reducible exact H2_) | with_reducible exact H | (rw [hy140]; exact H) | exact H
 have Ny140 := Aside0.mk hy140
 clear hy140
 have H' := Aside0.mk H
 clear H
 go_enter Tryz.func191, Tryz.ntmps191
 go_wp2_with (first | ((with_reducible refine gate_dst (N := 1) rfl ?_); refine box_event ?hg (N := 1) ?hd (cs := #[.slice A0_0 l0_0.length c0_0, .slice A0_1 l0_1.length c0_1]) (t := 51) ?hr ?_; (case hd => rfl); (case hg => rfl); (case hr => first | (go_simp; done) | (go_simp; rfl)); intro gb135 hg w3 hbox hb; have n0_ := Aside0.mk (below_step HBa hb); have n1_ := Aside0.mk (hbox); have n2_ := BSz w hg HBa; have n3_ := BSz w hg HBa; clear HB; have HB := n0_; have BK135 := n1_; have GW135 := n2_; have GE135 := n3_; clear n0_ n1_ n2_ n3_; clear hb hbox hg) | ((with_reducible refine gate_dst (N := 2) rfl ?_); refine box_event ?hg (N := 2) ?hd (cs := #[.slice none 0 0, .slice none 0 0]) (t := 51) ?hr ?_; (case hd => rfl); (case hg => rfl); (case hr => first | (go_simp; done) | (go_simp; rfl)); intro gb136 hg w4 hbox hb; have n0_ := BBz BK135 hb; have n1_ := Aside0.mk (below_step (HBb GE135) hb); have n2_ := Aside0.mk (hbox); have n3_ := BSz w hg (HBb GE135); have n4_ := BSz w hg (HBb GE135); have n5_ := BNz BK135 hg; have n6_ := BMz BK135 hg; clear BK135; clear HB; have BK135 := n0_; have HB := n1_; have BK136 := n2_; have GW136 := n3_; have GE136 := n4_; have NB135_136 := n5_; have NB136_135 := n6_; clear n0_ n1_ n2_ n3_ n4_ n5_ n6_; clear hb hbox hg) | ((with_reducible refine gate_dst (N := 5) rfl ?_); refine Kd.R_lit k96 _ 96 ?hg (N := 5) ?hd (xs := ([] : List (S96))) (inner := []) (ok := fun _ => True) (okp := fun _ => True) ?hr ?hp (fun _ hk => hk) trivial (Below.refl _ _) (Nat.le_refl _) (by simp) ?_; (case hd => rfl); (case hg => rfl); (case hr => first | (go_simp; done) | (go_simp; rfl)); (case hp => exact (Reps.none _ _)); intro v138 w5 ho6 hb hg_ hnew_; clear hg_ hnew_; (first | rw [← Ny137.out] at ho6 | (simp only [Int.reduceToNat] at ho6; rw [← Ny137.out] at ho6)); have n0_ := Aside0.mk (Kd.R_lower ho6 (below_size (HBc GE135 GE136))); have n1_ := BBz BK135 hb; have n2_ := BBz BK136 hb; have n3_ := Aside0.mk (below_step (HBc GE135 GE136) hb); clear BK135; clear BK136; clear HB; have HO139 := n0_; have BK135 := n1_; have BK136 := n2_; have HB := n3_; clear n0_ n1_ n2_ n3_; clear hb ho6; have hnb7 := NB135_136.out; have hnc7 := NB136_135.out; have hcz8_0 := C1z BK135; have hcz8_1 := C2z BK135; have hfz8_0 := blk_frozen BK135.out 0; have hfz8_1 := blk_frozen BK135.out 1) | ((with_reducible refine gate_builtin (b := .append) (xs := #[.tmp 5, .tmp 7]) rfl ?_); at_builtin; refine Kd.R_append_rows k96 (w0 := w) w.heap.size rfl (.tmp 5) (.tmp 7) 44 96 (.agg #[(.string ⟨#[]⟩), (.string ⟨#[]⟩)]) 32 rfl Tryz.underlying44 info96 rfl (by decide) (by omega) v138 y137 l0_0 _ _ _ (fun _ => True) (fun _ => False) rfl rfl ?aO ?aR (fun _ _ h => h) (fun _ h => h.elim) ?aF ?aB ?aS ?aL ?_; (case aR => exact KCz (Kd.C_below HR0_0.out HB.out)); (case aB => exact (HBc GE135 GE136)); (case aF => exact (fun _ _ => trivial)); (case aO => exact (KRz HO139)); (case aS => exact (below_size (HBc GE135 GE136))); (case aL => have := LMc2.out; omega); intro v141 w9 ho hb hg hat; rw [← Ny140.out] at ho; have n0_ := Aside0.mk (blk_grown (g := gb135) (o := .cells #[.slice A0_0 l0_0.length c0_0, .slice A0_1 l0_1.length c0_1] 51 (0, 0)) (BKz BK135) hg (Kd.R_ne HO139.out BK135.out (by decide))); have n1_ := Aside0.mk (blk_grown (g := gb136) (o := .cells #[.slice none 0 0, .slice none 0 0] 51 (0, 0)) (BKz BK136) hg (Kd.R_ne HO139.out BK136.out (by decide))); have n2_ := Aside0.mk (hb); have n3_ := Aside0.mk (ho); clear BK135; clear BK136; clear HB; clear HO139; have BK135 := n0_; have BK136 := n1_; have HB := n2_; have HO142 := n3_; clear n0_ n1_ n2_ n3_; clear ho hb hg hat; obtain ⟨Ao10, co10, eo10⟩ := Kd.R_slice HO142.out; subst eo10) | ((with_reducible refine gate_dst (N := 3) rfl ?_); refine box_event ?hg (N := 3) ?hd (cs := #[.slice none 0 0, .slice none 0 0]) (t := 51) ?hr ?_; (case hd => rfl); (case hg => rfl); (case hr => first | (go_simp; done) | (go_simp; rfl)); intro gb143 hg w11 hbox hb; have n0_ := Aside0.mk (Kd.R_below (KRz HO142) hb); have n1_ := BBz BK135 hb; have n2_ := BBz BK136 hb; have n3_ := Aside0.mk (below_step (HBc GE135 GE136) hb); have n4_ := Aside0.mk (hbox); have n5_ := BSz w hg (HBc GE135 GE136); have n6_ := BSz w hg (HBc GE135 GE136); have n7_ := BNz BK135 hg; have n8_ := BMz BK135 hg; have n9_ := BNz BK136 hg; have n10_ := BMz BK136 hg; clear HO142; clear BK135; clear BK136; clear HB; have HO142 := n0_; have BK135 := n1_; have BK136 := n2_; have HB := n3_; have BK143 := n4_; have GW143 := n5_; have GE143 := n6_; have NB135_143 := n7_; have NB143_135 := n8_; have NB136_143 := n9_; have NB143_136 := n10_; clear n0_ n1_ n2_ n3_ n4_ n5_ n6_ n7_ n8_ n9_ n10_; clear hb hbox hg; have hnb12 := NB143_135.out; have hnc12 := NB135_143.out; have hnb13 := NB143_136.out; have hnc13 := NB136_143.out; have hcz14_0 := C1z BK143; have hcz14_1 := C2z BK143; have hfz14_0 := blk_frozen BK143.out 0; have hfz14_1 := blk_frozen BK143.out 1))
 go_loopg [4] k (fun kq v4 w' => ∃ (x4_1 : Int) (x144001_1 : List (S117)) (u144001 : Value), v4 = .int .i64 x4_1 ∧ Aside0 (Vd.l0 kq x4_1 l0_0 l0_1 y140 x144001_1 = some (r1, r2)) ∧ Aside0 (kq ≤ k) ∧ Aside0 (Kd.R k96 96 w' w.heap.size (fun _ => True) (.slice Ao10 y140.length co10) y140) ∧ Aside0 (Kd.S k117 117 w' w.heap.size (fun _ => True) u144001 x144001_1) ∧ Aside0 (w'.heap[gb135]? = some (.cells #[(.slice A0_0 l0_0.length c0_0), (.slice A0_1 l0_1.length c0_1)] 51 (0, 0))) ∧ Aside0 (w'.heap[gb136]? = some (.cells #[(.slice none 0 0), (.slice none 0 0)] 51 (0, 0))) ∧ Aside0 (w'.heap[gb143]? = some (.cells #[(.slice Ao10 y140.length co10), u144001] 51 (0, 0))) ∧ Aside0 (Below w.heap.size w w'))
 case atStart => exact ⟨(0), (([] : List (S117))), (.slice none 0 0), EZc, H', ⟨Nat.le_refl _⟩, ⟨by (with_reducible repeat (first | apply Kd.R_alloc | apply Kd.R_drewN | apply Kd.R_drew)); exact Kd.R_mono (Kd.R_far (p := ⟨gb143, 1, none⟩) (Kd.R_far (p := ⟨gb143, 0, none⟩) (Kd.R_types HO142.out BK143.out (by decide)) (fun _ hk => hk.2) (.slice Ao10 y140.length co10)) (fun _ hk => hk.2) (.slice none 0 0)) (fun _ hk => trivial)⟩, ⟨by first | exact Kd.S_nil _ _ _ _ _ | exact Kd.N_nil _ _ _ _ _ | exact Kd.V_nil _ _ _ _ _ | exact Kd.Q_nil _ _ _ _ _ | exact Kd.R_nil _ _ _ _ _⟩, ⟨by (with_reducible repeat first | apply blk_drewN | apply blk_drew | apply blk_alloc); refine blk_far ?_ NB135_143.out _; (with_reducible repeat first | apply blk_drewN | apply blk_drew | apply blk_alloc); refine blk_far ?_ NB135_143.out _; (with_reducible repeat first | apply blk_drewN | apply blk_drew | apply blk_alloc); exact BK135.out⟩, ⟨by (with_reducible repeat first | apply blk_drewN | apply blk_drew | apply blk_alloc); refine blk_far ?_ NB136_143.out _; (with_reducible repeat first | apply blk_drewN | apply blk_drew | apply blk_alloc); refine blk_far ?_ NB136_143.out _; (with_reducible repeat first | apply blk_drewN | apply blk_drew | apply blk_alloc); exact BK136.out⟩, ⟨by (with_reducible repeat first | apply blk_drewN | apply blk_drew | apply blk_alloc); refine blk_put (cs := #[.slice Ao10 y140.length co10, .slice none 0 0]) ?_ 1 _ rfl; (with_reducible repeat first | apply blk_drewN | apply blk_drew | apply blk_alloc); refine blk_put (cs := #[.slice none 0 0, .slice none 0 0]) ?_ 0 _ rfl; (with_reducible repeat first | apply blk_drewN | apply blk_drew | apply blk_alloc); exact BK143.out⟩, ⟨by repeat (first | (with_reducible first | exact HB.out | apply below_alloc | apply pw_below_drewN | apply below_drew1 | refine below_set ?_ GE135.out | refine below_set ?_ GE136.out | refine below_set ?_ GE143.out) | exact HB.out)⟩⟩
 case round =>
  clear H'
  try clear c2
  try clear hcz14_0
  try clear hcz14_1
  try clear hcz8_0
  try clear hcz8_1
  try clear hfz14_0
  try clear hfz14_1
  try clear hfz8_0
  try clear hfz8_1
  obtain ⟨x4_1, x144001_1, u144001, rfl, HA, HK1, HO_144000, HO_144001, BK135, BK136, BK143, HB⟩ := hrel
  cases gk with
  | zero => exact absurd HA.out (by simp [Vd.l0])
  | succ k1 =>
   have H := HA.out
   clear HA
   simp only [Vd.l0] at H
   by_cases c15 : x4_1 < (l0_1.length : Int)
   rotate_left
   ·rw [if_neg c15] at H
    have c15b0 := decide_eq_false c15
    clear c15
    obtain ⟨rfl, rfl⟩ := SPz H
    have hnb30 := NB135_136.out
    have hnc30 := NB136_135.out
    have hnb31 := NB135_143.out
    have hnc31 := NB143_135.out
    have hcz32_0 := C1z BK135
    have hcz32_1 := C2z BK135
    have hfz32_0 := blk_frozen BK135.out 0
    have hfz32_1 := blk_frozen BK135.out 1
    have hnb33 := NB143_136.out
    have hnc33 := NB136_143.out
    have hcz34_0 := C1z BK143
    have hcz34_1 := C2z BK143
    have hfz34_0 := blk_frozen BK143.out 0
    have hfz34_1 := blk_frozen BK143.out 1
    have hcz35_0 := C1z BK136
    have hcz35_1 := C2z BK136
    have hfz35_0 := blk_frozen BK136.out 0
    have hfz35_1 := blk_frozen BK136.out 1
    obtain ⟨Ao36, co36, eo36⟩ := Kd.S_slice HO_144001.out
    subst eo36
    go_wp2
    refine bodyPost_ret (results_cell_row rfl _ _ gb136 51 #[.slice Ao10 y140.length co10, .slice Ao36 x144001_1.length co36] (0, 0) _ rfl (by (with_reducible repeat first | apply blk_drewN | apply blk_drew | apply blk_alloc); refine blk_put (cs := #[.slice Ao10 y140.length co10, .slice none 0 0]) ?_ 1 _ rfl; (with_reducible repeat first | apply blk_drewN | apply blk_drew | apply blk_alloc); refine blk_put (cs := #[.slice none 0 0, .slice none 0 0]) ?_ 0 _ rfl; (with_reducible repeat first | apply blk_drewN | apply blk_drew | apply blk_alloc); exact BK136.out) Tryz.underlying51 rfl (by kernel_rfl)) rfl ?_
    exact ⟨_, _, EZa, by (with_reducible repeat (first | apply Kd.R_alloc | apply Kd.R_drewN | apply Kd.R_drew)); exact Kd.R_mono (Kd.R_far (p := ⟨gb136, 1, none⟩) (Kd.R_far (p := ⟨gb136, 0, none⟩) (Kd.R_types HO_144000.out BK136.out (by decide)) (fun _ hk => hk.2) (.slice Ao10 y140.length co10)) (fun _ hk => hk.2) (.slice Ao36 x144001_1.length co36)) (fun _ hk => trivial), by (with_reducible repeat (first | apply Kd.S_alloc | apply Kd.S_drewN | apply Kd.S_drew)); exact Kd.S_mono (Kd.S_far (p := ⟨gb136, 1, none⟩) (Kd.S_far (p := ⟨gb136, 0, none⟩) (Kd.S_types HO_144001.out BK136.out (by decide)) (fun _ hk => hk.2) (.slice Ao10 y140.length co10)) (fun _ hk => hk.2) (.slice Ao36 x144001_1.length co36)) (fun _ hk => trivial), HBd GE135 GE136 GE143⟩
   rw [if_pos c15] at H
   have c15b0 := decide_eq_true c15
   clear c15
   by_cases c16 : 0 ≤ x4_1
   rotate_left
   ·rw [if_neg c16] at H
    exact absurd H (by simp)
   rw [if_pos c16] at H
   have c16b0 := decide_eq_true c16
   clear c16
   obtain ⟨y145, hy145⟩ : ∃ y_ : List ByteArray, y_ = (([] : List ByteArray)) := ⟨_, rfl⟩
   replace H : (if y145.length + ((rd_T117 l0_1 x4_1).f1).length < 8796093022208 then (if x144001_1.length < 3518437208883 then (Vd.l0 k1 (wrap64 (x4_1 + 1)) l0_0 l0_1 y140 (x144001_1 ++ [(⟨(rd_T117 l0_1 x4_1).f0, (y145 ++ ((rd_T117 l0_1 x4_1).f1))⟩ : S117)])) else (none)) else (none)) = some (r1, r2) := by first | (rw [hy145]; with_reducible exact H) | (have H2_ := (Option.bind_some _ _).symm.trans H; rw [hy145]; with_reducible exact H2_) | (have H2_ := (Option.bind_some _ _).symm.trans H; with_reducible exact H2_) | with_reducible exact H | (rw [hy145]; exact H) | exact H
   have Ny145 := Aside0.mk hy145
   clear hy145
   by_cases c17 : y145.length + ((rd_T117 l0_1 x4_1).f1).length < 8796093022208
   rotate_left
   ·rw [if_neg c17] at H
    exact absurd H (by simp)
   rw [if_pos c17] at H
   have LMc17 := Aside0.mk c17
   clear c17
   obtain ⟨y149, hy149⟩ : ∃ y_ : List ByteArray, y_ = (y145 ++ ((rd_T117 l0_1 x4_1).f1)) := ⟨_, rfl⟩
   replace H : (if x144001_1.length < 3518437208883 then (Vd.l0 k1 (wrap64 (x4_1 + 1)) l0_0 l0_1 y140 (x144001_1 ++ [(⟨(rd_T117 l0_1 x4_1).f0, y149⟩ : S117)])) else (none)) = some (r1, r2) := by first | (rw [hy149]; with_reducible exact H) | (have H2_ := (Option.bind_some _ _).symm.trans H; rw [hy149]; with_reducible exact H2_) | (have H2_ := (Option.bind_some _ _).symm.trans H; with_reducible exact H2_) | with_reducible exact H | (rw [hy149]; exact H) | exact H
   have Ny149 := Aside0.mk hy149
   clear hy149
   by_cases c18 : x144001_1.length < 3518437208883
   rotate_left
   ·rw [if_neg c18] at H
    exact absurd H (by simp)
   rw [if_pos c18] at H
   have LMc18 := Aside0.mk c18
   clear c18
   obtain ⟨y152, hy152⟩ : ∃ y_ : List (S117), y_ = (x144001_1 ++ [(⟨(rd_T117 l0_1 x4_1).f0, y149⟩ : S117)]) := ⟨_, rfl⟩
   replace H : (Vd.l0 k1 (wrap64 (x4_1 + 1)) l0_0 l0_1 y140 y152) = some (r1, r2) := by first | (rw [hy152]; with_reducible exact H) | (have H2_ := (Option.bind_some _ _).symm.trans H; rw [hy152]; with_reducible exact H2_) | (have H2_ := (Option.bind_some _ _).symm.trans H; with_reducible exact H2_) | with_reducible exact H | (rw [hy152]; exact H) | exact H
   have Ny152 := Aside0.mk hy152
   clear hy152
   have H' := Aside0.mk H
   clear H
   have hnb19 := NB135_136.out
   have hnc19 := NB136_135.out
   have hnb20 := NB135_143.out
   have hnc20 := NB143_135.out
   have hcz21_0 := C1z BK135
   have hcz21_1 := C2z BK135
   have hfz21_0 := blk_frozen BK135.out 0
   have hfz21_1 := blk_frozen BK135.out 1
   try go_wp2
   have n0_ := Aside0.mk (Kd.R_drew HO_144000.out)
   have n1_ := Aside0.mk (Kd.S_drew HO_144001.out)
   have n2_ := Aside0.mk (blk_drew BK135.out)
   have n3_ := Aside0.mk (blk_drew BK136.out)
   have n4_ := Aside0.mk (blk_drew BK143.out)
   have n5_ := Aside0.mk (below_drew1 HB.out)
   clear HO_144000
   clear HO_144001
   clear BK135
   clear BK136
   clear BK143
   clear HB
   have HO_144000 := n0_
   have HO_144001 := n1_
   have BK135 := n2_
   have BK136 := n3_
   have BK143 := n4_
   have HB := n5_
   clear n0_ n1_ n2_ n3_ n4_ n5_
   have p144 : 0 ≤ (x4_1 : Int) := ODz
   have q144 : x4_1 < (l0_1.length : Int) := ODz
   obtain ⟨ad144, A144_1, c144_1, e144, hx144_0, hx144_1, hl144_1, hi144_1⟩ := at_T117 HR0_1.out x4_1 p144 q144
   have hw144_1 := hx144_1
   have hw144_0 := hx144_0
   cases e144
   replace hx144_0 := HXz HB hx144_0
   replace hx144_1 := HXz HB hx144_1
   have HR144_1 := Aside0.mk hi144_1
   have HC144_1 := Aside0.mk hl144_1
   clear hi144_1 hl144_1
   replace p144 := eq_true p144
   replace q144 := eq_true q144
   have p148 : 0 ≤ (x4_1 : Int) := ODz
   have q148 : x4_1 < (l0_1.length : Int) := ODz
   obtain ⟨ad148, A148_1, c148_1, e148, hx148_0, hx148_1, hl148_1, hi148_1⟩ := at_T117 HR0_1.out x4_1 p148 q148
   have hw148_1 := hx148_1
   have hw148_0 := hx148_0
   obtain rfl : ad144 = ad148 := (by injection e148)
   replace hx148_0 := HXz HB hx148_0
   replace hx148_1 := HXz HB hx148_1
   have HR148_1 := Aside0.mk hi148_1
   have HC148_1 := Aside0.mk hl148_1
   clear hi148_1 hl148_1
   replace p148 := eq_true p148
   replace q148 := eq_true q148
   have ea_ := Option.some.inj (hx144_1.symm.trans hx148_1)
   injection ea_ with ea_ en_ ec_
   subst ea_
   subst ec_
   clear en_
   refine start_ (n := 21) (S := fun w' => w'.cell? ⟨gb143, 0, none⟩ = some (.slice Ao10 y140.length co10) ∧ w'.cell? ⟨gb143, 1, none⟩ = some (u144001) ∧ w'.cell? ⟨gb135, 0, none⟩ = some (.slice A0_0 l0_0.length c0_0) ∧ w'.cell? ⟨gb135, 1, none⟩ = some (.slice (some ad144) l0_1.length c0_1) ∧ w'.cell? (ad144.add ((x4_1).toNat * 2)) = some (.string ((rd_T117 l0_1 x4_1).f0)) ∧ w'.cell? ⟨(ad144.add ((x4_1).toNat * 2)).block, (ad144.add ((x4_1).toNat * 2)).off + 1, none⟩ = some (.slice A144_1 ((rd_T117 l0_1 x4_1).f1).length c144_1) ∧ w'.cell? (ad144.add ((x4_1).toNat * 2)) = some (.string ((rd_T117 l0_1 x4_1).f0)) ∧ w'.cell? ⟨(ad144.add ((x4_1).toNat * 2)).block, (ad144.add ((x4_1).toNat * 2)).off + 1, none⟩ = some (.slice A144_1 ((rd_T117 l0_1 x4_1).f1).length c144_1)) (ds := [20]) (bz 21 0) (by kernel_rfl) rfl (by kernel_rfl) ⟨(blk_cell BK143.out 0).trans rfl, (blk_cell BK143.out 1).trans rfl, (blk_cell BK135.out 0).trans rfl, (blk_cell BK135.out 1).trans rfl, (HXz HB hw144_0 :), (HXz HB hw144_1 :), (HXz HB hw148_0 :), (HXz HB hw148_1 :)⟩ (fun hHeld => ?_); refine with_tabW Vd.tab5 Vd.bits5 (fun HT_ HW_ => ?_)
   generalize wr.drew = w22 at HO_144000 HO_144001 BK135 BK136 BK143 HB HR144_1 HR148_1 hx144_0 hx144_1 hx148_0 hx148_1 hHeld ⊢
   refine PYz 0 17 (bz 21 1) rfl rfl (any_of HT_.out (by kernel_rfl)) ?_
   refine PYz 2 19 (bz 21 5) rfl rfl (any_of HT_.out (by kernel_rfl)) ?_
   refine PYz 4 21 (bz 21 21) rfl rfl (any_of HT_.out (by kernel_rfl)) ?_
   refine PYz 9 26 (bz 21 533) rfl rfl (any_of HT_.out (by kernel_rfl)) ?_
   refine PYz 11 28 (bz 21 2581) rfl rfl (any_of HT_.out (by kernel_rfl)) ?_
   refine PTz 1 18 (bz 21 2583) rfl rfl (take_ofW HT_.out HW_.out (by kernel_rfl)) hHeld ?_
   refine PTz 3 20 (bz 21 2591) rfl rfl (take_ofW HT_.out HW_.out (by kernel_rfl)) hHeld ?_
   refine PYz 5 22 (bz 21 2623) rfl rfl (any_of HT_.out (by kernel_rfl)) ?_
   refine PYz 6 23 (bz 21 2687) rfl rfl (any_of HT_.out (by kernel_rfl)) ?_
   refine PTz 7 24 (bz 21 2815) rfl rfl (take_ofW HT_.out HW_.out (by kernel_rfl)) hHeld ?_
   refine PTz 10 27 (bz 21 3839) rfl rfl (take_ofW HT_.out HW_.out (by kernel_rfl)) hHeld ?_
   refine PYz 12 29 (bz 21 7935) rfl rfl (any_of HT_.out (by kernel_rfl)) ?_
   refine PYz 13 30 (bz 21 16127) rfl rfl (any_of HT_.out (by kernel_rfl)) ?_
   refine PTz 14 31 (bz 21 32511) rfl rfl (take_ofW HT_.out HW_.out (by kernel_rfl)) hHeld ?_
   refine one_ (i := 8) (N := some 25) (bz 21 32767) rfl rfl (one_of HT_.out (by kernel_rfl)) (by decide) (fun K hK => ?_)
   refine Kd.R_lit_step Kd.string _ 9 ?hg (N := 25) ?hd (xs := ([] : List ByteArray)) (inner := []) (ok := fun _ => True) (okp := fun _ => True) ?hr ?hp (fun _ hk => hk) trivial (Below.refl _ _) (Nat.le_refl _) (by simp) ?_; (case hd => rfl); (case hg => rfl); (case hr => first | (go_simp; done) | (go_simp; rfl)); (case hp => exact (Reps.none _ _))
   intro v146 w23 ho24 hb hg_ hnew_
   clear hg_ hnew_
   (first | rw [← Ny145.out] at ho24 | (simp only [Int.reduceToNat] at ho24; rw [← Ny145.out] at ho24))
   have n0_ := Aside0.mk (Kd.R_below (KRz HO_144000) hb)
   have n1_ := Aside0.mk (Kd.S_elder' (KSz HO_144001) (Kd.R_base ho24) hb)
   have n2_ := Aside0.mk (Kd.R_lower ho24 (below_size (HBd GE135 GE136 GE143)))
   have n3_ := BBz BK135 hb
   have n4_ := BBz BK136 hb
   have n5_ := BBz BK143 hb
   have n6_ := Aside0.mk (below_step (HBd GE135 GE136 GE143) hb)
   clear HO_144000
   clear HO_144001
   clear BK135
   clear BK136
   clear BK143
   clear HB
   have HO_144000 := n0_
   have HO_144001 := n1_
   have HO147 := n2_
   have BK135 := n3_
   have BK136 := n4_
   have BK143 := n5_
   have HB := n6_
   clear n0_ n1_ n2_ n3_ n4_ n5_ n6_
   clear hb ho24
   refine hK.out _ _ ⟨(blk_cell BK143.out 0).trans rfl, (blk_cell BK143.out 1).trans rfl, (blk_cell BK135.out 0).trans rfl, (blk_cell BK135.out 1).trans rfl, (HXz HB hw144_0 :), (HXz HB hw144_1 :), (HXz HB hw148_0 :), (HXz HB hw148_1 :)⟩ (fun hHeld => ?_)
   clear hK K
   refine norm_ (a' := ?_) ?_ ?_
   rotate_left
   ·show Act.put _ (some 25) _ = _
    simp only [PUz]
    rfl
   refine one_ (i := 15) (N := some 32) (bz 21 65535) rfl rfl (one_of HT_.out (by kernel_rfl)) (by decide) (fun K hK => ?_)
   refine Kd.R_append_rows_step Kd.string (w0 := w) w.heap.size (by rfl) (.tmp 25) (.tmp 31) 39 9 (.string ⟨#[]⟩) 16 rfl Tryz.underlying39 info9 rfl (by decide) (by omega) v146 y145 ((rd_T117 l0_1 x4_1).f1) _ _ _ (fun _ => True) (fun _ => False) rfl rfl ?aO ?aR (fun _ _ h => h) (fun _ h => h.elim) ?aF ?aB ?aS ?aL ?_
   (case aR => exact KCz (Kd.C_below HR148_1.out HB.out))
   (case aB => exact (HBd GE135 GE136 GE143))
   (case aF => exact (fun _ _ => trivial))
   (case aO => exact (KRz HO147))
   (case aS => exact (below_size (HBd GE135 GE136 GE143)))
   (case aL => have := LMc17.out; omega)
   intro v150 w25 ho hb hg hat
   rw [← Ny149.out] at ho
   have n0_ := Aside0.mk (Kd.R_over' (KRz HO_144000) (Kd.R_typed (KRz HO147)) (by decide) hg)
   have n1_ := Aside0.mk (Kd.S_after (ok := (fun _ => True)) (KSz HO_144001) hg hat)
   have n2_ := Aside0.mk (blk_grown (g := gb135) (o := .cells #[.slice A0_0 l0_0.length c0_0, .slice (some ad144) l0_1.length c0_1] 51 (0, 0)) (BKz BK135) hg (Kd.R_ne HO147.out BK135.out (by decide)))
   have n3_ := Aside0.mk (blk_grown (g := gb136) (o := .cells #[.slice none 0 0, .slice none 0 0] 51 (0, 0)) (BKz BK136) hg (Kd.R_ne HO147.out BK136.out (by decide)))
   have n4_ := Aside0.mk (blk_grown (g := gb143) (o := .cells #[.slice Ao10 y140.length co10, u144001] 51 (0, 0)) (BKz BK143) hg (Kd.R_ne HO147.out BK143.out (by decide)))
   have n5_ := Aside0.mk (hb)
   have n6_ := Aside0.mk (ho)
   clear HO_144000
   clear HO_144001
   clear BK135
   clear BK136
   clear BK143
   clear HB
   clear HO147
   have HO_144000 := n0_
   have HO_144001 := n1_
   have BK135 := n2_
   have BK136 := n3_
   have BK143 := n4_
   have HB := n5_
   have HO151 := n6_
   clear n0_ n1_ n2_ n3_ n4_ n5_ n6_
   clear ho hb hg hat
   obtain ⟨Ao26, co26, eo26⟩ := Kd.R_slice HO151.out
   (first | subst eo26 | (injection eo26 with f1_ f2_ f3_; have f4_ := f1_.symm; have f5_ := f3_.symm; clear f1_ f2_ f3_; subst f4_; subst f5_))
   refine hK.out _ _ ⟨(blk_cell BK143.out 0).trans rfl, (blk_cell BK143.out 1).trans rfl, (blk_cell BK135.out 0).trans rfl, (blk_cell BK135.out 1).trans rfl, (HXz HB hw144_0 :), (HXz HB hw144_1 :), (HXz HB hw148_0 :), (HXz HB hw148_1 :)⟩ (fun hHeld => ?_)
   clear hK K
   refine norm_ (a' := ?_) ?_ ?_
   rotate_left
   ·show Act.put _ (some 32) _ = _
    simp only [PUz]
    rfl
   refine PYz 16 33 (bz 21 131071) rfl rfl (any_of HT_.out (by kernel_rfl)) ?_
   refine one_ (i := 17) (N := some 34) (bz 21 262143) rfl rfl (one_of HT_.out (by kernel_rfl)) (by decide) (fun K hK => ?_)
   refine value_ (w1 := ?_) (v := ?_) (by rfl) rfl ?_ ?_
   rotate_left 2
   ·go_simp
    constructor
    ·rfl
    ·rfl
   refine hK.out _ _ ⟨(blk_cell (blk_alloc BK143.out _) 0).trans rfl, (blk_cell (blk_alloc BK143.out _) 1).trans rfl, (blk_cell (blk_alloc BK135.out _) 0).trans rfl, (blk_cell (blk_alloc BK135.out _) 1).trans rfl, (World.cell?_alloc_lt _ _ _ (World.block_lt_of_cell? _ _ ((HXz HB hw144_0 :)))).trans ((HXz HB hw144_0 :)), (World.cell?_alloc_lt _ _ _ (World.block_lt_of_cell? _ _ ((HXz HB hw144_1 :)))).trans ((HXz HB hw144_1 :)), (World.cell?_alloc_lt _ _ _ (World.block_lt_of_cell? _ _ ((HXz HB hw148_0 :)))).trans ((HXz HB hw148_0 :)), (World.cell?_alloc_lt _ _ _ (World.block_lt_of_cell? _ _ ((HXz HB hw148_1 :)))).trans ((HXz HB hw148_1 :))⟩ (fun hHeld => ?_)
   clear hK K
   refine norm_ (a' := ?_) ?_ ?_
   rotate_left
   ·show Act.put _ (some 34) _ = _
    simp only [PUz]
    rfl
   refine one_ (i := 18) (N := some 35) (bz 21 524287) rfl rfl (one_of HT_.out (by kernel_rfl)) (by decide) (fun K hK => ?_)
   refine Kd.S_append_step k117 (w0 := w) w.heap.size (by rfl) (.tmp 18) (.tmp 34) 49 117 (.agg #[(.string ⟨#[]⟩), (.slice none 0 0)]) 40 rfl Tryz.underlying49 info117 rfl (by decide) (by omega) u144001 x144001_1 (⟨(rd_T117 l0_1 x4_1).f0, y149⟩ : S117) [.string ((rd_T117 l0_1 x4_1).f0), .slice Ao26 y149.length co26] (fun _ => True) (fun k_ => some k_ = (.slice Ao26 y149.length co26 : Value).ownBlock) rfl rfl ?aP (fun k_ hk_ => ((Kd.R_mono (ok' := fun k_ => ((fun _ => True)) k_ ∧ some k_ ≠ (u144001 : Value).ownBlock) (Kd.R_apart' (HO151.out) (Kd.S_typed HO_144001.out) (by decide)) (fun k_ hk => ⟨trivial, hk.2⟩))).1 k_ hk_.symm) ?aF ?aO ?aB ?aS ?aL ?_
   (case aP => exact k117_mkM _ _ _ (⟨(rd_T117 l0_1 x4_1).f0, y149⟩ : S117) (Kd.R_mono (Kd.R_tight rfl (Kd.R_mono (ok' := fun k_ => ((fun _ => True)) k_ ∧ some k_ ≠ (u144001 : Value).ownBlock) (Kd.R_apart' (HO151.out) (Kd.S_typed HO_144001.out) (by decide)) (fun k_ hk => ⟨trivial, hk.2⟩))) (fun _ h_ => h_)))
   (case aB => exact (HBd GE135 GE136 GE143))
   (case aF => exact (fun _ _ => trivial))
   (case aO => exact (by (with_reducible repeat (first | apply Kd.S_alloc | apply Kd.S_drewN | apply Kd.S_drew)); exact Kd.S_mono HO_144001.out (fun k_ hk => ⟨trivial, fun e_ => hk.2 e_⟩)))
   (case aS => exact (below_size (HBd GE135 GE136 GE143)))
   (case aL => have := LMc18.out; omega)
   intro v153 w27 ho hb hg hat
   rw [← Ny152.out] at ho
   have n0_ := Aside0.mk (Kd.R_over' (KRz HO_144000) (Kd.S_typed (KSz HO_144001)) (by decide) hg)
   have n1_ := Aside0.mk (blk_grown (g := gb135) (o := .cells #[.slice A0_0 l0_0.length c0_0, .slice (some ad144) l0_1.length c0_1] 51 (0, 0)) (BKz BK135) hg (Kd.S_ne HO_144001.out BK135.out (by decide)))
   have n2_ := Aside0.mk (blk_grown (g := gb136) (o := .cells #[.slice none 0 0, .slice none 0 0] 51 (0, 0)) (BKz BK136) hg (Kd.S_ne HO_144001.out BK136.out (by decide)))
   have n3_ := Aside0.mk (blk_grown (g := gb143) (o := .cells #[.slice Ao10 y140.length co10, u144001] 51 (0, 0)) (BKz BK143) hg (Kd.S_ne HO_144001.out BK143.out (by decide)))
   have n4_ := Aside0.mk (hb)
   have n5_ := Aside0.mk (ho)
   clear HO_144000
   clear BK135
   clear BK136
   clear BK143
   clear HB
   clear HO_144001
   clear HO151
   have HO_144000 := n0_
   have BK135 := n1_
   have BK136 := n2_
   have BK143 := n3_
   have HB := n4_
   have HO154 := n5_
   clear n0_ n1_ n2_ n3_ n4_ n5_
   clear ho hb hg hat
   obtain ⟨Ao28, co28, eo28⟩ := Kd.S_slice HO154.out
   (first | subst eo28 | (injection eo28 with f1_ f2_ f3_; have f4_ := f1_.symm; have f5_ := f3_.symm; clear f1_ f2_ f3_; subst f4_; subst f5_))
   refine hK.out _ _ ⟨(blk_cell BK143.out 0).trans rfl, (blk_cell BK143.out 1).trans rfl, (blk_cell BK135.out 0).trans rfl, (blk_cell BK135.out 1).trans rfl, (HXz HB hw144_0 :), (HXz HB hw144_1 :), (HXz HB hw148_0 :), (HXz HB hw148_1 :)⟩ (fun hHeld => ?_)
   clear hK K
   refine norm_ (a' := ?_) ?_ ?_
   rotate_left
   ·show Act.put _ (some 35) _ = _
    simp only [PUz]
    rfl
   refine PYz 19 36 (bz 21 1048575) rfl rfl (any_of HT_.out (by kernel_rfl)) ?_
   refine last_ (i := 20) (N := none) (bz 21 2097151) rfl rfl (one_of HT_.out (by kernel_rfl)) (by decide) (fun K hK => ?_)
   have hs29 : w27.cell? ⟨gb143, 1, none⟩ = some (u144001) := (blk_cell BK143.out 1).trans rfl
   have hfs29 := blk_frozen BK143.out 1
   have hns29_0 := NB135_143.out
   have hns29_1 := NB136_143.out
   have hms29_0 := NB143_135.out
   have hms29_1 := NB143_136.out
   refine skip_ (w1 := ?_) (by rfl) rfl ?_ ?_
   rotate_left
   ·go_simp
    rfl
   refine hK.out _ _ ?_
   clear hK K
   refine done_ (done_of HT_.out (by kernel_rfl)) ?_
   try go_wp2
   go_roundg k1
   case measure => have := HK1.out; omega
   case rel => exact ⟨(wrap64 (x4_1 + 1)), (y152), (.slice Ao28 y152.length co28), EZc, H', ⟨by have := HK1.out; omega⟩, ⟨by (with_reducible repeat (first | apply Kd.R_alloc | apply Kd.R_drewN | apply Kd.R_drew)); exact Kd.R_mono (Kd.R_far (p := ⟨gb143, 1, none⟩) (Kd.R_types HO_144000.out BK143.out (by decide)) (fun _ hk => hk.2) (.slice Ao28 y152.length co28)) (fun _ hk => trivial)⟩, ⟨by (with_reducible repeat (first | apply Kd.S_alloc | apply Kd.S_drewN | apply Kd.S_drew)); exact Kd.S_mono (Kd.S_far (p := ⟨gb143, 1, none⟩) (Kd.S_types HO154.out BK143.out (by decide)) (fun _ hk => hk.2) (.slice Ao28 y152.length co28)) (fun _ hk => trivial)⟩, ⟨by (with_reducible repeat first | apply blk_drewN | apply blk_drew | apply blk_alloc); refine blk_far ?_ NB135_143.out _; (with_reducible repeat first | apply blk_drewN | apply blk_drew | apply blk_alloc); exact BK135.out⟩, ⟨by (with_reducible repeat first | apply blk_drewN | apply blk_drew | apply blk_alloc); refine blk_far ?_ NB136_143.out _; (with_reducible repeat first | apply blk_drewN | apply blk_drew | apply blk_alloc); exact BK136.out⟩, ⟨by (with_reducible repeat first | apply blk_drewN | apply blk_drew | apply blk_alloc); refine blk_put (cs := #[.slice Ao10 y140.length co10, u144001]) ?_ 1 _ rfl; (with_reducible repeat first | apply blk_drewN | apply blk_drew | apply blk_alloc); exact BK143.out⟩, ⟨by repeat (first | (with_reducible first | exact HB.out | apply below_alloc | apply pw_below_drewN | apply below_drew1 | refine below_set ?_ GE135.out | refine below_set ?_ GE136.out | refine below_set ?_ GE143.out) | exact HB.out)⟩⟩
def Vb.l0 : Nat → ByteArray → Int → List (S96) → List (S117) → Option (Int)
 | 0, _, _, _, _ => none
 | k + 1, x1, x5, x156000, x156001 => if x5 < (x156001.length : Int) then (if 0 ≤ x5 then (if ((rd_T117 x156001 x5).f0).toList = x1.toList then (some x5) else (Vb.l0 k x1 (wrap64 (x5 + 1)) x156000 x156001)) else (none)) else (some (-1))
def Vb.f (k : Nat) (l0_0 : List (S96)) (l0_1 : List (S117)) (a1 : ByteArray) : Option (Int) := Vb.l0 k a1 0 l0_0 l0_1
theorem Vb.mono_l : ∀ k, (∀ y0 y1 y2 y3, LeO (Vb.l0 k y0 y1 y2 y3) (Vb.l0 (k + 1) y0 y1 y2 y3))
 | 0 => fun _ _ _ _ r h => by simp [Vb.l0] at h
 | k + 1 => by
  have ih0 := Vb.mono_l k
  ·intro y0 y1 y2 y3
   unfold Vb.l0
   with_reducible repeat' first | exact ih0 _ _ _ _ | exact LeO.refl _ | exact LeO.none _ | refine LeO.ite ?_ ?_ | refine LeO.bind ?_ (fun _ => ?_)
theorem Vb.mono : ∀ a0 a1 a2 k, LeO (Vb.f k a0 a1 a2) (Vb.f (k + 1) a0 a1 a2) := by
 intro a0 a1 a2 k
 have ih0 := Vb.mono_l k
 unfold Vb.f
 with_reducible repeat' first | exact ih0 _ _ _ _ | exact LeO.refl _ | exact LeO.none _ | refine LeO.ite ?_ ?_ | refine LeO.bind ?_ (fun _ => ?_)
theorem Vb.calls (k : Nat) (A0_0 : Option Addr) (c0_0 : Nat) (l0_0 : List (S96)) (A0_1 : Option Addr) (c0_1 : Nat) (l0_1 : List (S117)) (a1 : ByteArray) (r : Int) (w : World) (hr0_0 : Kd.C k96 w A0_0 l0_0.length l0_0) (hc0_0 : l0_0.length ≤ c0_0) (hr0_1 : Kd.C k117 w A0_1 l0_1.length l0_1) (hc0_1 : l0_1.length ≤ c0_1) (h : Vb.f k l0_0 l0_1 a1 = some r) :
  Calls Tryz.prog 190 #[.agg #[.slice A0_0 l0_0.length c0_0, .slice A0_1 l0_1.length c0_1], .string a1] w fun e w' => e = .returned (.int .i64 r) ∧ Below w.heap.size w w' := by
 have hu51 := Tryz.underlying51
 have HR0_0 := Aside0.mk hr0_0
 have HC0_0 := Aside0.mk hc0_0
 clear hr0_0 hc0_0
 have HR0_1 := Aside0.mk hr0_1
 have HC0_1 := Aside0.mk hc0_1
 clear hr0_1 hc0_1
 have HB := Aside0.mk (Below.refl w.heap.size w)
 have H : (Vb.l0 k a1 0 l0_0 l0_1) = some r := h
 clear h
 have H' := Aside0.mk H
 clear H
 go_enter Tryz.func190, Tryz.ntmps190
 go_wp2_with (first | ((with_reducible refine gate_dst (N := 2) rfl ?_); refine box_event ?hg (N := 2) ?hd (cs := #[.slice A0_0 l0_0.length c0_0, .slice A0_1 l0_1.length c0_1]) (t := 51) ?hr ?_; (case hd => rfl); (case hg => rfl); (case hr => first | (go_simp; done) | (go_simp; rfl)); intro gb155 hg w3 hbox hb; have n0_ := Aside0.mk (below_step HBa hb); have n1_ := Aside0.mk (hbox); have n2_ := BSz w hg HBa; have n3_ := BSz w hg HBa; clear HB; have HB := n0_; have BK155 := n1_; have GW155 := n2_; have GE155 := n3_; clear n0_ n1_ n2_ n3_; clear hb hbox hg))
 go_loopg [5] k (fun kq v5 w' => ∃ (x5_1 : Int), v5 = .int .i64 x5_1 ∧ Aside0 (Vb.l0 kq a1 x5_1 l0_0 l0_1 = some r) ∧ Aside0 (kq ≤ k) ∧ Aside0 (w'.heap[gb155]? = some (.cells #[(.slice A0_0 l0_0.length c0_0), (.slice A0_1 l0_1.length c0_1)] 51 (0, 0))) ∧ Aside0 (Below w.heap.size w w'))
 case atStart => exact ⟨(0), EZc, H', ⟨Nat.le_refl _⟩, ⟨by (with_reducible repeat first | apply blk_drewN | apply blk_drew | apply blk_alloc); exact BK155.out⟩, ⟨by repeat (first | (with_reducible first | exact HB.out | apply below_alloc | apply pw_below_drewN | apply below_drew1 | refine below_set ?_ GE155.out) | exact HB.out)⟩⟩
 case round =>
  clear H'
  obtain ⟨x5_1, rfl, HA, HK1, BK155, HB⟩ := hrel
  cases gk with
  | zero => exact absurd HA.out (by simp [Vb.l0])
  | succ k1 =>
   have H := HA.out
   clear HA
   simp only [Vb.l0] at H
   by_cases c4 : x5_1 < (l0_1.length : Int)
   rotate_left
   ·rw [if_neg c4] at H
    have c4b0 := decide_eq_false c4
    clear c4
    obtain rfl := Option.some.inj H
    clear H
    have hcz9_0 := C1z BK155
    have hcz9_1 := C2z BK155
    have hfz9_0 := blk_frozen BK155.out 0
    have hfz9_1 := blk_frozen BK155.out 1
    go_wp2
    go_ret
    exact ⟨EZa, HBb GE155⟩
   rw [if_pos c4] at H
   have c4b0 := decide_eq_true c4
   clear c4
   by_cases c5 : 0 ≤ x5_1
   rotate_left
   ·rw [if_neg c5] at H
    exact absurd H (by simp)
   rw [if_pos c5] at H
   have c5b0 := decide_eq_true c5
   clear c5
   by_cases c6 : ((rd_T117 l0_1 x5_1).f0).toList = a1.toList
   rotate_left
   ·rw [if_neg c6] at H
    obtain ⟨c6b0, c6b1⟩ := QFz c6
    have H' := Aside0.mk H
    clear H
    have hcz8_0 := C1z BK155
    have hcz8_1 := C2z BK155
    have hfz8_0 := blk_frozen BK155.out 0
    have hfz8_1 := blk_frozen BK155.out 1
    have p156 : 0 ≤ (x5_1 : Int) := ODz
    have q156 : x5_1 < (l0_1.length : Int) := ODz
    obtain ⟨ad156, A156_1, c156_1, e156, hx156_0, hx156_1, hl156_1, hi156_1⟩ := at_T117 HR0_1.out x5_1 p156 q156
    cases e156
    replace hx156_0 := HXz HB hx156_0
    replace hx156_1 := HXz HB hx156_1
    have HR156_1 := Aside0.mk hi156_1
    have HC156_1 := Aside0.mk hl156_1
    clear hi156_1 hl156_1
    replace p156 := eq_true p156
    replace q156 := eq_true q156
    go_wp2
    go_roundg k1
    case measure => have := HK1.out; omega
    case rel => exact ⟨(wrap64 (x5_1 + 1)), EZc, H', ⟨by have := HK1.out; omega⟩, ⟨by (with_reducible repeat first | apply blk_drewN | apply blk_drew | apply blk_alloc); exact BK155.out⟩, ⟨by repeat (first | (with_reducible first | exact HB.out | apply below_alloc | apply pw_below_drewN | apply below_drew1 | refine below_set ?_ GE155.out) | exact HB.out)⟩⟩
   rw [if_pos c6] at H
   obtain ⟨c6b0, c6b1⟩ := QTz c6
   clear c6
   obtain rfl := Option.some.inj H
   clear H
   have hcz7_0 := C1z BK155
   have hcz7_1 := C2z BK155
   have hfz7_0 := blk_frozen BK155.out 0
   have hfz7_1 := blk_frozen BK155.out 1
   have p156 : 0 ≤ (x5_1 : Int) := ODz
   have q156 : x5_1 < (l0_1.length : Int) := ODz
   obtain ⟨ad156, A156_1, c156_1, e156, hx156_0, hx156_1, hl156_1, hi156_1⟩ := at_T117 HR0_1.out x5_1 p156 q156
   cases e156
   replace hx156_0 := HXz HB hx156_0
   replace hx156_1 := HXz HB hx156_1
   have HR156_1 := Aside0.mk hi156_1
   have HC156_1 := Aside0.mk hl156_1
   clear hi156_1 hl156_1
   replace p156 := eq_true p156
   replace q156 := eq_true q156
   go_wp2
   go_ret
   exact ⟨EZa, HBb GE155⟩
def Vf.l0 : Nat → List ByteArray → ByteArray → Int → Option (Int)
 | 0, _, _, _ => none
 | k + 1, x0, x1, x5 => if x5 < (x0.length : Int) then (if 0 ≤ x5 then ((Qr.f k (rdOf ByteArray.empty x0 x5)).bind fun t158 => (if t158.toList = x1.toList then (some x5) else (Vf.l0 k x0 x1 (wrap64 (x5 + 1))))) else (none)) else (some (-1))
def Vf.f (k : Nat) (l0 : List ByteArray) (a1 : ByteArray) : Option (Int) := Vf.l0 k l0 a1 0
theorem Vf.mono_l : ∀ k, (∀ y0 y1 y2, LeO (Vf.l0 k y0 y1 y2) (Vf.l0 (k + 1) y0 y1 y2))
 | 0 => fun _ _ _ r h => by simp [Vf.l0] at h
 | k + 1 => by
  have ih0 := Vf.mono_l k
  ·intro y0 y1 y2
   unfold Vf.l0
   with_reducible repeat' first | exact ih0 _ _ _ | exact Qr.mono _ _ | exact LeO.refl _ | exact LeO.none _ | refine LeO.ite ?_ ?_ | refine LeO.bind ?_ (fun _ => ?_)
theorem Vf.mono : ∀ a0 a1 k, LeO (Vf.f k a0 a1) (Vf.f (k + 1) a0 a1) := by
 intro a0 a1 k
 have ih0 := Vf.mono_l k
 unfold Vf.f
 with_reducible repeat' first | exact ih0 _ _ _ | exact Qr.mono _ _ | exact LeO.refl _ | exact LeO.none _ | refine LeO.ite ?_ ?_ | refine LeO.bind ?_ (fun _ => ?_)
theorem Vf.calls (k : Nat) (A0 : Option Addr) (c0 : Nat) (l0 : List ByteArray) (a1 : ByteArray) (r : Int) (w : World) (hr0 : Kd.C Kd.string w A0 l0.length l0) (hc0 : l0.length ≤ c0) (h : Vf.f k l0 a1 = some r) :
  Calls Tryz.prog 161 #[.slice A0 l0.length c0, .string a1] w fun e w' => e = .returned (.int .i64 r) ∧ Below w.heap.size w w' := by
 have HR0 := Aside0.mk hr0
 have HC0 := Aside0.mk hc0
 clear hr0 hc0
 have HB := Aside0.mk (Below.refl w.heap.size w)
 have H : (Vf.l0 k l0 a1 0) = some r := h
 clear h
 have H' := Aside0.mk H
 clear H
 go_enter Tryz.func161, Tryz.ntmps161
 go_wp2
 go_loopg [5] k (fun kq v5 w' => ∃ (x5_1 : Int), v5 = .int .i64 x5_1 ∧ Aside0 (Vf.l0 kq l0 a1 x5_1 = some r) ∧ Aside0 (kq ≤ k) ∧ Aside0 (Below w.heap.size w w'))
 case atStart => exact ⟨(0), EZc, H', ⟨Nat.le_refl _⟩, ⟨HBa⟩⟩
 case round =>
  clear H'
  obtain ⟨x5_1, rfl, HA, HK1, HB⟩ := hrel
  cases gk with
  | zero => exact absurd HA.out (by simp [Vf.l0])
  | succ k1 =>
   have H := HA.out
   clear HA
   simp only [Vf.l0] at H
   by_cases c3 : x5_1 < (l0.length : Int)
   rotate_left
   ·rw [if_neg c3] at H
    have c3b0 := decide_eq_false c3
    clear c3
    obtain rfl := Option.some.inj H
    clear H
    go_wp2
    go_ret
    exact ⟨EZa, HBa⟩
   rw [if_pos c3] at H
   have c3b0 := decide_eq_true c3
   clear c3
   by_cases c4 : 0 ≤ x5_1
   rotate_left
   ·rw [if_neg c4] at H
    exact absurd H (by simp)
   rw [if_pos c4] at H
   have c4b0 := decide_eq_true c4
   clear c4
   replace H := Option.bind_eq_some_iff.mp H
   obtain ⟨t158, A50, H⟩ := H
   replace H : (if t158.toList = a1.toList then (some x5_1) else (Vf.l0 k1 l0 a1 (wrap64 (x5_1 + 1)))) = some r := H
   have A5 := Aside0.mk A50
   clear A50
   by_cases c6 : t158.toList = a1.toList
   ·rw [if_pos c6] at H
    obtain ⟨c6b0, c6b1⟩ := QTz c6
    clear c6
    obtain rfl := Option.some.inj H
    clear H
    have p157 : 0 ≤ (x5_1 : Int) := ODz
    have q157 : x5_1 < (l0.length : Int) := ODz
    obtain ⟨ad157, e157, hx157_0⟩ := Kd.at_string HR0.out x5_1 p157 q157
    cases e157
    replace hx157_0 := HXz HB hx157_0
    replace p157 := eq_true p157
    replace q157 := eq_true q157
    go_wp2_with (first | ((with_reducible refine gate_callee (f := 110) rfl ?_); refine goesL_ (some 16) rfl rfl Tryz.func110 (by kernel_rfl) rfl #[.string (rdOf ByteArray.empty l0 x5_1)] rfl MPz ?_; (with_reducible refine (Qr.calls k1 (rdOf ByteArray.empty l0 x5_1) t158 _ A5.out).mono ?_); rintro e w7 ⟨rfl, hb⟩; refine ⟨_, rfl, ?_⟩; have n0_ := Aside0.mk (below_step HBa hb); clear HB; have HB := n0_; clear n0_; (try clear hb); (try clear hb2); (try clear hk); (try clear hi)))
    go_ret
    exact ⟨EZa, HBa⟩
   rw [if_neg c6] at H
   obtain ⟨c6b0, c6b1⟩ := QFz c6
   have H' := Aside0.mk H
   clear H
   have p157 : 0 ≤ (x5_1 : Int) := ODz
   have q157 : x5_1 < (l0.length : Int) := ODz
   obtain ⟨ad157, e157, hx157_0⟩ := Kd.at_string HR0.out x5_1 p157 q157
   cases e157
   replace hx157_0 := HXz HB hx157_0
   replace p157 := eq_true p157
   replace q157 := eq_true q157
   go_wp2_with (first | ((with_reducible refine gate_callee (f := 110) rfl ?_); refine goesL_ (some 16) rfl rfl Tryz.func110 (by kernel_rfl) rfl #[.string (rdOf ByteArray.empty l0 x5_1)] rfl MPz ?_; (with_reducible refine (Qr.calls k1 (rdOf ByteArray.empty l0 x5_1) t158 _ A5.out).mono ?_); rintro e w8 ⟨rfl, hb⟩; refine ⟨_, rfl, ?_⟩; have n0_ := Aside0.mk (below_step HBa hb); clear HB; have HB := n0_; clear n0_; (try clear hb); (try clear hb2); (try clear hk); (try clear hi)))
   go_roundg k1
   case measure => have := HK1.out; omega
   case rel => exact ⟨(wrap64 (x5_1 + 1)), EZc, H', ⟨by have := HK1.out; omega⟩, ⟨HBa⟩⟩
theorem Y.w64 {x : Int} (h0 : -9223372036854775808 ≤ x) (h1 : x ≤ 9223372036854775807) : wrap64 x = x := by unfold wrap64; omega
theorem Y.u64w {x : Int} (h0 : 0 ≤ x) (h1 : x < 18446744073709551616) : IntKind.u64.wrap x = x := by rw [IntKind.wrap_u64]; omega
def Y.SrcOK (b : List Int) (a m : Int) : Prop := b.length ≤ 140737488351232 ∧ (∀ x ∈ b, 0 ≤ x ∧ x ≤ 255) ∧ 0 ≤ a ∧ a ≤ b.length ∧ 0 ≤ m ∧ m < 18446744073709551616
theorem Y.u64_bits_range (op : BinOp) (x y : Int) : 0 ≤ Go.bits op .u64 x y ∧ Go.bits op .u64 x y < 18446744073709551616 := by
 unfold Go.bits
 rw [IntKind.wrap_u64]
 omega
theorem Y.wf_u8 {n : Int} (h : (Lit.int .u8 n).wf = true) : 0 ≤ n ∧ n ≤ 255 := by
 simpa [Lit.wf, IntKind.min, IntKind.max, IntKind.bits, IntKind.signed] using h
theorem Y.draw_n (b : List Int) (a m z most : Int) (h : Y.SrcOK b a m) (h1 : most ≤ 9223372036854775807) :
  ∃ r a' m', Qu.f b a m z most = some (r, a', m', z) ∧ 0 ≤ r ∧ (1 ≤ most → r < most) ∧ Y.SrcOK b a' m' := by
 obtain ⟨hb, hr, ha0, ha1, hm0, hm1⟩ := h
 unfold Qu.f
 by_cases hm : most ≤ 1
 ·rw [if_pos hm]
  exact ⟨0, a, m, rfl, by omega, by omega, hb, hr, ha0, ha1, hm0, hm1⟩
 rw [if_neg hm]
 have hw : IntKind.u64.wrap most = most := Y.u64w (by omega) (by omega)
 have fin : ∀ X : Int, 0 ≤ X → wrap64 (Int.tmod X most) = X % most ∧ 0 ≤ X % most ∧ X % most < most := by
  intro X hX
  have h3 : 0 ≤ X % most := Int.emod_nonneg _ (by omega)
  have h4 : X % most < most := Int.emod_lt_of_pos _ (by omega)
  rw [Int.tmod_eq_emod_of_nonneg hX]
  exact ⟨Y.w64 (by omega) (by omega), h3, h4⟩
 have uw : ∀ x : Int, 0 ≤ IntKind.u64.wrap x := fun x => by rw [IntKind.wrap_u64]; omega
 generalize hM : Go.bits .xor .u64 (Go.bits .xor .u64 (Go.bits .xor .u64 m (IntKind.u64.wrap (m * 8192))) ((Go.bits .xor .u64 m (IntKind.u64.wrap (m * 8192))) / 128)) (IntKind.u64.wrap ((Go.bits .xor .u64 (Go.bits .xor .u64 m (IntKind.u64.wrap (m * 8192))) ((Go.bits .xor .u64 m (IntKind.u64.wrap (m * 8192))) / 128)) * 131072)) = M
 have hMr : 0 ≤ M ∧ M < 18446744073709551616 := by rw [← hM]; exact Y.u64_bits_range _ _ _
 rw [hw, if_neg (show ¬ most = 0 by omega), if_neg (show ¬ most = 0 by omega)]
 by_cases hl : a < (b.length : Int)
 ·rw [if_pos hl, if_pos ha0, Y.w64 (x := a + 1) (by omega) (by omega)]
  obtain ⟨e, e0, e1⟩ := fin (IntKind.u64.wrap (IntKind.u64.wrap (rd b a) + M / 1048576)) (uw _)
  rw [e]
  exact ⟨_, _, _, rfl, e0, fun _ => e1, hb, hr, by omega, by omega, hMr.1, hMr.2⟩
 rw [if_neg hl]
 obtain ⟨e, e0, e1⟩ := fin (IntKind.u64.wrap (0 + M / 1048576)) (uw _)
 rw [e]
 exact ⟨_, _, _, rfl, e0, fun _ => e1, hb, hr, ha0, ha1, hMr.1, hMr.2⟩
theorem Y.draw_source_l0 (l : List Int) : ∀ (d k : Nat) (i m : Int), 0 ≤ i → i + d = 64 → d < k → 0 ≤ m → m < 18446744073709551616 →
  ∃ m' z', Qt.l0 k l i l 0 m 0 = some (l, 0, m', z') ∧ 0 ≤ m' ∧ m' < 18446744073709551616
 | d, k, i, m, h0, hd, hk, hm0, hm1 => by
  obtain ⟨k, rfl⟩ : ∃ q, k = q + 1 := ⟨k - 1, by omega⟩
  rw [Qt.l0]
  have fin : ∀ X : Int, ∃ m' z', (if X > 12 then some (l, (0 : Int), m, (12 : Int)) else some (l, (0 : Int), m, X)) = some (l, 0, m', z') ∧ 0 ≤ m' ∧ m' < 18446744073709551616 := by
   intro X
   split
   ·exact ⟨m, _, rfl, hm0, hm1⟩
   ·exact ⟨m, _, rfl, hm0, hm1⟩
  by_cases hl : i < (l.length : Int)
  ·rw [if_pos hl]
   by_cases h64 : i < 64
   ·rw [if_pos h64, if_pos h0, Y.w64 (x := i + 1) (by omega) (by omega)]
    cases d with
    | zero => omega
    | succ d =>
     have hr : ∀ x : Int, 0 ≤ IntKind.u64.wrap x ∧ IntKind.u64.wrap x < 18446744073709551616 := fun x => by rw [IntKind.wrap_u64]; omega
     exact Y.draw_source_l0 l d k (i + 1) _ (by omega) (by omega) (by omega) (hr _).1 (hr _).2
   ·rw [if_neg h64]; exact fin _
  ·rw [if_neg hl]; exact fin _
theorem Y.draw_source (l : List Int) (hl : l.length ≤ 140737488351232) (hr : ∀ x ∈ l, 0 ≤ x ∧ x ≤ 255) (k : Nat) (hk : 65 ≤ k) :
  ∃ m z, Qt.f k l = some (l, 0, m, z) ∧ Y.SrcOK l 0 m := by
 obtain ⟨m, z, e, h0, h1⟩ := Y.draw_source_l0 l 64 k 0 88172645463325252 (by omega) (by omega) (by omega) (by omega) (by omega)
 exact ⟨m, z, e, hl, hr, by omega, by omega, h0, h1⟩
theorem Y.draw_one (b : List Int) (a m z most : Int) (h : Y.SrcOK b a m) (h1 : most ≤ 9223372036854775807) :
  ∃ r a' m', Qv.f b a m z most = some (r, a', m', z) ∧ Y.SrcOK b a' m' := by
 obtain ⟨r, a', m', e, _, _, h'⟩ := Y.draw_n b a m z most h h1
 unfold Qv.f
 rw [e]
 exact ⟨_, _, _, rfl, h'⟩
theorem Y.draw_pick (b : List Int) (a m z : Int) (l : List ByteArray) (h : Y.SrcOK b a m) (h0 : 0 < l.length) (h1 : l.length ≤ 1000) :
  ∃ v a' m', Qw.f b a m z l = some (v, a', m', z) ∧ v ∈ l ∧ Y.SrcOK b a' m' := by
 obtain ⟨r, a', m', e, r0, r1, h'⟩ := Y.draw_n b a m z (l.length : Int) h (by omega)
 unfold Qw.f
 rw [e]
 simp only [Option.bind_some]
 have := r1 (by omega)
 rw [if_pos r0, if_pos this]
 refine ⟨_, _, _, rfl, ?_, h'⟩
 unfold rdOf
 rw [List.getD_eq_getElem?_getD, List.getElem?_eq_getElem (by omega)]
 exact List.getElem_mem _
def Y.DS (w0 W : World) (g : Nat) : Prop := (∃ b a m z, Y.SrcOK b a m ∧ IsS112 w0 W g b a m z) ∧ Below w0.heap.size w0 W
section
variable {w0 W W1 : World} {g : Nat}
theorem Y.DS.lt (h : Y.DS w0 W g) : g < W.heap.size := by
 obtain ⟨⟨_, _, _, _, _, h1⟩, _⟩ := h
 exact IsS112.lt h1
theorem Y.DS.blk (h : Y.DS w0 W g) : ∃ cs, W.heap[g]? = some (.cells cs 112 (0, 0)) := by
 obtain ⟨⟨_, _, _, _, _, A, c, hb, _⟩, _⟩ := h
 exact ⟨_, hb⟩
theorem Y.DS.below (h : Y.DS w0 W g) (hb : Below W.heap.size W W1) : Y.DS w0 W1 g := by
 obtain ⟨⟨_, _, _, _, h0, h1⟩, h2⟩ := h
 exact ⟨⟨_, _, _, _, h0, IsS112.below h1 hb⟩, below_step h2 hb⟩
theorem Y.DS.alloc (h : Y.DS w0 W g) (o : Obj) : Y.DS w0 (W.alloc o) g := Y.DS.below h (below_alloc (Below.refl _ _) o)
theorem Y.DS.drew (h : Y.DS w0 W g) : Y.DS w0 W.drew g := ⟨h.1, below_drew1 h.2⟩
theorem Y.DS.drewN (h : Y.DS w0 W g) (m : Nat) : Y.DS w0 (W.drewN m) g := ⟨h.1, pw_below_drewN h.2 m⟩
theorem Y.DS.far (h : Y.DS w0 W g) {b i : Nat} (hne : g ≠ b) (hb : w0.heap.size ≤ b) (u : Value) : Y.DS w0 (W.setCell ⟨b, i, none⟩ u) g := by
 obtain ⟨⟨_, _, _, _, h0, h1⟩, h2⟩ := h
 exact ⟨⟨_, _, _, _, h0, IsS112.far h1 hne u⟩, below_set h2 hb⟩
theorem Y.DS.n (h : Y.DS w0 W g) (most : Int) (h1 : most ≤ 9223372036854775807) : Calls Tryz.prog 51 #[.pointer (some ⟨g, 0, none⟩), .int .i64 most] W fun e w' => ∃ r : Int, e = .returned (.int .i64 r) ∧ 0 ≤ r ∧ (1 ≤ most → r < most) ∧ Y.DS w0 w' g ∧ KeepBut W w' g none := by
 obtain ⟨⟨b, a, m, z, h0, hI⟩, hB⟩ := h
 obtain ⟨r, a', m', e, r0, r1, h0'⟩ := Y.draw_n b a m z most h0 h1
 refine (Qu.calls g b a m z most r a' m' z w0 W hI hB e).mono ?_
 rintro e w' ⟨rfl, hi, hb, hk⟩
 exact ⟨r, rfl, r0, r1, ⟨⟨_, _, _, _, h0', hi⟩, hb⟩, hk⟩
theorem Y.DS.one (h : Y.DS w0 W g) (most : Int) (h1 : most ≤ 9223372036854775807) : Calls Tryz.prog 87 #[.pointer (some ⟨g, 0, none⟩), .int .i64 most] W fun e w' => ∃ r : Bool, e = .returned (.bool r) ∧ Y.DS w0 w' g ∧ KeepBut W w' g none := by
 obtain ⟨⟨b, a, m, z, h0, hI⟩, hB⟩ := h
 obtain ⟨r, a', m', e, h0'⟩ := Y.draw_one b a m z most h0 h1
 refine (Qv.calls g b a m z most r a' m' z w0 W hI hB e).mono ?_
 rintro e w' ⟨rfl, hi, hb, hk⟩
 exact ⟨r, rfl, ⟨⟨_, _, _, _, h0', hi⟩, hb⟩, hk⟩
theorem Y.litC (W : World) (xs : List ByteArray) (hx : xs.length ≤ 1000) : Kd.C Kd.string (W.alloc (.cells (xs.map Value.string).toArray 9)) (some ⟨W.heap.size, 0, none⟩) xs.length xs := by
 have hb := blk_new W (.cells (xs.map Value.string).toArray 9)
 refine ⟨rfl, by omega, fun _ => ⟨⟨W.heap.size, 0, none⟩, rfl, fun j p hp => ⟨[.string p], rfl, rfl, fun i u hu => ?_⟩⟩⟩
 cases i with
 | succ i => simp at hu
 | zero =>
  simp at hu
  subst hu
  have e1 : (⟨W.heap.size, 0, none⟩ : Addr).add (j * Kd.string.sz + 0) = ⟨W.heap.size, j, none⟩ := by simp [Addr.add, Kd.string, Kd.scalar, eq_comm]
  rw [e1, blk_cell hb j]
  simp [hp]
theorem Y.DS.pick (h : Y.DS w0 W g) (l : List ByteArray) (h0 : 0 < l.length) (h1 : l.length ≤ 1000) : Calls Tryz.prog 53 #[.pointer (some ⟨g, 0, none⟩), .slice (some ⟨W.heap.size, 0, none⟩) l.length l.length] (W.alloc (.cells (l.map Value.string).toArray 9)) fun e w' => ∃ v : ByteArray, e = .returned (.string v) ∧ v ∈ l ∧ Y.DS w0 w' g ∧ KeepBut W w' g none := by
 have hlt := Y.DS.lt h
 obtain ⟨⟨b, a, m, z, hs, hI⟩, hB⟩ := Y.DS.alloc h (.cells (l.map Value.string).toArray 9)
 obtain ⟨v, a', m', e, hv, hs'⟩ := Y.draw_pick b a m z l hs h0 h1
 refine (Qw.calls g b a m z (some ⟨W.heap.size, 0, none⟩) l.length l v a' m' z w0 _ hI hB (Y.litC W l h1) (Nat.le_refl _) (fun ad e _ => by injection e with e; subst e; exact Nat.ne_of_gt hlt) e).mono ?_
 rintro e w' ⟨rfl, hi, hb, hk⟩
 exact ⟨v, rfl, hv, ⟨⟨_, _, _, _, hs', hi⟩, hb⟩, (keep_alloc (KeepBut.refl W g none) _).trans hk (.inl rfl)⟩
end
def Y.SE (w W : World) (b6 b7 b9 : Nat) (name : ByteArray) (v0 : Value) (dn : List S96) (Ao : Option Addr) (co : Nat) (ao : List S117) (xv : Value) (xs : List ByteArray) (Al : Option Addr) (cl : Nat) (l : List S117) : Prop :=
 (Below w.heap.size w W ∧ b6 ≠ b7 ∧ w.heap.size ≤ b6 ∧ w.heap.size ≤ b7) ∧
 (W.heap[b6]? = some (.cells #[.slice none 0 0, .slice none 0 0] 51 (0, 0)) ∧ W.heap[b7]? = some (.cells #[v0, .slice Ao ao.length co] 51 (0, 0)) ∧
  W.heap[b9]? = some (.cells #[.string name, xv] 117 (0, 0)) ∧ some b9 ≠ (Value.slice Al l.length cl).ownBlock) ∧
 Kd.R k96 96 W w.heap.size (fun _ => True) v0 dn ∧
 Kd.R k117 117 W w.heap.size (fun k => True ∧ some k ≠ (Value.slice Al l.length cl).ownBlock) (.slice Ao ao.length co) ao ∧
 Kd.R Kd.string 9 W w.heap.size (fun _ => True) xv xs ∧
 Kd.R k117 117 W w.heap.size (fun _ => True) (.slice Al l.length cl) l
section
variable {w W W1 : World} {b6 b7 b9 : Nat} {name : ByteArray} {v0 : Value} {dn : List S96} {Ao : Option Addr} {co : Nat} {ao : List S117} {xv : Value} {xs : List ByteArray} {Al A1 : Option Addr} {cl c1 : Nat} {l l1 : List S117}
theorem Y.SE.app (h : Y.SE w W b6 b7 b9 name v0 dn Ao co ao xv xs Al cl l) (hr : Kd.R k117 117 W1 w.heap.size (fun _ => True) (.slice A1 l1.length c1) l1) (hB : Below w.heap.size w W1)
  (hg : W.grownBy W1 (Value.slice Al l.length cl).ownBlock) (hat : (Value.slice A1 l1.length c1).ownBlock = (Value.slice Al l.length cl).ownBlock ∨ ∃ b, (Value.slice A1 l1.length c1).ownBlock = some b ∧ W.heap.size ≤ b) : Y.SE w W1 b6 b7 b9 name v0 dn Ao co ao xv xs A1 c1 l1 := by
 obtain ⟨⟨_, h2, h3, h4⟩, ⟨h5, h6, h7, h8⟩, h9, h10, h11, h12⟩ := h
 refine ⟨⟨hB, h2, h3, h4⟩, ⟨blk_grown h5 hg (Kd.R_ne h12 h5 (by decide)), blk_grown h6 hg (Kd.R_ne h12 h6 (by decide)), blk_grown h7 hg h8, ?_⟩, Kd.R_over' h9 (Kd.R_typed h12) (by decide) hg, Kd.R_after h10 hg hat, Kd.R_over' h11 (Kd.R_typed h12) (by decide) hg, hr⟩
 rcases hat with e | ⟨b, e, hb⟩
 ·rw [e]; exact h8
 ·rw [e]
  intro e2
  injection e2 with e2
  have := blk_lt h7
  omega
theorem Y.SE.drew (h : Y.SE w W b6 b7 b9 name v0 dn Ao co ao xv xs Al cl l) : Y.SE w W.drew b6 b7 b9 name v0 dn Ao co ao xv xs Al cl l := by
 obtain ⟨⟨h1, h2, h3, h4⟩, ⟨h5, h6, h7, h8⟩, h9, h10, h11, h12⟩ := h
 exact ⟨⟨below_drew1 h1, h2, h3, h4⟩, ⟨h5, h6, h7, h8⟩, Kd.R_drew h9, Kd.R_drew h10, Kd.R_drew h11, Kd.R_drew h12⟩
theorem Y.SE.c7 (h : Y.SE w W b6 b7 b9 name v0 dn Ao co ao xv xs Al cl l) : W.cell? ⟨b7, 1, none⟩ = some (.slice Ao ao.length co) ∧ W.cell? ⟨b9, 0, none⟩ = some (.string name) ∧ W.cell? ⟨b9, 1, none⟩ = some xv :=
 ⟨(blk_cell h.2.1.2.1 1).trans rfl, (blk_cell h.2.1.2.2.1 0).trans rfl, (blk_cell h.2.1.2.2.1 1).trans rfl⟩
theorem Y.SE.x (h : Y.SE w W b6 b7 b9 name v0 dn Ao co ao xv xs Al cl l) : k117.M W w.heap.size (fun k => True ∧ some k ≠ (Value.slice Al l.length cl).ownBlock) (⟨name, xs⟩ : S117) [.string name, xv] :=
 k117_mkM W _ _ ⟨name, xs⟩ (Kd.R_apart' h.2.2.2.2.1 (Kd.R_typed h.2.2.2.2.2) (by decide))
theorem Y.SE.at (h : Y.SE w W b6 b7 b9 name v0 dn Ao co ao xv xs Al cl l) (i : Nat) (hi : i < ao.length) : ∃ ad Av cv, Ao = some ad ∧ W.cell? (ad.add (i * 2)) = some (.string (rd_T117 ao (i : Int)).f0) ∧ W.cell? ⟨(ad.add (i * 2)).block, (ad.add (i * 2)).off + 1, none⟩ = some (.slice Av (rd_T117 ao (i : Int)).f1.length cv) ∧
  k117.M W w.heap.size (fun k => True ∧ some k ≠ (Value.slice Al l.length cl).ownBlock) (rd_T117 ao (i : Int)) [.string (rd_T117 ao (i : Int)).f0, .slice Av (rd_T117 ao (i : Int)).f1.length cv] := by
 have hA := h.2.2.2.1
 obtain ⟨g, cap, e, _⟩ := Kd.R_form hA (by omega)
 injection e with e1 _ e3
 subst e1
 obtain ⟨c, hcl, hM, hcc⟩ := Kd.R_getA hA z117 (i : Int) (by omega) (by omega)
 have hc : ∀ j u, c[j]? = some u → W.cell? ((⟨g, 0, none⟩ : Addr).add (i * 2 + j)) = some u := hcc
 obtain ⟨v1, rfl, hR⟩ := k117_openM hM
 obtain ⟨Av, cv, rfl⟩ := Kd.R_slice hR
 exact ⟨_, Av, cv, rfl, hc 0 _ rfl, by rw [← add_field _ _ 1 (by omega)]; exact hc 1 _ rfl, k117.M_mono (fun _ hk => hk.1) hM⟩
end
theorem Y.R_new2 {α : Type} {d : Kd α} {e base : Nat} {ok : Nat → Prop} {v : Value} {xs : List α} {W W1 : World} (h : d.R e W base ok v xs) (hb : Below W.heap.size W W1) {g : Nat} (hg : g = W.heap.size) (u0 u1 : Value) : d.R e ((W1.setCell ⟨g, 0, none⟩ u0).setCell ⟨g, 1, none⟩ u1) base ok v xs :=
 Kd.R_mono (Kd.R_far (p := ⟨g, 1, none⟩) (Kd.R_far (p := ⟨g, 0, none⟩) (Kd.R_below (Kd.R_bound h) hb) (fun k hk => by have := hk.2.2.1; show k ≠ g; omega) u0) (fun k hk => by have := hk.2.2.1; show k ≠ g; omega) u1) (fun _ hk => hk.1)
theorem Y.blk_new2 {W W1 : World} {b t : Nat} {cs : Array Value} (h : W.heap[b]? = some (.cells cs t (0, 0))) (hb : Below W.heap.size W W1) {g : Nat} (hg : g = W.heap.size) (u0 u1 : Value) : ((W1.setCell ⟨g, 0, none⟩ u0).setCell ⟨g, 1, none⟩ u1).heap[b]? = some (.cells cs t (0, 0)) := by
 have := blk_lt h
 exact blk_far (p := ⟨g, 1, none⟩) (blk_far (p := ⟨g, 0, none⟩) (blk_below h hb) (show b ≠ g by omega) u0) (show b ≠ g by omega) u1
def Y.AV (a : S117) : Prop := a.f1.length ≤ 1000 ∧ ∀ s ∈ a.f1, s.size ≤ 8000
def Y.TOT : Prop :=
 (∀ (dn : List S96) (at_ : List S117), dn.length ≤ 1000 → at_.length ≤ 1000 → (∀ a ∈ at_, a.f1.length ≤ 1000) → ∃ k, Vd.f k dn at_ = some (dn, at_)) ∧
 (∀ (dn : List S96) (at_ : List S117) (a : ByteArray), at_.length ≤ 1000 → ∃ k r, Vb.f k dn at_ a = some r ∧ r < at_.length) ∧
 (∀ (l : List ByteArray) (a : ByteArray), (l.length ≤ 1000 ∧ ∀ s ∈ l, s.size ≤ 8000) → ∃ k r, Vf.f k l a = some r) ∧
 (∀ a : ByteArray, a.size ≤ 8000 → ∃ k r, Qr.f k a = some r)
theorem Y.set (HT : Y.TOT) (A0 : Option Addr) (c0 : Nat) (dn : List S96) (A1 : Option Addr) (c1 : Nat) (at_ : List S117) (name : ByteArray) (A2 : Option Addr) (c2 : Nat) (vals : List ByteArray) (w : World)
  (hr0 : Kd.C k96 w A0 dn.length dn) (hc0 : dn.length ≤ c0) (hr1 : Kd.C k117 w A1 at_.length at_) (hc1 : at_.length ≤ c1) (hr2 : Kd.C Kd.string w A2 vals.length vals) (hc2 : vals.length ≤ c2)
  (hn0 : dn.length ≤ 1000) (hn1 : at_.length ≤ 500) (hn2 : ∀ a ∈ at_, Y.AV a) (hn3 : vals.length ≤ 1000 ∧ ∀ s ∈ vals, s.size ≤ 8000) :
  Calls Tryz.prog 162 #[.agg #[.slice A0 dn.length c0, .slice A1 at_.length c1], .string name, .slice A2 vals.length c2] w fun e w' => ∃ v0 v1 : Value, e = .returned (.agg #[v0, v1]) ∧ Kd.R k96 96 w' w.heap.size (fun _ => True) v0 dn ∧ ∃ at2 : List S117, Kd.R k117 117 w' w.heap.size (fun _ => True) v1 at2 ∧ (at2.length ≤ at_.length + 1 ∧ ∀ a ∈ at2, Y.AV a) ∧ Below w.heap.size w w' := by
 obtain ⟨k1, he1⟩ := HT.1 dn at_ hn0 (by omega) (fun a ha => (hn2 a ha).1)
 have hu51 := Tryz.underlying51
 have hu117 := Tryz.underlying117
 have HR := Aside0.mk (And.intro hr0 (And.intro hr1 hr2))
 have HC := Aside0.mk (And.intro hc0 (And.intro hc1 hc2))
 have HN := Aside0.mk (And.intro hn0 (And.intro hn1 (And.intro hn2 hn3)))
 have HE1 := Aside0.mk he1
 have HNM := Aside0.mk HT.2.2.2
 have HV3 := Aside0.mk hn3
 clear hr0 hr1 hr2 hc0 hc1 hc2 hn0 hn1 hn2 hn3 he1 HT
 go_enter Tryz.func162, Tryz.ntmps162
 go_upto_region 2 with (first | ((with_reducible refine gate_dst (N := 3) rfl ?_); refine box_event ?hg (N := 3) ?hd (cs := #[.slice A0 dn.length c0, .slice A1 at_.length c1]) (t := 51) ?hr ?_; (case hd => rfl); (case hg => rfl); (case hr => first | (go_simp; done) | (go_simp; rfl)); intro g3 hg3 w3 hbox3 hb3; have HB3 := Aside0.mk hb3; have HG3 := Aside0.mk hbox3; clear hg3 hb3 hbox3) | ((with_reducible refine gate_dst (N := 6) rfl ?_); refine box_event ?hg (N := 6) ?hd (cs := #[.slice none 0 0, .slice none 0 0]) (t := 51) ?hr ?_; (case hd => rfl); (case hg => rfl); (case hr => first | (go_simp; done) | (go_simp; rfl)); intro g6 hg6 w6 hbox6 hb6; have c30 : w6.cell? ⟨g3, 0, none⟩ = some (.slice A0 dn.length c0) := (blk_cell (blk_below HG3.out hb6) 0).trans rfl; have c31 : w6.cell? ⟨g3, 1, none⟩ = some (.slice A1 at_.length c1) := (blk_cell (blk_below HG3.out hb6) 1).trans rfl; have HB6 := Aside0.mk (below_step HB3.out hb6); have HG6 := Aside0.mk hbox6; have HL6 := Aside0.mk (show w.heap.size ≤ g6 from by rw [hg6]; exact below_size HB3.out); clear hg6 hb6 hbox6 HB3 HG3) | (go_at_call 191; refine (Vd.calls k1 A0 c0 dn A1 c1 at_ dn at_ w6 (Kd.C_below HR.out.1 HB6.out) HC.out.1 (Kd.C_below HR.out.2.1 HB6.out) HC.out.2.1 HE1.out).mono ?_; rintro e w7 ⟨v0, v1, rfl, hR0, hS1, hb7⟩; obtain ⟨Ad, cd, rfl⟩ := Kd.R_slice hR0; obtain ⟨Ao, co, rfl⟩ := Kd.S_slice hS1; have HD := Aside0.mk (Kd.R_lower hR0 (below_size HB6.out)); have HA := Aside0.mk (Kd.R_lower (Kd.S_R hS1) (below_size HB6.out)); have HB7 := Aside0.mk (below_step HB6.out hb7); have HX6 := Aside0.mk (blk_below HG6.out hb7); clear hR0 hS1 hb7 HB6 HG6 c30 c31) | ((with_reducible refine gate_dst (N := 7) rfl ?_); refine box_event ?hg (N := 7) ?hd (cs := #[.slice none 0 0, .slice none 0 0]) (t := 51) ?hr ?_; (case hd => rfl); (case hg => rfl); (case hr => first | (go_simp; done) | (go_simp; rfl)); intro g7 hg7 w8 hbox7 hb8; have c70 : w8.cell? ⟨g7, 0, none⟩ = some (.slice none 0 0) := (blk_cell hbox7 0).trans rfl; have c71 : w8.cell? ⟨g7, 1, none⟩ = some (.slice none 0 0) := (blk_cell hbox7 1).trans rfl; have f70 := blk_frozen hbox7 0; have f71 := blk_frozen hbox7 1; have HB8 := Aside0.mk hb8; have HG7 := Aside0.mk (And.intro hg7 hbox7); clear hg7 hb8 hbox7))
 have HW9 := Aside0.mk (And.intro (Y.R_new2 HD.out HB8.out HG7.out.1 (.slice Ad dn.length cd) (.slice Ao at_.length co)) (And.intro (Y.R_new2 HA.out HB8.out HG7.out.1 (.slice Ad dn.length cd) (.slice Ao at_.length co)) (And.intro (Y.blk_new2 HX6.out HB8.out HG7.out.1 (.slice Ad dn.length cd) (.slice Ao at_.length co)) (And.intro (blk_put (blk_put HG7.out.2 0 (.slice Ad dn.length cd) rfl) 1 (.slice Ao at_.length co) rfl) (below_set (below_set (below_step HB7.out HB8.out) (g := g7) (j := 0) (v := (.slice Ad dn.length cd)) (by rw [HG7.out.1]; exact below_size HB7.out)) (g := g7) (j := 1) (v := .slice Ao at_.length co) (by rw [HG7.out.1]; exact below_size HB7.out))))))
 have HN67 := Aside0.mk (show g6 ≠ g7 from by have := blk_lt HX6.out; have := HG7.out.1; omega)
 have HL7 := Aside0.mk (show w.heap.size ≤ g7 from by rw [HG7.out.1]; exact below_size HB7.out)
 clear HD HA HB8 HG7 HX6 HB7 c70 c71 f70 f71
 generalize (w8.setCell ⟨g7, 0, none⟩ (.slice Ad dn.length cd)).setCell ⟨g7, 1, none⟩ (.slice Ao at_.length co) = W9 at HW9 ⊢
 go_upto_region 4 with (first | ((with_reducible refine gate_dst (N := 14) rfl ?_); refine Kd.R_lit k117 (w0 := w) w.heap.size 117 ?hg (N := 14) ?hd (xs := ([] : List S117)) (inner := []) (ok := fun _ => True) (okp := fun _ => False) ?hr ?hp (fun _ hk => hk.elim) trivial HW9.out.2.2.2.2 (below_size HW9.out.2.2.2.2) (by simp) ?_; (case hd => rfl); (case hg => rfl); (case hr => first | (go_simp; done) | (go_simp; rfl)); (case hp => exact (Reps.none _ _)); intro v14 w10 ho hb hg hnew; generalize hl0 : ([] : List S117) = l0 at ho; obtain ⟨Al, cl, e14⟩ := Kd.R_slice ho; subst e14; have HL0 := Aside0.mk hl0; have hbn := Y.below_none hg; have HL := Aside0.mk ho; have HB10 := Aside0.mk hb; have HD := Aside0.mk (Kd.R_below HW9.out.1 hbn); have HA := Aside0.mk (Kd.R_elder' (v := .slice Al l0.length cl) HW9.out.2.1 (fun k hk => by obtain ⟨b, e, h⟩ := hnew; rw [e] at hk; injection hk with hk; omega) hbn); have HX6 := Aside0.mk (blk_below HW9.out.2.2.1 hbn); have HX7 := Aside0.mk (blk_below HW9.out.2.2.2.1 hbn); clear ho hb hg hnew hbn hl0 HW9) | (go_at_call 192; refine (Y.sort_ HNM.out A2 c2 vals w10 (Kd.C_below HR.out.2.2 HB10.out) HC.out.2.2 HV3.out).mono ?_; rintro e w11 ⟨xv, xs, rfl, hRx, hxs, hb11⟩; have HXS := Aside0.mk (show Y.AV ⟨name, xs⟩ from ⟨by have := hxs.1; have := HV3.out.1; show xs.length ≤ 1000; omega, fun s hs => HV3.out.2 s (hxs.2 s hs)⟩); obtain ⟨Ax, cx, rfl⟩ := Kd.R_slice hRx; have HX := Aside0.mk (Kd.R_lower hRx (below_size HB10.out)); have HL1 := Aside0.mk (Kd.R_below HL.out hb11); have HD1 := Aside0.mk (Kd.R_below HD.out hb11); have HA1 := Aside0.mk (Kd.R_below HA.out hb11); have HX61 := Aside0.mk (blk_below HX6.out hb11); have HX71 := Aside0.mk (blk_below HX7.out hb11); have HB11 := Aside0.mk (below_step HB10.out hb11); clear hRx hxs hb11 HL HD HA HX6 HX7 HB10) | ((with_reducible refine gate_dst (N := 9) rfl ?_); refine box_event ?hg (N := 9) ?hd (cs := #[.string (⟨#[]⟩ : ByteArray), .slice none 0 0]) (t := 117) ?hr ?_; (case hd => rfl); (case hg => rfl); (case hr => first | (go_simp; done) | (go_simp; rfl)); intro g9 hg9 w12 hbox9 hb12; have c90 : w12.cell? ⟨g9, 0, none⟩ = some (.string (⟨#[]⟩ : ByteArray)) := (blk_cell hbox9 0).trans rfl; have c91 : w12.cell? ⟨g9, 1, none⟩ = some (.slice none 0 0) := (blk_cell hbox9 1).trans rfl; have f90 := blk_frozen hbox9 0; have f91 := blk_frozen hbox9 1; have HG9 := Aside0.mk (And.intro hg9 (And.intro hbox9 hb12)); clear hg9 hbox9 hb12))
 have HS := Aside0.mk (show Y.SE w ((w12.setCell ⟨g9, 0, none⟩ (.string name)).setCell ⟨g9, 1, none⟩ (.slice Ax xs.length cx)) g6 g7 g9 name (.slice Ad dn.length cd) dn Ao co at_ (.slice Ax xs.length cx) xs Al cl l0 from ⟨⟨below_set (below_set (below_step HB11.out HG9.out.2.2) (g := g9) (j := 0) (v := .string name) (by rw [HG9.out.1]; exact below_size HB11.out)) (g := g9) (j := 1) (v := (.slice Ax xs.length cx)) (by rw [HG9.out.1]; exact below_size HB11.out), HN67.out, HL6.out, HL7.out⟩,
   ⟨Y.blk_new2 HX61.out HG9.out.2.2 HG9.out.1 _ _, Y.blk_new2 HX71.out HG9.out.2.2 HG9.out.1 _ _, blk_put (blk_put HG9.out.2.1 0 (.string name) rfl) 1 (.slice Ax xs.length cx) rfl, fun e => by have := Kd.R_lt HL1.out g9 e.symm; have := HG9.out.1; omega⟩,
   Y.R_new2 HD1.out HG9.out.2.2 HG9.out.1 _ _, Y.R_new2 HA1.out HG9.out.2.2 HG9.out.1 _ _, Y.R_new2 HX.out HG9.out.2.2 HG9.out.1 _ _, Y.R_new2 HL1.out HG9.out.2.2 HG9.out.1 _ _⟩)
 clear HD1 HA1 HX HL1 HG9 HX61 HX71 HB11 HN67 HL6 HL7 c90 c91 f90 f91
 generalize (w12.setCell ⟨g9, 0, none⟩ (.string name)).setCell ⟨g9, 1, none⟩ (.slice Ax xs.length cx) = W13 at HS ⊢
 go_wp2
 go_loopg [8, 10, 11] at_.length (fun kq v8 v10 v11 w' => ∃ (i : Nat) (done : Bool) (l : List S117) (Al : Option Addr) (cl : Nat), v8 = .slice Al l.length cl ∧ v10 = .bool done ∧ v11 = .int .i64 (i : Int) ∧ Aside0 ((i ≤ at_.length ∧ at_.length ≤ i + kq) ∧ l.length ≤ i + done.toNat ∧ ∀ a ∈ l, Y.AV a) ∧ Aside0 (Y.SE w w' g6 g7 g9 name (.slice Ad dn.length cd) dn Ao co at_ (.slice Ax xs.length cx) xs Al cl l))
 case atStart => exact ⟨0, _, l0, Al, cl, rfl, rfl, rfl, ⟨⟨by omega, by omega⟩, by rw [← HL0.out]; simp, by rw [← HL0.out]; simp⟩, HS⟩
 case round =>
  clear HS HL0
  obtain ⟨i, done, l, Al, cl, rfl, rfl, rfl, HI, HS⟩ := hrel
  obtain ⟨c71, c90, c91⟩ := Y.SE.c7 HS.out
  by_cases il : (i : Int) < (at_.length : Int)
  case neg =>
   have ilb : decide ((i : Int) < (at_.length : Int)) = false := decide_eq_false il
   have ilc : decide (i < at_.length) = false := decide_eq_false (by omega)
   clear il
   have HLEN := Aside0.mk (show (l.length + 1) * 40 ≤ 140737488355328 from by have := HI.out.2.1; have := HN.out.2.1; have := HI.out.1.1; have : done.toNat ≤ 1 := Bool.toNat_le done; omega)
   cases done with
   | false =>
    go_upto_region 18 with (at_builtin; refine Kd.R_append k117 (w0 := w) w.heap.size rfl (.tmp 69) (.tmp 71) 49 117 (.agg #[(.string ⟨#[]⟩), (.slice none 0 0)]) 40 rfl Tryz.underlying49 info117 rfl (by decide) (by omega) (.slice Al l.length cl) l (⟨name, xs⟩ : S117) [.string name, (.slice Ax xs.length cx)] (fun _ => True) (fun k => True ∧ some k ≠ (Value.slice Al l.length cl).ownBlock) rfl rfl (Y.SE.x HS.out) (fun _ h => h) (fun _ _ => trivial) ?aO ?aB ?aS ?aL ?_; (case aO => exact HS.out.2.2.2.2.2); (case aB => exact HS.out.1.1); (case aS => exact below_size HS.out.1.1); (case aL => have := HLEN.out; omega); intro vA wA ho hb hg hat; generalize hl2 : l ++ [(⟨name, xs⟩ : S117)] = l2 at ho; obtain ⟨A2_, c2_, e6⟩ := Kd.R_slice ho; subst e6; have Hl2 := Aside0.mk hl2; have HS2 := Aside0.mk (Y.SE.app HS.out ho hb hg hat); clear ho hb hg hat hl2 HS c71 c90 c91)
    have f71 := blk_frozen HS2.out.2.1.2.1 1
    obtain ⟨c71, c90, c91⟩ := Y.SE.c7 HS2.out
    go_upto_region 19 with fail
    have HP := Aside0.mk (And.intro (blk_put HS2.out.2.1.2.1 1 (.slice A2_ l2.length c2_) rfl) (And.intro (blk_far (p := ⟨g7, 1, none⟩) HS2.out.2.1.1 HS2.out.1.2.1 (.slice A2_ l2.length c2_)) (And.intro (Kd.R_set HS2.out.2.2.1 HS2.out.2.1.2.1 (by decide) 1 (.slice A2_ l2.length c2_)) (And.intro (Kd.R_set HS2.out.2.2.2.2.2 HS2.out.2.1.2.1 (by decide) 1 (.slice A2_ l2.length c2_)) (below_set HS2.out.1.1 (g := g7) (j := 1) (v := .slice A2_ l2.length c2_) HS2.out.1.2.2.2)))))
    have HL6 := Aside0.mk HS2.out.1.2.2.1
    clear HS2 c71 c90 c91 f71
    generalize hw20 : World.setCell _ ⟨g7, 1, none⟩ (.slice A2_ l2.length c2_) = W20 at HP ⊢
    clear hw20
    have e0 : W20.cell? ⟨g6, 0, none⟩ = some (.slice none 0 0) := (blk_cell HP.out.2.1 0).trans rfl
    have e1 : W20.cell? ⟨g6, 1, none⟩ = some (.slice none 0 0) := (blk_cell HP.out.2.1 1).trans rfl
    have f0 := blk_frozen HP.out.2.1 0
    have f1 := blk_frozen HP.out.2.1 1
    have d0 : W20.cell? ⟨g7, 0, none⟩ = some (.slice Ad dn.length cd) := (blk_cell HP.out.1 0).trans rfl
    have d1 : W20.cell? ⟨g7, 1, none⟩ = some (.slice A2_ l2.length c2_) := (blk_cell HP.out.1 1).trans rfl
    go_wp2
    refine bodyPost_ret (results_cell_row rfl _ _ g6 51 #[(.slice Ad dn.length cd), .slice A2_ l2.length c2_] (0, 0) _ rfl (blk_put (blk_put HP.out.2.1 0 (.slice Ad dn.length cd) rfl) 1 (.slice A2_ l2.length c2_) rfl) Tryz.underlying51 rfl (by kernel_rfl)) rfl ?_
    have hq := blk_put HP.out.2.1 0 (.slice Ad dn.length cd) rfl
    exact ⟨(.slice Ad dn.length cd), .slice A2_ l2.length c2_, rfl, Kd.R_set (Kd.R_set HP.out.2.2.1 HP.out.2.1 (by decide) 0 (.slice Ad dn.length cd)) hq (by decide) 1 _, l2, Kd.R_set (Kd.R_set HP.out.2.2.2.1 HP.out.2.1 (by decide) 0 (.slice Ad dn.length cd)) hq (by decide) 1 _, (by rw [← Hl2.out]; exact ⟨by have := HI.out.2.1; have := HI.out.1.1; rw [List.length_append]; simp only [Bool.toNat_false, List.length_singleton] at *; omega, fun a ha => by rcases List.mem_append.1 ha with h | h; exact HI.out.2.2 a h; rw [List.mem_singleton.1 h]; exact HXS.out⟩), below_set (below_set HP.out.2.2.2.2 HL6.out) HL6.out⟩
   | true =>
    have f71 := blk_frozen HS.out.2.1.2.1 1
    go_upto_region 19 with fail
    have HP := Aside0.mk (And.intro (blk_put HS.out.2.1.2.1 1 (.slice Al l.length cl) rfl) (And.intro (blk_far (p := ⟨g7, 1, none⟩) HS.out.2.1.1 HS.out.1.2.1 (.slice Al l.length cl)) (And.intro (Kd.R_set HS.out.2.2.1 HS.out.2.1.2.1 (by decide) 1 (.slice Al l.length cl)) (And.intro (Kd.R_set HS.out.2.2.2.2.2 HS.out.2.1.2.1 (by decide) 1 (.slice Al l.length cl)) (below_set HS.out.1.1 (g := g7) (j := 1) (v := .slice Al l.length cl) HS.out.1.2.2.2)))))
    have HL6 := Aside0.mk HS.out.1.2.2.1
    clear HS c71 c90 c91 f71
    generalize hw20 : World.setCell _ ⟨g7, 1, none⟩ (.slice Al l.length cl) = W20 at HP ⊢
    clear hw20
    have e0 : W20.cell? ⟨g6, 0, none⟩ = some (.slice none 0 0) := (blk_cell HP.out.2.1 0).trans rfl
    have e1 : W20.cell? ⟨g6, 1, none⟩ = some (.slice none 0 0) := (blk_cell HP.out.2.1 1).trans rfl
    have f0 := blk_frozen HP.out.2.1 0
    have f1 := blk_frozen HP.out.2.1 1
    have d0 : W20.cell? ⟨g7, 0, none⟩ = some (.slice Ad dn.length cd) := (blk_cell HP.out.1 0).trans rfl
    have d1 : W20.cell? ⟨g7, 1, none⟩ = some (.slice Al l.length cl) := (blk_cell HP.out.1 1).trans rfl
    go_wp2
    refine bodyPost_ret (results_cell_row rfl _ _ g6 51 #[(.slice Ad dn.length cd), .slice Al l.length cl] (0, 0) _ rfl (blk_put (blk_put HP.out.2.1 0 (.slice Ad dn.length cd) rfl) 1 (.slice Al l.length cl) rfl) Tryz.underlying51 rfl (by kernel_rfl)) rfl ?_
    have hq := blk_put HP.out.2.1 0 (.slice Ad dn.length cd) rfl
    exact ⟨(.slice Ad dn.length cd), .slice Al l.length cl, rfl, Kd.R_set (Kd.R_set HP.out.2.2.1 HP.out.2.1 (by decide) 0 (.slice Ad dn.length cd)) hq (by decide) 1 _, l, Kd.R_set (Kd.R_set HP.out.2.2.2.1 HP.out.2.1 (by decide) 0 (.slice Ad dn.length cd)) hq (by decide) 1 _, ⟨by have := HI.out.2.1; have := HI.out.1.1; simp only [Bool.toNat_true] at *; omega, HI.out.2.2⟩, below_set (below_set HP.out.2.2.2.2 HL6.out) HL6.out⟩
  have ilb : decide ((i : Int) < (at_.length : Int)) = true := decide_eq_true il
  have ilc : decide (i < at_.length) = true := decide_eq_true (by omega)
  have HIL := Aside0.mk (show i < at_.length from by omega)
  obtain ⟨gk, rfl⟩ : ∃ q, gk = q + 1 := ⟨gk - 1, by have := HI.out.1; have := HIL.out; omega⟩
  have HWI := Aside0.mk (show wrap64 ((i : Int) + 1) = ((i + 1 : Nat) : Int) from by have := HN.out.2.1; have := HIL.out; unfold wrap64; omega)
  have HLEN := Aside0.mk (show (l.length + 2) * 40 ≤ 140737488355328 from by have := HI.out.2.1; have := HN.out.2.1; have := HI.out.1.1; have : done.toNat ≤ 1 := Bool.toNat_le done; omega)
  have p1 := eq_true (show (0 : Int) ≤ (i : Int) from by omega)
  have p2 := eq_true il
  clear il
  obtain ⟨ad, Av, cv, ea, x0, x1, hM⟩ := Y.SE.at HS.out i HIL.out
  subst ea
  have HM := Aside0.mk hM
  have HAI := Aside0.mk (show Y.AV (rd_T117 at_ (i : Int)) from HN.out.2.2.1 _ (by unfold rd_T117; rw [Int.toNat_natCast, List.getD_eq_getElem?_getD, List.getElem?_eq_getElem HIL.out]; exact List.getElem_mem _))
  clear hM
  generalize hai : rd_T117 at_ (i : Int) = ai at x0 x1 HM HAI
  have HAE := Aside0.mk hai
  clear hai
  cases done with
  | true =>
   go_upto_region 11 with fail
   cases he : (ai.f0.toList == name.toList)
   case true =>
    go_wp2
    go_roundg gk
    case measure => omega
    case rel => exact ⟨i + 1, true, l, _, _, by first | rfl | simp, rfl, by rw [HWI.out], ⟨⟨by have := HIL.out; omega, by have := HI.out.1; omega⟩, by have := HI.out.2.1; simp [Bool.toNat] at *; omega, HI.out.2.2⟩, HS⟩
   case false =>
    go_wp2_with (at_builtin; refine Kd.R_append k117 (w0 := w) w.heap.size rfl (.tmp 59) (.tmp 65) 49 117 (.agg #[(.string ⟨#[]⟩), (.slice none 0 0)]) 40 rfl Tryz.underlying49 info117 rfl (by decide) (by omega) (.slice Al l.length cl) l (ai : S117) [.string ai.f0, .slice Av ai.f1.length cv] (fun _ => True) (fun k => True ∧ some k ≠ (Value.slice Al l.length cl).ownBlock) rfl rfl HM.out (fun _ h => h) (fun _ _ => trivial) ?aO ?aB ?aS ?aL ?_; (case aO => exact HS.out.2.2.2.2.2); (case aB => exact HS.out.1.1); (case aS => exact below_size HS.out.1.1); (case aL => have := HLEN.out; omega); intro vA wA ho hb hg hat; generalize hl2 : l ++ [(ai : S117)] = l9 at ho; obtain ⟨A9, c9, e6⟩ := Kd.R_slice ho; subst e6; have Hl9 := Aside0.mk hl2; have HT2 := Aside0.mk (Y.SE.app HS.out ho hb hg hat); clear ho hb hg hat hl2 HS c71 c90 c91 x0 x1)
    go_roundg gk
    case measure => omega
    case rel => exact ⟨i + 1, true, l9, _, _, by first | rfl | simp, rfl, by rw [HWI.out], ⟨⟨by have := HIL.out; omega, by have := HI.out.1; omega⟩, by rw [← Hl9.out]; have := HI.out.2.1; simp [Bool.toNat] at *; omega, fun a ha => by rw [← Hl9.out] at ha; rcases List.mem_append.1 ha with h | h; exact (show ∀ a ∈ l, Y.AV a from HI.out.2.2) a h; rw [List.mem_singleton.1 h]; exact HAI.out⟩, HT2⟩
  | false =>
   cases hless : Op.bytesLess name.toList ai.f0.toList
   case false =>
    go_upto_region 11 with fail
    cases he : (ai.f0.toList == name.toList)
    case true =>
     go_wp2_with (at_builtin; refine Kd.R_append k117 (w0 := w) w.heap.size rfl (.tmp 55) (.tmp 57) 49 117 (.agg #[(.string ⟨#[]⟩), (.slice none 0 0)]) 40 rfl Tryz.underlying49 info117 rfl (by decide) (by omega) (.slice Al l.length cl) l (⟨name, xs⟩ : S117) [.string name, (.slice Ax xs.length cx)] (fun _ => True) (fun k => True ∧ some k ≠ (Value.slice Al l.length cl).ownBlock) rfl rfl (Y.SE.x HS.out) (fun _ h => h) (fun _ _ => trivial) ?aO ?aB ?aS ?aL ?_; (case aO => exact HS.out.2.2.2.2.2); (case aB => exact HS.out.1.1); (case aS => exact below_size HS.out.1.1); (case aL => have := HLEN.out; omega); intro vA wA ho hb hg hat; generalize hl2 : l ++ [(⟨name, xs⟩ : S117)] = l8 at ho; obtain ⟨A8, c8, e6⟩ := Kd.R_slice ho; subst e6; have Hl8 := Aside0.mk hl2; have HT1 := Aside0.mk (Y.SE.app HS.out ho hb hg hat); clear ho hb hg hat hl2 HS c71 c90 c91 x0 x1)
     go_roundg gk
     case measure => omega
     case rel => exact ⟨i + 1, true, l8, _, _, by first | rfl | simp, rfl, by rw [HWI.out], ⟨⟨by have := HIL.out; omega, by have := HI.out.1; omega⟩, by rw [← Hl8.out]; have := HI.out.2.1; simp [Bool.toNat] at *; omega, fun a ha => by rw [← Hl8.out] at ha; rcases List.mem_append.1 ha with h | h; exact HI.out.2.2 a h; rw [List.mem_singleton.1 h]; exact HXS.out⟩, HT1⟩
    case false =>
     go_wp2_with (at_builtin; refine Kd.R_append k117 (w0 := w) w.heap.size rfl (.tmp 59) (.tmp 65) 49 117 (.agg #[(.string ⟨#[]⟩), (.slice none 0 0)]) 40 rfl Tryz.underlying49 info117 rfl (by decide) (by omega) (.slice Al l.length cl) l (ai : S117) [.string ai.f0, .slice Av ai.f1.length cv] (fun _ => True) (fun k => True ∧ some k ≠ (Value.slice Al l.length cl).ownBlock) rfl rfl HM.out (fun _ h => h) (fun _ _ => trivial) ?aO ?aB ?aS ?aL ?_; (case aO => exact HS.out.2.2.2.2.2); (case aB => exact HS.out.1.1); (case aS => exact below_size HS.out.1.1); (case aL => have := HLEN.out; omega); intro vA wA ho hb hg hat; generalize hl2 : l ++ [(ai : S117)] = l9 at ho; obtain ⟨A9, c9, e6⟩ := Kd.R_slice ho; subst e6; have Hl9 := Aside0.mk hl2; have HT2 := Aside0.mk (Y.SE.app HS.out ho hb hg hat); clear ho hb hg hat hl2 HS c71 c90 c91 x0 x1)
     go_roundg gk
     case measure => omega
     case rel => exact ⟨i + 1, false, l9, _, _, by first | rfl | simp, rfl, by rw [HWI.out], ⟨⟨by have := HIL.out; omega, by have := HI.out.1; omega⟩, by rw [← Hl9.out]; have := HI.out.2.1; simp [Bool.toNat] at *; omega, fun a ha => by rw [← Hl9.out] at ha; rcases List.mem_append.1 ha with h | h; exact (show ∀ a ∈ l, Y.AV a from HI.out.2.2) a h; rw [List.mem_singleton.1 h]; exact HAI.out⟩, HT2⟩
   case true =>
    go_upto_region 11 with (at_builtin; refine Kd.R_append k117 (w0 := w) w.heap.size rfl (.tmp 41) (.tmp 43) 49 117 (.agg #[(.string ⟨#[]⟩), (.slice none 0 0)]) 40 rfl Tryz.underlying49 info117 rfl (by decide) (by omega) (.slice Al l.length cl) l (⟨name, xs⟩ : S117) [.string name, (.slice Ax xs.length cx)] (fun _ => True) (fun k => True ∧ some k ≠ (Value.slice Al l.length cl).ownBlock) rfl rfl (Y.SE.x HS.out) (fun _ h => h) (fun _ _ => trivial) ?aO ?aB ?aS ?aL ?_; (case aO => exact HS.out.2.2.2.2.2); (case aB => exact HS.out.1.1); (case aS => exact below_size HS.out.1.1); (case aL => have := HLEN.out; omega); intro vA wA ho hb hg hat; generalize hl2 : l ++ [(⟨name, xs⟩ : S117)] = l2 at ho; obtain ⟨A2_, c2_, e6⟩ := Kd.R_slice ho; subst e6; have Hl2 := Aside0.mk hl2; have HS2 := Aside0.mk (Y.SE.app HS.out ho hb hg hat); clear ho hb hg hat hl2 HS c71 c90 c91 x0 x1 HM)
    obtain ⟨c71, c90, c91⟩ := Y.SE.c7 HS2.out
    obtain ⟨ad2, Av2, cv2, ea2, x0, x1, hM⟩ := Y.SE.at HS2.out i HIL.out
    obtain rfl : ad = ad2 := by injection ea2
    rw [HAE.out] at x0 x1 hM
    have HM := Aside0.mk hM
    clear hM ea2
    have HLEN2 := Aside0.mk (show (l2.length + 1) * 40 ≤ 140737488355328 from by rw [← Hl2.out, List.length_append]; have := HLEN.out; simp only [List.length_singleton]; omega)
    clear HLEN
    have HLEN := HLEN2
    clear HLEN2
    cases he : (ai.f0.toList == name.toList)
    case true =>
     go_wp2
     go_roundg gk
     case measure => omega
     case rel => exact ⟨i + 1, true, l2, _, _, by first | rfl | simp, rfl, by rw [HWI.out], ⟨⟨by have := HIL.out; omega, by have := HI.out.1; omega⟩, by rw [← Hl2.out]; have := HI.out.2.1; simp [Bool.toNat] at *; omega, fun a ha => by rw [← Hl2.out] at ha; rcases List.mem_append.1 ha with h | h; exact HI.out.2.2 a h; rw [List.mem_singleton.1 h]; exact HXS.out⟩, HS2⟩
    case false =>
     go_wp2_with (at_builtin; refine Kd.R_append k117 (w0 := w) w.heap.size rfl (.tmp 59) (.tmp 65) 49 117 (.agg #[(.string ⟨#[]⟩), (.slice none 0 0)]) 40 rfl Tryz.underlying49 info117 rfl (by decide) (by omega) (.slice A2_ l2.length c2_) l2 (ai : S117) [.string ai.f0, .slice Av2 ai.f1.length cv2] (fun _ => True) (fun k => True ∧ some k ≠ (Value.slice A2_ l2.length c2_).ownBlock) rfl rfl HM.out (fun _ h => h) (fun _ _ => trivial) ?aO ?aB ?aS ?aL ?_; (case aO => exact HS2.out.2.2.2.2.2); (case aB => exact HS2.out.1.1); (case aS => exact below_size HS2.out.1.1); (case aL => have := HLEN.out; omega); intro vA wA ho hb hg hat; generalize hl2 : l2 ++ [(ai : S117)] = l9 at ho; obtain ⟨A9, c9, e6⟩ := Kd.R_slice ho; subst e6; have Hl9 := Aside0.mk hl2; have HT2 := Aside0.mk (Y.SE.app HS2.out ho hb hg hat); clear ho hb hg hat hl2 HS2 c71 c90 c91 x0 x1)
     go_roundg gk
     case measure => omega
     case rel => exact ⟨i + 1, true, l9, _, _, by first | rfl | simp, rfl, by rw [HWI.out], ⟨⟨by have := HIL.out; omega, by have := HI.out.1; omega⟩, by rw [← Hl9.out]; rw [← Hl2.out]; have := HI.out.2.1; simp [Bool.toNat] at *; omega, fun a ha => by rw [← Hl9.out] at ha; rcases List.mem_append.1 ha with h | h; exact (show ∀ a ∈ l2, Y.AV a from fun a ha => by rw [← Hl2.out] at ha; rcases List.mem_append.1 ha with h | h; exact HI.out.2.2 a h; rw [List.mem_singleton.1 h]; exact HXS.out) a h; rw [List.mem_singleton.1 h]; exact HAI.out⟩, HT2⟩
theorem Y.of_ (HT : Y.TOT) (A0 : Option Addr) (c0 : Nat) (dn : List S96) (A1 : Option Addr) (c1 : Nat) (at_ : List S117) (name : ByteArray) (w : World)
  (hr0 : Kd.C k96 w A0 dn.length dn) (hc0 : dn.length ≤ c0) (hr1 : Kd.C k117 w A1 at_.length at_) (hc1 : at_.length ≤ c1) (hn1 : at_.length ≤ 500) (hn2 : ∀ a ∈ at_, Y.AV a) :
  Calls Tryz.prog 160 #[.agg #[.slice A0 dn.length c0, .slice A1 at_.length c1], .string name] w fun e w' => ∃ (A : Option Addr) (c : Nat) (l : List ByteArray), e = .returned (.slice A l.length c) ∧ l.length ≤ c ∧ Kd.C Kd.string w A l.length l ∧ (l.length ≤ 1000 ∧ ∀ s ∈ l, s.size ≤ 8000) ∧ Below w.heap.size w w' := by
 obtain ⟨k, r, he, hlt⟩ := HT.2.1 dn at_ name (by omega)
 have hu51 := Tryz.underlying51
 have hu117 := Tryz.underlying117
 have HR := Aside0.mk (And.intro hr0 hr1)
 have HC := Aside0.mk (And.intro hc0 hc1)
 have HN := Aside0.mk (And.intro hn1 hn2)
 have HE := Aside0.mk (And.intro he hlt)
 clear hr0 hr1 hc0 hc1 hn1 hn2 he hlt HT
 go_enter Tryz.func160, Tryz.ntmps160
 go_upto_if 10 with (first | ((with_reducible refine gate_dst (N := 2) rfl ?_); refine box_event ?hg (N := 2) ?hd (cs := #[.slice A0 dn.length c0, .slice A1 at_.length c1]) (t := 51) ?hr ?_; (case hd => rfl); (case hg => rfl); (case hr => first | (go_simp; done) | (go_simp; rfl)); intro g2 hg2 w3 hbox2 hb2; have c20 : w3.cell? ⟨g2, 0, none⟩ = some (.slice A0 dn.length c0) := (blk_cell hbox2 0).trans rfl; have c21 : w3.cell? ⟨g2, 1, none⟩ = some (.slice A1 at_.length c1) := (blk_cell hbox2 1).trans rfl; have HB := Aside0.mk hb2; have HG := Aside0.mk hbox2; clear hg2 hb2 hbox2) | (go_at_call 190; refine (Vb.calls k A0 c0 dn A1 c1 at_ name r w3 (Kd.C_below HR.out.1 HB.out) HC.out.1 (Kd.C_below HR.out.2 HB.out) HC.out.2 HE.out.1).mono ?_; rintro e w4 ⟨rfl, hb⟩; clear c20 c21; have c21 : w4.cell? ⟨g2, 1, none⟩ = some (.slice A1 at_.length c1) := (blk_cell (blk_below HG.out hb) 1).trans rfl; have HB4 := Aside0.mk (below_step HB.out hb); clear hb HB HG))
 cases hcb : decide (r < 0)
 case true =>
  clear hcb
  go_wp2
  go_ret
  exact ⟨none, 0, [], rfl, Nat.le_refl _, (Kd.R_reads' (Kd.R_nil Kd.string 9 w 0 (fun _ => True))).2.2, ⟨by simp, by simp⟩, HB4.out⟩
 have c : ¬ r < 0 := of_decide_eq_false hcb
 clear hcb
 obtain ⟨i, rfl⟩ : ∃ i : Nat, r = (i : Int) := ⟨r.toNat, by omega⟩
 have hil := HE.out.2
 obtain ⟨ad, Av, cv, e, _, x1, hl, hC⟩ := at_T117 HR.out.2 (i : Int) (by omega) hil
 subst e
 have hC4 := Aside0.mk (And.intro hl hC)
 have x1' : w4.cell? ⟨(ad.add (i * 2)).block, (ad.add (i * 2)).off + 1, none⟩ = some (.slice Av (rd_T117 at_ (i : Int)).f1.length cv) := (HB4.out.cell (World.block_lt_of_cell? w _ x1)).trans x1
 have p1 := eq_true (show (0 : Int) ≤ (i : Int) from by omega)
 have p2 := eq_true hil
 have HAI := Aside0.mk (show Y.AV (rd_T117 at_ (i : Int)) from HN.out.2 _ (by unfold rd_T117; rw [Int.toNat_natCast, List.getD_eq_getElem?_getD, List.getElem?_eq_getElem (by omega)]; exact List.getElem_mem _))
 clear x1 hl hC hil c
 go_wp2
 go_ret
 exact ⟨Av, cv, _, rfl, hC4.out.1, hC4.out.2, HAI.out, HB4.out⟩
def Ve.f (a0 : Int) : Option ((List (S96)) × (List (S117)) × Int) := some (([] : List (S96)), ([] : List (S117)), a0)
theorem Ve.calls (a0 : Int) (r1 : List (S96)) (r2 : List (S117)) (r3 : Int) (w : World) (h : Ve.f a0 = some (r1, r2, r3)) :
  Calls Tryz.prog 127 #[.int .i64 a0] w fun e w' => ∃ v0_ v1_ : Value, e = .returned (.agg #[v0_, v1_, .int .i64 r3]) ∧ Kd.R k96 96 w' w.heap.size (fun _ => True) v0_ r1 ∧ Kd.S k117 117 w' w.heap.size (fun _ => True) v1_ r2 ∧ Below w.heap.size w w' := by
 have hu119 := Tryz.underlying119
 have HB := Aside0.mk (Below.refl w.heap.size w)
 have H : (some (([] : List (S96)), ([] : List (S117)), a0)) = some (r1, r2, r3) := h
 clear h
 simp only [Option.some.injEq, Prod.mk.injEq] at H
 obtain ⟨rfl, rfl, rfl⟩ := H
 go_enter Tryz.func127, Tryz.ntmps127
 go_wp2_with (first | ((with_reducible refine gate_dst (N := 2) rfl ?_); refine box_event ?hg (N := 2) ?hd (cs := #[.slice none 0 0, .slice none 0 0, .int .i64 0]) (t := 119) ?hr ?_; (case hd => rfl); (case hg => rfl); (case hr => first | (go_simp; done) | (go_simp; rfl)); intro gb159 hg w2 hbox hb; have n0_ := Aside0.mk (below_step HBa hb); have n1_ := Aside0.mk (hbox); have n2_ := BSz w hg HBa; have n3_ := BSz w hg HBa; clear HB; have HB := n0_; have BK159 := n1_; have GW159 := n2_; have GE159 := n3_; clear n0_ n1_ n2_ n3_; clear hb hbox hg; have hcz3_0 := C1z BK159; have hcz3_1 := C2z BK159; have hcz3_2 := C3z BK159; have hfz3_0 := blk_frozen BK159.out 0; have hfz3_1 := blk_frozen BK159.out 1; have hfz3_2 := blk_frozen BK159.out 2))
 refine bodyPost_ret (results_cell_row rfl _ _ gb159 119 #[.slice none 0 0, .slice none 0 0, .int .i64 a0] (0, 0) _ rfl (by (with_reducible repeat first | apply blk_drewN | apply blk_drew | apply blk_alloc); refine blk_put (cs := #[.slice none 0 0, .slice none 0 0, .int .i64 0]) ?_ 2 _ rfl; (with_reducible repeat first | apply blk_drewN | apply blk_drew | apply blk_alloc); refine blk_put (cs := #[.slice none 0 0, .slice none 0 0, .int .i64 0]) ?_ 1 _ rfl; (with_reducible repeat first | apply blk_drewN | apply blk_drew | apply blk_alloc); refine blk_put (cs := #[.slice none 0 0, .slice none 0 0, .int .i64 0]) ?_ 0 _ rfl; (with_reducible repeat first | apply blk_drewN | apply blk_drew | apply blk_alloc); exact BK159.out) Tryz.underlying119 rfl (by kernel_rfl)) rfl ?_
 exact ⟨_, _, EZa, by first | exact Kd.R_nil _ _ _ _ _ | exact Kd.N_nil _ _ _ _ _ | exact Kd.V_nil _ _ _ _ _ | exact Kd.Q_nil _ _ _ _ _ | exact Kd.S_nil _ _ _ _ _, by first | exact Kd.S_nil _ _ _ _ _ | exact Kd.N_nil _ _ _ _ _ | exact Kd.V_nil _ _ _ _ _ | exact Kd.Q_nil _ _ _ _ _ | exact Kd.R_nil _ _ _ _ _, HBb GE159⟩
def Y.EO (w w' : World) (m : Nat) (v0 v1 : Value) : Prop := (∃ dn : List S96, Kd.R k96 96 w' w.heap.size (fun _ => True) v0 dn ∧ dn.length ≤ 1000) ∧ (∃ at2 : List S117, Kd.R k117 117 w' w.heap.size (fun _ => True) v1 at2 ∧ at2.length ≤ m ∧ ∀ a ∈ at2, Y.AV a)
theorem Y.EO.set {w w' : World} {m : Nat} {v0 v1 : Value} (h : Y.EO w w' m v0 v1) {g : Nat} {cs : Array Value} (hb : w'.heap[g]? = some (.cells cs 119 (0, 0))) (j : Nat) (u : Value) : Y.EO w (w'.setCell ⟨g, j, none⟩ u) m v0 v1 := by
 obtain ⟨⟨dn, h1, h2⟩, at2, h3, h4⟩ := h
 exact ⟨⟨dn, Kd.R_set h1 hb (by decide) j u, h2⟩, at2, Kd.R_set h3 hb (by decide) j u, h4⟩
def Y.ap (u v : Value) : Prop := ∀ k, u.ownBlock = some k → v.ownBlock ≠ some k
structure Y.JA (we w : World) (g3 g6 : Nat) (cs3 : Array Value) (name value : ByteArray) (Al : Option Addr) (cl : Nat) (l : List ByteArray) (m : Nat) (p : Nat → Bool) (val : Nat → Value) (W : World) : Prop where
 hb : p 10 = false → Below w.heap.size w W
 he : Below we.heap.size we W
 h3 : W.heap[g3]? = some (.cells cs3 51 (0, 0))
 hl : Kd.C Kd.string w Al l.length l
 v0 : p 0 = true → val 0 = .agg cs3
 v1 : p 1 = true → val 1 = .string name
 v2 : p 2 = true → p 4 = false → Kd.R Kd.string 9 W w.heap.size (fun _ => True) (val 2) []
 v3 : p 3 = true → val 3 = .slice Al l.length cl
 v4 : p 4 = true → p 7 = false → Kd.R Kd.string 9 W w.heap.size (fun _ => True) (val 4) l
 v5 : p 5 = true → val 5 = .string value
 v6 : p 6 = true → p 7 = false → Kd.R Kd.string 9 W w.heap.size (fun _ => True) (val 6) [value]
 a26 : p 2 = true → p 4 = false → p 6 = true → p 7 = false → Y.ap (val 2) (val 6)
 a46 : p 4 = true → p 7 = false → p 6 = true → Y.ap (val 4) (val 6)
 v7 : p 7 = true → p 8 = false → Kd.R Kd.string 9 W w.heap.size (fun _ => True) (val 7) (l ++ [value])
 v8 : p 8 = true → ∃ A8 n8 c8 A9 n9 c9, val 8 = .agg #[.slice A8 n8 c8, .slice A9 n9 c9] ∧ Y.EO w W m (.slice A8 n8 c8) (.slice A9 n9 c9)
 v9 : p 9 = true → ∃ A8 n8 c8 A9 n9 c9, val 9 = .agg #[.slice A8 n8 c8, .slice A9 n9 c9, .int .i64 0] ∧ Y.EO w W m (.slice A8 n8 c8) (.slice A9 n9 c9)
 g0 : p 10 = false → W.heap[g6]? = some (.cells #[.slice none 0 0, .slice none 0 0, .int .i64 0] 119 (0, 0))
 g1 : p 10 = true → ∃ A8 n8 c8 A9 n9 c9, W.heap[g6]? = some (.cells #[.slice A8 n8 c8, .slice A9 n9 c9, .int .i64 0] 119 (0, 0)) ∧ Y.EO w W m (.slice A8 n8 c8) (.slice A9 n9 c9)
 od : (p 4 = true → p 2 = true) ∧ (p 7 = true → p 4 = true ∧ p 6 = true) ∧ (p 8 = true → p 7 = true) ∧ (p 9 = true → p 8 = true) ∧ (p 10 = true → p 9 = true)
theorem Y.EO.below {w W W1 : World} {m : Nat} {v0 v1 : Value} (h : Y.EO w W m v0 v1) (hb : Below W.heap.size W W1) : Y.EO w W1 m v0 v1 := by
 obtain ⟨⟨dn, h1, h2⟩, at2, h3, h4⟩ := h
 exact ⟨⟨dn, Kd.R_below h1 hb, h2⟩, at2, Kd.R_below h3 hb, h4⟩
section
variable {we w : World} {g3 g6 : Nat} {cs3 : Array Value} {name value : ByteArray} {Al : Option Addr} {cl : Nat} {l : List ByteArray} {m : Nat} {p : Nat → Bool} {val : Nat → Value} {W W1 : World}
theorem Y.JA.below (h : Y.JA we w g3 g6 cs3 name value Al cl l m p val W) (hb : Below W.heap.size W W1) : Y.JA we w g3 g6 cs3 name value Al cl l m p val W1 where
 hb := fun a => below_step (h.hb a) hb
 he := below_step h.he hb
 h3 := blk_below h.h3 hb
 hl := h.hl
 v0 := h.v0
 v1 := h.v1
 v2 := fun a b => Kd.R_below (h.v2 a b) hb
 v3 := h.v3
 v4 := fun a b => Kd.R_below (h.v4 a b) hb
 v5 := h.v5
 v6 := fun a b => Kd.R_below (h.v6 a b) hb
 a26 := h.a26
 a46 := h.a46
 v7 := fun a b => Kd.R_below (h.v7 a b) hb
 v8 := fun a => by obtain ⟨A8, n8, c8, A9, n9, c9, e, h1⟩ := h.v8 a; exact ⟨A8, n8, c8, A9, n9, c9, e, Y.EO.below h1 hb⟩
 v9 := fun a => by obtain ⟨A8, n8, c8, A9, n9, c9, e, h1⟩ := h.v9 a; exact ⟨A8, n8, c8, A9, n9, c9, e, Y.EO.below h1 hb⟩
 g0 := fun a => blk_below (h.g0 a) hb
 g1 := fun a => by obtain ⟨A8, n8, c8, A9, n9, c9, e, h1⟩ := h.g1 a; exact ⟨A8, n8, c8, A9, n9, c9, blk_below e hb, Y.EO.below h1 hb⟩
 od := h.od
theorem Y.JA.put (h : Y.JA we w g3 g6 cs3 name value Al cl l m p val W) (i : Nat) (v : Value) (hi : i = 0 ∨ i = 1 ∨ i = 3 ∨ i = 5) (e0 : i = 0 → v = .agg cs3) (e1 : i = 1 → v = .string name) (e3 : i = 3 → v = .slice Al l.length cl) (e5 : i = 5 → v = .string value) :
  Y.JA we w g3 g6 cs3 name value Al cl l m (Y.up p i) (Y.upv val i v) W := by
 obtain ⟨b, bE, h3, hl, v0, v1, v2, v3, v4, v5, v6, a26, a46, v7, v8, v9, g0, g1, od⟩ := h
 rcases hi with rfl | rfl | rfl | rfl
 ·exact ⟨b, bE, h3, hl, fun _ => e0 rfl, v1, v2, v3, v4, v5, v6, a26, a46, v7, v8, v9, g0, g1, od⟩
 ·exact ⟨b, bE, h3, hl, v0, fun _ => e1 rfl, v2, v3, v4, v5, v6, a26, a46, v7, v8, v9, g0, g1, od⟩
 ·exact ⟨b, bE, h3, hl, v0, v1, v2, fun _ => e3 rfl, v4, v5, v6, a26, a46, v7, v8, v9, g0, g1, od⟩
 ·exact ⟨b, bE, h3, hl, v0, v1, v2, v3, v4, fun _ => e5 rfl, v6, a26, a46, v7, v8, v9, g0, g1, od⟩
theorem Y.JA.put2 (h : Y.JA we w g3 g6 cs3 name value Al cl l m p val W) (hp4 : p 4 = false) (hb : Below W.heap.size W W1) (v : Value) (hr : Kd.R Kd.string 9 W1 w.heap.size (fun _ => True) v []) (hn : ∀ k, v.ownBlock = some k → W.heap.size ≤ k) : Y.JA we w g3 g6 cs3 name value Al cl l m (Y.up p 2) (Y.upv val 2 v) W1 := by
 have h6 : p 6 = true → p 7 = false → Y.ap v (val 6) := fun a b k hk e => by
  have := Kd.R_lt (h.v6 a b) k e
  have := hn k hk
  omega
 obtain ⟨b, bE, h3, hl, v0, v1, v2, v3, v4, v5, v6, a26, a46, v7, v8, v9, g0, g1, od⟩ := Y.JA.below h hb
 exact ⟨b, bE, h3, hl, v0, v1, fun _ _ => hr, v3, v4, v5, v6, fun _ _ a b => h6 a b, a46, v7, v8, v9, g0, g1, ⟨fun _ => rfl, od.2⟩⟩
theorem Y.JA.put6 (h : Y.JA we w g3 g6 cs3 name value Al cl l m p val W) (hp7 : p 7 = false) (hb : Below W.heap.size W W1) (v : Value) (hr : Kd.R Kd.string 9 W1 w.heap.size (fun _ => True) v [value]) (hn : ∀ k, v.ownBlock = some k → W.heap.size ≤ k) : Y.JA we w g3 g6 cs3 name value Al cl l m (Y.up p 6) (Y.upv val 6 v) W1 := by
 have h2 : p 2 = true → p 4 = false → Y.ap (val 2) v := fun a b k hk e => by
  have := Kd.R_lt (h.v2 a b) k hk
  have := hn k e
  omega
 have h4 : p 4 = true → Y.ap (val 4) v := fun a k hk e => by
  have := Kd.R_lt (h.v4 a hp7) k hk
  have := hn k e
  omega
 obtain ⟨b, bE, h3, hl, v0, v1, v2, v3, v4, v5, v6, a26, a46, v7, v8, v9, g0, g1, od⟩ := Y.JA.below h hb
 exact ⟨b, bE, h3, hl, v0, v1, v2, v3, v4, v5, fun _ _ => hr, fun a b _ _ => h2 a b, fun a _ _ => h4 a, v7, v8, v9, g0, g1, ⟨od.1, fun a => ⟨(od.2.1 a).1, rfl⟩, od.2.2⟩⟩
theorem Y.JA.put4 (h : Y.JA we w g3 g6 cs3 name value Al cl l m p val W) (hp2 : p 2 = true) (hp4 : p 4 = false) (hp7 : p 7 = false) (hp8 : p 8 = false) (hp9 : p 9 = false) (hp10 : p 10 = false) (v : Value) (hr : Kd.R Kd.string 9 W1 w.heap.size (fun _ => True) v l) (hB : Below w.heap.size w W1) (hE : Below we.heap.size we W1)
  (hg : W.grownBy W1 (val 2).ownBlock) (hat : v.ownBlock = (val 2).ownBlock ∨ ∃ b, v.ownBlock = some b ∧ W.heap.size ≤ b) : Y.JA we w g3 g6 cs3 name value Al cl l m (Y.up p 4) (Y.upv val 4 v) W1 := by
 have hu := h.v2 hp2 hp4
 have h6 : p 6 = true → Y.ap v (val 6) := fun a k hk e => by
  rcases hat with e2 | ⟨b, e2, h2⟩
  ·rw [e2] at hk; exact h.a26 hp2 hp4 a hp7 k hk e
  ·rw [e2] at hk; injection hk with hk; have := Kd.R_lt (h.v6 a hp7) k e; omega
 have hv6 : p 6 = true → Kd.R Kd.string 9 W1 w.heap.size (fun _ => True) (val 6) [value] := fun a => Kd.R_mono (Kd.R_grown (Kd.R_tight rfl (h.v6 a hp7)) hg (fun k hk e => h.a26 hp2 hp4 a hp7 k e.symm hk.symm)) (fun _ _ => trivial)
 exact ⟨fun _ => hB, hE, blk_grown h.h3 hg (Kd.R_ne hu h.h3 (by decide)), h.hl, h.v0, h.v1, (fun _ e => nomatch (show true = false from e)), h.v3, (fun _ _ => hr), h.v5, (fun a _ => hv6 a), (fun _ e => nomatch (show true = false from e)), (fun _ _ a => h6 a),
  (fun e => absurd ((show p 7 = true from e).symm.trans hp7) (by simp)), (fun e => absurd ((show p 8 = true from e).symm.trans hp8) (by simp)), (fun e => absurd ((show p 9 = true from e).symm.trans hp9) (by simp)), (fun _ => blk_grown (h.g0 hp10) hg (Kd.R_ne hu (h.g0 hp10) (by decide))), (fun e => absurd ((show p 10 = true from e).symm.trans hp10) (by simp)), ⟨fun _ => hp2, fun a => absurd ((show p 7 = true from a).symm.trans hp7) (by simp), h.od.2.2⟩⟩
theorem Y.JA.late (h : Y.JA we w g3 g6 cs3 name value Al cl l m p val W) : (p 7 = false → p 8 = false) ∧ (p 8 = false → p 9 = false) ∧ (p 9 = false → p 10 = false) :=
 ⟨fun a => Bool.eq_false_iff.2 (fun b => absurd ((h.od.2.2.1 b).symm.trans a) (by simp)), fun a => Bool.eq_false_iff.2 (fun b => absurd ((h.od.2.2.2.1 b).symm.trans a) (by simp)), fun a => Bool.eq_false_iff.2 (fun b => absurd ((h.od.2.2.2.2 b).symm.trans a) (by simp))⟩
theorem Y.JA.hb8 (h : Y.JA we w g3 g6 cs3 name value Al cl l m p val W) (a : p 8 = false) : Below w.heap.size w W := h.hb ((Y.JA.late h).2.2 ((Y.JA.late h).2.1 a))
theorem Y.JA.put7 (h : Y.JA we w g3 g6 cs3 name value Al cl l m p val W) (hp4 : p 4 = true) (hp6 : p 6 = true) (hp7 : p 7 = false) (v : Value) (hr : Kd.R Kd.string 9 W1 w.heap.size (fun _ => True) v (l ++ [value])) (hB : Below w.heap.size w W1) (hE : Below we.heap.size we W1)
  (hg : W.grownBy W1 (val 4).ownBlock) : Y.JA we w g3 g6 cs3 name value Al cl l m (Y.up p 7) (Y.upv val 7 v) W1 := by
 have hu := h.v4 hp4 hp7
 have hp8 := (Y.JA.late h).1 hp7
 have hp9 := (Y.JA.late h).2.1 hp8
 have hp10 := (Y.JA.late h).2.2 hp9
 exact ⟨fun _ => hB, hE, blk_grown h.h3 hg (Kd.R_ne hu h.h3 (by decide)), h.hl, h.v0, h.v1, (fun _ e => absurd ((show p 4 = false from e).symm.trans hp4) (by simp)), h.v3, (fun _ e => nomatch (show true = false from e)), h.v5, (fun _ e => nomatch (show true = false from e)), (fun _ e => absurd ((show p 4 = false from e).symm.trans hp4) (by simp)), (fun _ e => nomatch (show true = false from e)),
  (fun _ _ => hr), (fun e => absurd ((show p 8 = true from e).symm.trans hp8) (by simp)), (fun e => absurd ((show p 9 = true from e).symm.trans hp9) (by simp)), (fun _ => blk_grown (h.g0 hp10) hg (Kd.R_ne hu (h.g0 hp10) (by decide))), (fun e => absurd ((show p 10 = true from e).symm.trans hp10) (by simp)), ⟨h.od.1, fun _ => ⟨hp4, hp6⟩, fun _ => rfl, h.od.2.2.2⟩⟩
theorem Y.JA.put8 (h : Y.JA we w g3 g6 cs3 name value Al cl l m p val W) (hp7 : p 7 = true) (hp8 : p 8 = false) (hb : Below W.heap.size W W1) {A8 : Option Addr} {n8 c8 : Nat} {A9 : Option Addr} {n9 c9 : Nat} (he : Y.EO w W1 m (.slice A8 n8 c8) (.slice A9 n9 c9)) :
  Y.JA we w g3 g6 cs3 name value Al cl l m (Y.up p 8) (Y.upv val 8 (.agg #[.slice A8 n8 c8, .slice A9 n9 c9])) W1 := by
 have hp9 := (Y.JA.late h).2.1 hp8
 have hp10 := (Y.JA.late h).2.2 hp9
 obtain ⟨b, bE, h3, hl, v0, v1, v2, v3, v4, v5, v6, a26, a46, v7, v8, v9, g0, g1, od⟩ := Y.JA.below h hb
 exact ⟨b, bE, h3, hl, v0, v1, v2, v3, v4, v5, v6, a26, a46, (fun _ e => nomatch (show true = false from e)), (fun _ => ⟨A8, n8, c8, A9, n9, c9, rfl, he⟩), v9, g0, g1, ⟨od.1, od.2.1, fun _ => hp7, fun _ => rfl, od.2.2.2.2⟩⟩
theorem Y.JA.put9 (h : Y.JA we w g3 g6 cs3 name value Al cl l m p val W) (hp8 : p 8 = true) {A8 : Option Addr} {n8 c8 : Nat} {A9 : Option Addr} {n9 c9 : Nat} (e8 : val 8 = .agg #[.slice A8 n8 c8, .slice A9 n9 c9]) :
  Y.JA we w g3 g6 cs3 name value Al cl l m (Y.up p 9) (Y.upv val 9 (.agg #[.slice A8 n8 c8, .slice A9 n9 c9, .int .i64 0])) W := by
 obtain ⟨X8, x8, y8, X9, x9, y9, e, he⟩ := h.v8 hp8
 rw [e8] at e
 injection e with e
 have e := congrArg Array.toList e
 simp only [List.cons.injEq, Value.slice.injEq, and_true] at e
 obtain ⟨⟨rfl, rfl, rfl⟩, rfl, rfl, rfl⟩ := e
 obtain ⟨b, bE, h3, hl, v0, v1, v2, v3, v4, v5, v6, a26, a46, v7, v8, v9, g0, g1, od⟩ := h
 exact ⟨b, bE, h3, hl, v0, v1, v2, v3, v4, v5, v6, a26, a46, v7, v8, (fun _ => ⟨_, _, _, _, _, _, rfl, he⟩), g0, g1, ⟨od.1, od.2.1, od.2.2.1, fun _ => hp8, fun _ => rfl⟩⟩
theorem Y.JA.put10 (h : Y.JA we w g3 g6 cs3 name value Al cl l m p val W) (hp9 : p 9 = true) (hp10 : p 10 = false) {A8 : Option Addr} {n8 c8 : Nat} {A9 : Option Addr} {n9 c9 : Nat} (e9 : val 9 = .agg #[.slice A8 n8 c8, .slice A9 n9 c9, .int .i64 0])
  (hE : Below we.heap.size we (((W.setCell ⟨g6, 0, none⟩ (.slice A8 n8 c8)).setCell ⟨g6, 1, none⟩ (.slice A9 n9 c9)).setCell ⟨g6, 2, none⟩ (.int .i64 0))) (v : Value) :
  Y.JA we w g3 g6 cs3 name value Al cl l m (Y.up p 10) (Y.upv val 10 v) (((W.setCell ⟨g6, 0, none⟩ (.slice A8 n8 c8)).setCell ⟨g6, 1, none⟩ (.slice A9 n9 c9)).setCell ⟨g6, 2, none⟩ (.int .i64 0)) := by
 have hp8 := h.od.2.2.2.1 hp9
 have hp7 := h.od.2.2.1 hp8
 have hp4 := (h.od.2.1 hp7).1
 have b0 := h.g0 hp10
 have b1 := blk_put b0 0 (.slice A8 n8 c8) rfl
 have b2 := blk_put b1 1 (.slice A9 n9 c9) rfl
 have b3 := blk_put b2 2 (.int .i64 0) rfl
 have hne : g3 ≠ g6 := blk_ne h.h3 b0 (by decide)
 have eo : ∀ {u1 u2 : Value}, Y.EO w W m u1 u2 → Y.EO w (((W.setCell ⟨g6, 0, none⟩ (.slice A8 n8 c8)).setCell ⟨g6, 1, none⟩ (.slice A9 n9 c9)).setCell ⟨g6, 2, none⟩ (.int .i64 0)) m u1 u2 := fun x => Y.EO.set (Y.EO.set (Y.EO.set x b0 0 _) b1 1 _) b2 2 _
 obtain ⟨X8, x8, y8, X9, x9, y9, e, he⟩ := h.v9 hp9
 have e0 := e
 rw [e9] at e
 injection e with e
 have e := congrArg Array.toList e
 simp only [List.cons.injEq, Value.slice.injEq, and_true] at e
 obtain ⟨⟨rfl, rfl, rfl⟩, rfl, rfl, rfl⟩ := e
 exact ⟨(fun e => nomatch (show true = false from e)), hE, blk_far (p := ⟨g6, 2, none⟩) (blk_far (p := ⟨g6, 1, none⟩) (blk_far (p := ⟨g6, 0, none⟩) h.h3 hne _) hne _) hne _, h.hl, h.v0, h.v1, (fun _ e => absurd ((show p 4 = false from e).symm.trans hp4) (by simp)), h.v3, (fun _ e => absurd ((show p 7 = false from e).symm.trans hp7) (by simp)), h.v5, (fun _ e => absurd ((show p 7 = false from e).symm.trans hp7) (by simp)),
  (fun _ e => absurd ((show p 4 = false from e).symm.trans hp4) (by simp)), (fun _ e => absurd ((show p 7 = false from e).symm.trans hp7) (by simp)), (fun _ e => absurd ((show p 8 = false from e).symm.trans hp8) (by simp)), (fun a => by obtain ⟨a1, a2, a3, a4, a5, a6, q, q2⟩ := h.v8 a; exact ⟨a1, a2, a3, a4, a5, a6, q, eo q2⟩), (fun _ => ⟨_, _, _, _, _, _, e0, eo he⟩), (fun e => nomatch (show true = false from e)), (fun _ => ⟨_, _, _, _, _, _, b3, eo he⟩), ⟨h.od.1, h.od.2.1, h.od.2.2.1, h.od.2.2.2.1, fun _ => hp9⟩⟩
end
theorem Y.add (HT : Y.TOT) (A0 : Option Addr) (c0 : Nat) (dn : List S96) (A1 : Option Addr) (c1 : Nat) (at_ : List S117) (name value : ByteArray) (w : World)
  (hr0 : Kd.C k96 w A0 dn.length dn) (hc0 : dn.length ≤ c0) (hr1 : Kd.C k117 w A1 at_.length at_) (hc1 : at_.length ≤ c1) (hn0 : dn.length ≤ 1000) (hn1 : at_.length ≤ 500) (hn2 : ∀ a ∈ at_, Y.AV a) (hv : value.size ≤ 8000) :
  Calls Tryz.prog 128 #[.agg #[.slice A0 dn.length c0, .slice A1 at_.length c1], .string name, .string value] w fun e w' => ∃ (v0 v1 : Value) (code : Int), e = .returned (.agg #[v0, v1, .int .i64 code]) ∧ Y.EO w w' (at_.length + 1) v0 v1 ∧ Below w.heap.size w w' := by
 obtain ⟨kn, nv, hkn⟩ := HT.2.2.2 value hv
 have hu51 := Tryz.underlying51
 have hu119 := Tryz.underlying119
 have HR := Aside0.mk (And.intro hr0 hr1)
 have HC := Aside0.mk (And.intro hc0 hc1)
 have HN := Aside0.mk (And.intro hn0 (And.intro hn1 hn2))
 have HKN := Aside0.mk hkn
 have HV := Aside0.mk hv
 have HTT := Aside0.mk HT
 clear hr0 hr1 hc0 hc1 hn0 hn1 hn2 hkn hv HT
 go_enter Tryz.func128, Tryz.ntmps128
 go_upto_if 11 with (first | ((with_reducible refine gate_dst (N := 3) rfl ?_); refine box_event ?hg (N := 3) ?hd (cs := #[.slice A0 dn.length c0, .slice A1 at_.length c1]) (t := 51) ?hr ?_; (case hd => rfl); (case hg => rfl); (case hr => first | (go_simp; done) | (go_simp; rfl)); intro g3 hg3 w3 hbox3 hb3; have HB3 := Aside0.mk hb3; have HG3 := Aside0.mk hbox3; clear hg3 hb3 hbox3) | ((with_reducible refine gate_dst (N := 6) rfl ?_); refine box_event ?hg (N := 6) ?hd (cs := #[.slice none 0 0, .slice none 0 0, .int .i64 0]) (t := 119) ?hr ?_; (case hd => rfl); (case hg => rfl); (case hr => first | (go_simp; done) | (go_simp; rfl)); intro g6 hg6 w6 hbox6 hb6; have c30 : w6.cell? ⟨g3, 0, none⟩ = some (.slice A0 dn.length c0) := (blk_cell (blk_below HG3.out hb6) 0).trans rfl; have c31 : w6.cell? ⟨g3, 1, none⟩ = some (.slice A1 at_.length c1) := (blk_cell (blk_below HG3.out hb6) 1).trans rfl; have HG36 := Aside0.mk (blk_below HG3.out hb6); have HB6 := Aside0.mk (below_step HB3.out hb6); have HG6 := Aside0.mk hbox6; have HL6 := Aside0.mk (show w.heap.size ≤ g6 from by rw [hg6]; exact below_size HB3.out); clear hg6 hb6 hbox6 HB3 HG3) | (go_at_call 160; refine (Y.of_ HTT.out A0 c0 dn A1 c1 at_ name w6 (Kd.C_below HR.out.1 HB6.out) HC.out.1 (Kd.C_below HR.out.2 HB6.out) HC.out.2 HN.out.2.1 HN.out.2.2).mono ?_; rintro e w7 ⟨Al, cl, l, rfl, hcl, hC, hl, hb⟩; clear c30 c31; have HO := Aside0.mk (And.intro hcl (And.intro (Kd.C_below hC hb) hl)); have HG37 := Aside0.mk (blk_below HG36.out hb); have HG67 := Aside0.mk (blk_below HG6.out hb); have HB7 := Aside0.mk (below_step HB6.out hb); clear hcl hC hl hb HG36 HG6 HB6) | (go_at_call 110; refine (Qr.calls kn value nv w7 HKN.out).mono ?_; rintro e w8 ⟨rfl, hb⟩; have HO8 := Aside0.mk (And.intro HO.out.1 (And.intro (Kd.C_below HO.out.2.1 hb) HO.out.2.2)); have HG38 := Aside0.mk (blk_below HG37.out hb); have HG68 := Aside0.mk (blk_below HG67.out hb); have HB8 := Aside0.mk (below_step HB7.out hb); clear hb HG37 HG67 HB7) | (go_at_call 161; obtain ⟨ki, ri, hki⟩ := HTT.out.2.2.1 l nv HO.out.2.2; refine (Vf.calls ki Al cl l nv ri w8 HO8.out.2.1 HO8.out.1 hki).mono ?_; rintro e w9 ⟨rfl, hb⟩; have HO9 := Aside0.mk (And.intro HO8.out.1 (And.intro (Kd.C_below HO8.out.2.1 hb) HO8.out.2.2)); have HG39 := Aside0.mk (blk_below HG38.out hb); have HG69 := Aside0.mk (blk_below HG68.out hb); have HB9 := Aside0.mk (below_step HB8.out hb); clear hb hki HG38 HG68 HB8 HO8))
 cases hcb : decide (0 ≤ ri)
 case true =>
  clear hcb
  have f0 := blk_frozen HG69.out 0
  have f1 := blk_frozen HG69.out 1
  have f2 := blk_frozen HG69.out 2
  clear f0 f1 f2
  go_wp2_with (go_at_call 127; refine (Ve.calls 7 [] [] 7 w9 rfl).mono ?_; rintro e w20 ⟨v0, v1, rfl, hR0, hS1, hb⟩; obtain ⟨A8, c8, rfl⟩ := Kd.R_slice hR0; obtain ⟨A9, c9, rfl⟩ := Kd.S_slice hS1; have HE := Aside0.mk (show Y.EO w w20 (at_.length + 1) (.slice A8 ([] : List S96).length c8) (.slice A9 ([] : List S117).length c9) from ⟨⟨[], Kd.R_lower hR0 (below_size HB9.out), by simp⟩, [], Kd.R_lower (Kd.S_R hS1) (below_size HB9.out), by simp, by simp⟩); have HG := Aside0.mk (blk_below HG69.out hb); have HB := Aside0.mk (below_step HB9.out hb); have g0 : w20.cell? ⟨g6, 0, none⟩ = some (.slice none 0 0) := (blk_cell HG.out 0).trans rfl; have g1 : w20.cell? ⟨g6, 1, none⟩ = some (.slice none 0 0) := (blk_cell HG.out 1).trans rfl; have g2 : w20.cell? ⟨g6, 2, none⟩ = some (.int .i64 0) := (blk_cell HG.out 2).trans rfl; have f0 := blk_frozen HG.out 0; have f1 := blk_frozen HG.out 1; have f2 := blk_frozen HG.out 2; clear hR0 hS1 hb)
  refine bodyPost_ret (results_cell_row rfl _ _ g6 119 #[(.slice A8 ([] : List S96).length c8), (.slice A9 ([] : List S117).length c9), .int .i64 7] (0, 0) _ rfl (blk_put (blk_put (blk_put HG.out 0 (.slice A8 ([] : List S96).length c8) rfl) 1 (.slice A9 ([] : List S117).length c9) rfl) 2 (.int .i64 7) rfl) Tryz.underlying119 rfl (by kernel_rfl)) rfl ?_
  have h1 := blk_put HG.out 0 (.slice A8 ([] : List S96).length c8) rfl
  have h2 := blk_put h1 1 (.slice A9 ([] : List S117).length c9) rfl
  exact ⟨_, _, 7, rfl, Y.EO.set (Y.EO.set (Y.EO.set HE.out HG.out 0 _) h1 1 _) h2 2 _, below_set (below_set (below_set HB.out HL6.out) HL6.out) HL6.out⟩
 clear hcb
 have c31 : w9.cell? ⟨g3, 1, none⟩ = some (.slice A1 at_.length c1) := (blk_cell HG39.out 1).trans rfl
 go_upto_region 4 with fail
 go_cut [18] (fun v18 wc => (∃ b : Bool, v18 = .bool b ∧ (b = false → l.length < 4)) ∧ wc = w9)
 case first =>
  by_cases a4 : 4 ≤ l.length
  case pos =>
   have f1 : decide (4 ≤ l.length) = true := decide_eq_true a4
   have f2 : decide ((4 : Int) ≤ (l.length : Int)) = true := decide_eq_true (by omega)
   clear a4
   go_wp2
   go_meet
   case rel => exact ⟨⟨_, rfl, nofun⟩, rfl⟩
  have f1 : decide (4 ≤ l.length) = false := decide_eq_false a4
  have f2 : decide ((4 : Int) ≤ (l.length : Int)) = false := decide_eq_false (by omega)
  have HA4 := Aside0.mk (show l.length < 4 from by omega)
  clear a4
  by_cases a0 : l.length = 0
  case neg =>
   have f3 : ((l.length : Int) == 0) = false := beq_eq_false_iff_ne.2 (by omega)
   have f4 : (l.length == 0) = false := beq_eq_false_iff_ne.2 a0
   have f5 : ¬ l = [] := fun h => a0 (by rw [h]; rfl)
   clear a0
   go_wp2
   go_meet
   case rel => exact ⟨⟨_, rfl, fun _ => HA4.out⟩, rfl⟩
  obtain rfl : l = [] := List.length_eq_zero_iff.1 a0
  clear a0
  go_wp2
  go_meet
  case rel => exact ⟨⟨_, rfl, fun _ => HA4.out⟩, rfl⟩
 case rest =>
  obtain ⟨⟨b, rfl, hb4⟩, hw⟩ := hcut
  replace hw := hw.symm
  subst hw
  cases b
  case true =>
   clear c31
   have f0 := blk_frozen HG69.out 0
   have f1 := blk_frozen HG69.out 1
   have f2 := blk_frozen HG69.out 2
   clear f0 f1 f2
   go_wp2_with (go_at_call 127; refine (Ve.calls 9 [] [] 9 w9 rfl).mono ?_; rintro e w20 ⟨v0, v1, rfl, hR0, hS1, hb⟩; obtain ⟨A8, c8, rfl⟩ := Kd.R_slice hR0; obtain ⟨A9, c9, rfl⟩ := Kd.S_slice hS1; have HE := Aside0.mk (show Y.EO w w20 (at_.length + 1) (.slice A8 ([] : List S96).length c8) (.slice A9 ([] : List S117).length c9) from ⟨⟨[], Kd.R_lower hR0 (below_size HB9.out), by simp⟩, [], Kd.R_lower (Kd.S_R hS1) (below_size HB9.out), by simp, by simp⟩); have HG := Aside0.mk (blk_below HG69.out hb); have HB := Aside0.mk (below_step HB9.out hb); have g0 : w20.cell? ⟨g6, 0, none⟩ = some (.slice none 0 0) := (blk_cell HG.out 0).trans rfl; have g1 : w20.cell? ⟨g6, 1, none⟩ = some (.slice none 0 0) := (blk_cell HG.out 1).trans rfl; have g2 : w20.cell? ⟨g6, 2, none⟩ = some (.int .i64 0) := (blk_cell HG.out 2).trans rfl; have f0 := blk_frozen HG.out 0; have f1 := blk_frozen HG.out 1; have f2 := blk_frozen HG.out 2; clear hR0 hS1 hb)
   refine bodyPost_ret (results_cell_row rfl _ _ g6 119 #[(.slice A8 ([] : List S96).length c8), (.slice A9 ([] : List S117).length c9), .int .i64 9] (0, 0) _ rfl (blk_put (blk_put (blk_put HG.out 0 (.slice A8 ([] : List S96).length c8) rfl) 1 (.slice A9 ([] : List S117).length c9) rfl) 2 (.int .i64 9) rfl) Tryz.underlying119 rfl (by kernel_rfl)) rfl ?_
   have h1 := blk_put HG.out 0 (.slice A8 ([] : List S96).length c8) rfl
   have h2 := blk_put h1 1 (.slice A9 ([] : List S117).length c9) rfl
   exact ⟨_, _, 9, rfl, Y.EO.set (Y.EO.set (Y.EO.set HE.out HG.out 0 _) h1 1 _) h2 2 _, below_set (below_set (below_set HB.out HL6.out) HL6.out) HL6.out⟩
  clear c31
  have HB4 := Aside0.mk (hb4 rfl)
  clear hb4
  go_upto_region 6 with fail
  refine Y.any_rule (by kernel_rfl) (fun p val W => Y.JA w w9 g3 g6 #[.slice A0 dn.length c0, .slice A1 at_.length c1] name value Al cl l (at_.length + 1) p val W) (by kernel_rfl) ?h0 ?hstep ?hfin
  case h0 => exact ⟨fun _ => below_drew (Below.refl _ _), below_drew1 HB9.out, HG39.out, HO9.out.2.1, nofun, nofun, nofun, nofun, nofun, nofun, nofun, nofun, nofun, nofun, nofun, nofun, (fun _ => HG69.out), nofun, ⟨nofun, nofun, nofun, nofun, nofun⟩⟩
  case hfin =>
   intro p val W a hJ hall hA
   have hp10 : p 10 = true := hall 10 (by simp)
   obtain ⟨X8, x8, y8, X9, x9, y9, hblk, X, Yb⟩ := hJ.g1 hp10
   have x6 : a.tmps[6]?.getD undef = .pointer (some ⟨g6, 0, none⟩) := Y.AI_oldT hA 6 (by kernel_rfl)
   have hx6 : a.tmps[6]? = some (.pointer (some ⟨g6, 0, none⟩)) := by
    cases h : a.tmps[6]? with
    | none => rw [h] at x6; cases x6
    | some z => rw [h] at x6; rw [show z = _ from x6]
   go_wp2
   refine bodyPost_ret (results_cell_row rfl _ _ g6 119 #[.slice X8 x8 y8, .slice X9 x9 y9, .int .i64 0] (0, 0) _ (Y.AI_old hA 6 (by kernel_rfl)) hblk Tryz.underlying119 rfl (by kernel_rfl)) hA.1 ?_
   obtain ⟨dn2, r1, r2⟩ := X
   obtain ⟨at2, r3, r4⟩ := Yb
   exact ⟨_, _, _, rfl, ⟨⟨dn2, Kd.R_lower r1 (below_size HB9.out), r2⟩, at2, Kd.R_lower r3 (below_size HB9.out), r4⟩, hJ.he⟩
  case hstep =>
   intro p val W a i oi hJ hi hp hdep hA K hK
   rcases i with _ | _ | _ | _ | _ | _ | _ | _ | _ | _ | _ | i
   ·obtain rfl := Option.some.inj hi
    have e3 : a.tmps[3]?.getD undef = .pointer (some ⟨g3, 0, none⟩) := Y.AI_oldT hA 3 (by kernel_rfl)
    have k0 : W.cell? ⟨g3, 0, none⟩ = some (.slice A0 dn.length c0) := (blk_cell hJ.h3 0).trans rfl
    have k1 : W.cell? ⟨g3, 1, none⟩ = some (.slice A1 at_.length c1) := (blk_cell hJ.h3 1).trans rfl
    have hK' := hK (.agg #[.slice A0 dn.length c0, .slice A1 at_.length c1]) W (Y.JA.put hJ 0 _ (.inl rfl) (fun _ => rfl) (by simp) (by simp) (by simp))
    refine Y.stp rfl ?_
    go_simp
    exact hK'
   ·obtain rfl := Option.some.inj hi
    have e1 : a.tmps[1]?.getD undef = .string name := Y.AI_oldT hA 1 (by kernel_rfl)
    have hK' := hK (.string name) W (Y.JA.put hJ 1 _ (.inr (.inl rfl)) (by simp) (fun _ => rfl) (by simp) (by simp))
    refine Y.stp rfl ?_
    go_simp
    exact hK'
   ·obtain rfl := Option.some.inj hi
    have hp8 : p 8 = false := Bool.eq_false_iff.2 (fun b => absurd ((hJ.od.1 (hJ.od.2.1 (hJ.od.2.2.1 b)).1).symm.trans hp) (by simp))
    have hp4 : p 4 = false := Bool.eq_false_iff.2 (fun b => absurd ((hJ.od.1 b).symm.trans hp) (by simp))
    have hK' := hK (.slice (some ⟨W.heap.size, 0, none⟩) 0 0) (W.alloc (.cells #[] 9)) (Y.JA.put2 hJ hp4 (below_alloc (Below.refl _ _) _) _ (Y.lit0 W _ (below_size (Y.JA.hb8 hJ hp8))) (fun k hk => by simp [Value.ownBlock] at hk; omega))
    refine Y.stp rfl ?_
    go_simp
    exact hK'
   ·obtain rfl := Option.some.inj hi
    have e1 : a.tmps[7]?.getD undef = .slice Al l.length cl := Y.AI_oldT hA 7 (by kernel_rfl)
    have hK' := hK (.slice Al l.length cl) W (Y.JA.put hJ 3 _ (.inr (.inr (.inl rfl))) (by simp) (by simp) (fun _ => rfl) (by simp))
    refine Y.stp rfl ?_
    go_simp
    exact hK'
   ·obtain rfl := Option.some.inj hi
    have hp2 : p 2 = true := hdep ⟨2, .data⟩ (by simp) rfl
    have hp3 : p 3 = true := hdep ⟨3, .data⟩ (by simp) rfl
    have hp7 : p 7 = false := Bool.eq_false_iff.2 (fun b => absurd ((hJ.od.2.1 b).1.symm.trans hp) (by simp))
    have hp8 := (Y.JA.late hJ).1 hp7
    have hp9 := (Y.JA.late hJ).2.1 hp8
    have hp10 := (Y.JA.late hJ).2.2 hp9
    have x2 : a.eval (.tmp 36) = val 2 := Y.AI_new (n := 44) (by kernel_rfl) hA 2 36 rfl rfl hp2
    have x3 : a.eval (.tmp 37) = .slice Al l.length cl := (Y.AI_new (n := 44) (by kernel_rfl) hA 3 37 rfl rfl hp3).trans (hJ.v3 hp3)
    refine Kd.R_append_rows_step Kd.string (w0 := w9) w9.heap.size rfl (.tmp 36) (.tmp 37) 39 9 (.string ⟨#[]⟩) 16 rfl Tryz.underlying39 info9 rfl (by decide) (by omega) (val 2) [] l Al l.length cl (fun _ => True) (fun _ => False) x2 x3 (hJ.v2 hp2 hp) (Kd.C_below hJ.hl (hJ.hb hp10)) (fun _ _ h => h) (fun _ h => h.elim) (fun _ _ => trivial) (hJ.hb hp10) (below_size (hJ.hb hp10)) (by have := HB4.out; simp; omega) ?_
    intro v1 w1 ho hB hg hat
    exact hK v1 w1 (Y.JA.put4 hJ hp2 hp hp7 hp8 hp9 hp10 v1 ho hB (below_step HB9.out hB) hg hat)
   ·obtain rfl := Option.some.inj hi
    have e1 : a.tmps[2]?.getD undef = .string value := Y.AI_oldT hA 2 (by kernel_rfl)
    have hK' := hK (.string value) W (Y.JA.put hJ 5 _ (.inr (.inr (.inr rfl))) (by simp) (by simp) (by simp) (fun _ => rfl))
    refine Y.stp rfl ?_
    go_simp
    exact hK'
   ·obtain rfl := Option.some.inj hi
    have hp7 : p 7 = false := Bool.eq_false_iff.2 (fun b => absurd ((hJ.od.2.1 b).2.symm.trans hp) (by simp))
    have hp5 : p 5 = true := hdep ⟨5, .data⟩ (by simp) rfl
    have e1 : a.tmps[39]?.getD undef = .string value := (Y.AI_newT (n := 44) (by kernel_rfl) hA 5 39 rfl rfl hp5).trans (hJ.v5 hp5)
    have hK' := hK (.slice (some ⟨W.heap.size, 0, none⟩) 1 1) (W.alloc (.cells #[.string value] 9)) (Y.JA.put6 hJ hp7 (below_alloc (Below.refl _ _) _) _ (Y.lit1 W _ value (below_size (Y.JA.hb8 hJ ((Y.JA.late hJ).1 hp7)))) (fun k hk => by simp [Value.ownBlock] at hk; omega))
    refine Y.stp rfl ?_
    go_simp
    exact hK'
   ·obtain rfl := Option.some.inj hi
    have hp4 : p 4 = true := hdep ⟨4, .data⟩ (by simp) rfl
    have hp6 : p 6 = true := hdep ⟨6, .data⟩ (by simp) rfl
    have hp8 := (Y.JA.late hJ).1 hp
    have hp9 := (Y.JA.late hJ).2.1 hp8
    have hp10 := (Y.JA.late hJ).2.2 hp9
    have hR6 := hJ.v6 hp6 hp
    obtain ⟨A6, c6, e6⟩ := Kd.R_slice hR6
    rw [e6] at hR6
    have x4 : a.eval (.tmp 38) = val 4 := Y.AI_new (n := 44) (by kernel_rfl) hA 4 38 rfl rfl hp4
    have x6 : a.eval (.tmp 40) = .slice A6 [value].length c6 := (Y.AI_new (n := 44) (by kernel_rfl) hA 6 40 rfl rfl hp6).trans e6
    refine Kd.R_append_rows_step Kd.string (w0 := w9) w9.heap.size rfl (.tmp 38) (.tmp 40) 39 9 (.string ⟨#[]⟩) 16 rfl Tryz.underlying39 info9 rfl (by decide) (by omega) (val 4) l [value] A6 [value].length c6 (fun _ => True) (fun _ => False) x4 x6 (hJ.v4 hp4 hp) (Kd.R_reads' hR6).2.2 (fun _ _ h => h) (fun _ h => h.elim) (fun _ _ => trivial) (hJ.hb hp10) (below_size (hJ.hb hp10)) (by have := HB4.out; simp; omega) ?_
    intro v1 w1 ho hB hg hat
    exact hK v1 w1 (Y.JA.put7 hJ hp4 hp6 hp v1 ho hB (below_step HB9.out hB) hg)
   ·obtain rfl := Option.some.inj hi
    have hp7 : p 7 = true := hdep ⟨7, .data⟩ (by simp) rfl
    have hp0 : p 0 = true := hdep ⟨0, .data⟩ (by simp) rfl
    have hp1 : p 1 = true := hdep ⟨1, .data⟩ (by simp) rfl
    have hR7 := hJ.v7 hp7 hp
    obtain ⟨A7, c7, e7⟩ := Kd.R_slice hR7
    rw [e7] at hR7
    have x0 : a.tmps[34]?.getD undef = .agg #[.slice A0 dn.length c0, .slice A1 at_.length c1] := (Y.AI_newT (n := 44) (by kernel_rfl) hA 0 34 rfl rfl hp0).trans (hJ.v0 hp0)
    have x1 : a.tmps[35]?.getD undef = .string name := (Y.AI_newT (n := 44) (by kernel_rfl) hA 1 35 rfl rfl hp1).trans (hJ.v1 hp1)
    have x7 : a.tmps[41]?.getD undef = .slice A7 (l ++ [value]).length c7 := (Y.AI_newT (n := 44) (by kernel_rfl) hA 7 41 rfl rfl hp7).trans e7
    have hBW := hJ.he
    refine call_ 162 #[.agg #[.slice A0 dn.length c0, .slice A1 at_.length c1], .string name, .slice A7 (l ++ [value]).length c7] rfl rfl ?hrun ((Y.set HTT.out A0 c0 dn A1 c1 at_ name A7 c7 (l ++ [value]) W (Kd.C_below HR.out.1 hBW) HC.out.1 (Kd.C_below HR.out.2 hBW) HC.out.2 (Kd.R_reads' hR7).2.2 (Kd.R_reads' hR7).2.1 HN.out.1 HN.out.2.1 HN.out.2.2 ⟨by have := HB4.out; simp; omega, fun s hs => (List.mem_append.1 hs).elim (HO9.out.2.2.2 s) (fun h => by rw [List.mem_singleton.1 h]; exact HV.out)⟩).mono ?hpost)
    case hrun => go_simp
    case hpost =>
     rintro e w2 ⟨u0, u1, rfl, hr0, at2, hr1, hbd, hb2⟩
     obtain ⟨A8, c8, rfl⟩ := Kd.R_slice hr0
     obtain ⟨A9, c9, rfl⟩ := Kd.R_slice hr1
     exact ⟨_, rfl, hK _ w2 (Y.JA.put8 hJ hp7 hp hb2 ⟨⟨dn, Kd.R_lower hr0 (below_size (Y.JA.hb8 hJ hp)), HN.out.1⟩, at2, Kd.R_lower hr1 (below_size (Y.JA.hb8 hJ hp)), hbd.1, hbd.2⟩)⟩
   ·obtain rfl := Option.some.inj hi
    have hp8 : p 8 = true := hdep ⟨8, .data⟩ (by simp) rfl
    obtain ⟨X8, x8, y8, X9, x9, y9, e8, _⟩ := hJ.v8 hp8
    have e1 : a.tmps[42]?.getD undef = .agg #[.slice X8 x8 y8, .slice X9 x9 y9] := (Y.AI_newT (n := 44) (by kernel_rfl) hA 8 42 rfl rfl hp8).trans e8
    have hK' := hK _ W (Y.JA.put9 hJ hp8 e8)
    refine Y.stp rfl ?_
    go_simp
    exact hK'
   ·obtain rfl := Option.some.inj hi
    have hp9 : p 9 = true := hdep ⟨9, .data⟩ (by simp) rfl
    obtain ⟨X8, x8, y8, X9, x9, y9, e9, _⟩ := hJ.v9 hp9
    have x6 : a.tmps[6]?.getD undef = .pointer (some ⟨g6, 0, none⟩) := Y.AI_oldT hA 6 (by kernel_rfl)
    have x43 : a.tmps[43]?.getD undef = .agg #[.slice X8 x8 y8, .slice X9 x9 y9, .int .i64 0] := (Y.AI_newT (n := 44) (by kernel_rfl) hA 9 43 rfl rfl hp9).trans e9
    have k0 : W.cell? ⟨g6, 0, none⟩ = some (.slice none 0 0) := (blk_cell (hJ.g0 hp) 0).trans rfl
    have k1 : W.cell? ⟨g6, 1, none⟩ = some (.slice none 0 0) := (blk_cell (hJ.g0 hp) 1).trans rfl
    have k2 : W.cell? ⟨g6, 2, none⟩ = some (.int .i64 0) := (blk_cell (hJ.g0 hp) 2).trans rfl
    have f0 := blk_frozen (hJ.g0 hp) 0
    have f1 := blk_frozen (hJ.g0 hp) 1
    have f2 := blk_frozen (hJ.g0 hp) 2
    have hK' := hK undef _ (Y.JA.put10 hJ hp9 hp e9 (below_set (below_set (below_set hJ.he HL6.out) HL6.out) HL6.out) undef)
    refine Y.stp rfl ?_
    go_simp
    exact hK'
   ·exact absurd hi (by simp)
def Vg.f (a0 : ByteArray) (a1 : ByteArray) : Option (Bool) := if (a0.size : Int) > 8000 then (some true) else (some (decide ((a1.size : Int) > 8000)))
theorem Vg.calls (a0 : ByteArray) (a1 : ByteArray) (r : Bool) (w : World) (h : Vg.f a0 a1 = some r) :
  Calls Tryz.prog 126 #[.string a0, .string a1] w fun e w' => e = .returned (.bool r) ∧ Drawn0 w w' := by
 have H : (if (a0.size : Int) > 8000 then (some true) else (some (decide ((a1.size : Int) > 8000)))) = some r := h
 clear h
 by_cases c3 : (a0.size : Int) > 8000
 ·rw [if_pos c3] at H
  have c3b0 : decide (8000 < (a0.size : Int)) = true := decide_eq_true c3
  have c3b1 : decide (8000 < a0.size) = true := decide_eq_true (by omega)
  clear c3
  obtain rfl := Option.some.inj H
  clear H
  go_enter Tryz.func126, Tryz.ntmps126
  go_wp2
  go_ret
  exact ⟨EZb, DRz⟩
 rw [if_neg c3] at H
 have c3b0 : decide (8000 < (a0.size : Int)) = false := decide_eq_false c3
 have c3b1 : decide (8000 < a0.size) = false := decide_eq_false (by omega)
 clear c3
 obtain rfl := Option.some.inj H
 clear H
 go_enter Tryz.func126, Tryz.ntmps126
 go_wp2
 go_ret
 exact ⟨EZb, DRz⟩
end Go.Proofs.YtmkeigielncpjaaGreatDoor.PFnAcl
