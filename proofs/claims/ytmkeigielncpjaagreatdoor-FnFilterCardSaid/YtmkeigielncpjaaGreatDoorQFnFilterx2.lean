-- Laid by this session's own program out of the translation; Lean checks it.
import Derived.Test.YtmkeigielncpjaaGreatDoorQFnFilterx0
namespace Go.Proofs.YtmkeigielncpjaaGreatDoor.PFnFilter
open Go.RowKit Go.Proofs.YtmkeigielncpjaaGreatDoorW.PrintWords Go.Proofs.YtmkeigielncpjaaGreatDoorW.PrintLast Go.Proofs.YtmkeigielncpjaaGreatDoorW.PrintMore
attribute [local go_sem] max2_int min2_int max_two min_two max_three min_three max_four min_four   -- for this text's walks alone
set_option linter.unusedVariables false
set_option linter.unusedSimpArgs false
def IsS112 (w0 W : World) (g : Nat) (f0 : List Int) (f1 : Int) (f2 : Int) (f3 : Int) : Prop := ∃ A0 c0, W.heap[g]? = some (.cells #[.slice A0 f0.length c0, .int .i64 f1, .int .u64 f2, .int .i64 f3] 112 (0, 0)) ∧ w0.heap.size ≤ g ∧ Kd.C (Kd.int .u8) w0 A0 f0.length f0
theorem IsS112.grown {w0 W : World} {g : Nat} {f0 : List Int} {f1 : Int} {f2 : Int} {f3 : Int} {W1 : World} {row : Option Nat} (h : IsS112 w0 W g f0 f1 f2 f3) (hw : W.grownBy W1 row) (hne : some g ≠ row) : IsS112 w0 W1 g f0 f1 f2 f3 := by
 obtain ⟨A0, c0, hb, hg, hr0⟩ := h
 exact ⟨A0, c0, blk_grown hb hw hne, hg, hr0⟩
theorem IsS112.own_neN {w0 W : World} {g : Nat} {f0 : List Int} {f1 : Int} {f2 : Int} {f3 : Int} {α : Type} {d : Kd α} {e : Nat} {base : Nat} {ok : Nat → Prop} {v : Value} {xs : List α} (h : IsS112 w0 W g f0 f1 f2 f3) (ho : Kd.N d e W base ok v xs) (ht : e ≠ 112) : some g ≠ v.ownBlock := by
 obtain ⟨A0, c0, hb, hg, hr0⟩ := h
 exact Kd.N_ne ho hb ht
theorem IsS112.fresh {w0 W : World} {g : Nat} {f0 : List Int} {f1 : Int} {f2 : Int} {f3 : Int} (h : IsS112 w0 W g f0 f1 f2 f3) : ∀ k, W.heap.size ≤ k → k ≠ g := by
 obtain ⟨A0, c0, hb, hg, hr0⟩ := h
 exact Kd.freshB hb
theorem IsS112.kept {w0 W : World} {g : Nat} {f0 : List Int} {f1 : Int} {f2 : Int} {f3 : Int} {W1 : World} {S : Nat → Prop} (h : IsS112 w0 W g f0 f1 f2 f3) (hk : Kept W W1 S) (hne : ¬ S g) : IsS112 w0 W1 g f0 f1 f2 f3 := by
 obtain ⟨A0, c0, hb, hg, hr0⟩ := h
 exact ⟨A0, c0, blk_kept hb hk hne, hg, hr0⟩
theorem IsS112.below {w0 W : World} {g : Nat} {f0 : List Int} {f1 : Int} {f2 : Int} {f3 : Int} {W1 : World} (h : IsS112 w0 W g f0 f1 f2 f3) (hw : Below W.heap.size W W1) : IsS112 w0 W1 g f0 f1 f2 f3 := h.grown (grown_of_below hw none) (by simp)
theorem IsS112.alloc {w0 W : World} {g : Nat} {f0 : List Int} {f1 : Int} {f2 : Int} {f3 : Int} (h : IsS112 w0 W g f0 f1 f2 f3) (o : Obj) : IsS112 w0 (W.alloc o) g f0 f1 f2 f3 := h.below (below_alloc (Below.refl _ _) o)
theorem IsS112.drewN {w0 W : World} {g : Nat} {f0 : List Int} {f1 : Int} {f2 : Int} {f3 : Int} (h : IsS112 w0 W g f0 f1 f2 f3) (m : Nat) : IsS112 w0 (W.drewN m) g f0 f1 f2 f3 := h
theorem IsS112.drew {w0 W : World} {g : Nat} {f0 : List Int} {f1 : Int} {f2 : Int} {f3 : Int} (h : IsS112 w0 W g f0 f1 f2 f3) : IsS112 w0 W.drew g f0 f1 f2 f3 := h
theorem IsS112.at_ {w0 W : World} {g : Nat} {f0 : List Int} {f1 : Int} {f2 : Int} {f3 : Int} {w' : World} {m : Nat} (hq : W.drewN m = w') (h : IsS112 w0 W g f0 f1 f2 f3) : IsS112 w0 w' g f0 f1 f2 f3 := by subst hq; exact IsS112.drewN h m
theorem IsS112.apart {w0 W : World} {g : Nat} {f0 : List Int} {f1 : Int} {f2 : Int} {f3 : Int} {α : Type} {d : Kd α} {e : Nat} {base : Nat} {ok : Nat → Prop} {v : Value} {xs : List α} (h : IsS112 w0 W g f0 f1 f2 f3) (ho : d.R e W base ok v xs) (ht : ∀ q, q ∈ e :: d.E → q ≠ 112) : d.R e W base (fun k => ok k ∧ k ≠ g) v xs := by
 obtain ⟨A0, c0, hb, hg, hr0⟩ := h
 exact Kd.R_types ho hb ht
theorem IsS112.own_ne {w0 W : World} {g : Nat} {f0 : List Int} {f1 : Int} {f2 : Int} {f3 : Int} {α : Type} {d : Kd α} {e : Nat} {base : Nat} {ok : Nat → Prop} {v : Value} {xs : List α} (h : IsS112 w0 W g f0 f1 f2 f3) (ho : d.R e W base ok v xs) (ht : e ≠ 112) : some g ≠ v.ownBlock := by
 obtain ⟨A0, c0, hb, hg, hr0⟩ := h
 exact Kd.R_ne ho hb ht
theorem IsS112.apartQ {w0 W : World} {g : Nat} {f0 : List Int} {f1 : Int} {f2 : Int} {f3 : Int} {α : Type} {d : Kd α} {e : Nat} {base : Nat} {ok : Nat → Prop} {v : Value} {xs : List α} (h : IsS112 w0 W g f0 f1 f2 f3) (ho : d.Q e W base ok v xs) (ht : ∀ q, q ∈ e :: d.E → q ≠ 112) : d.Q e W base (fun k => ok k ∧ k ≠ g) v xs := by
 obtain ⟨A0, c0, hb, hg, hr0⟩ := h
 exact Kd.Q_types ho hb ht
theorem IsS112.own_neQ {w0 W : World} {g : Nat} {f0 : List Int} {f1 : Int} {f2 : Int} {f3 : Int} {α : Type} {d : Kd α} {e : Nat} {base : Nat} {ok : Nat → Prop} {v : Value} {xs : List α} (h : IsS112 w0 W g f0 f1 f2 f3) (ho : d.Q e W base ok v xs) (ht : e ≠ 112) : some g ≠ v.ownBlock := by
 obtain ⟨A0, c0, hb, hg, hr0⟩ := h
 exact Kd.Q_ne ho hb ht
theorem IsS112.apartS {w0 W : World} {g : Nat} {f0 : List Int} {f1 : Int} {f2 : Int} {f3 : Int} {α : Type} {d : Kd α} {e : Nat} {base : Nat} {ok : Nat → Prop} {v : Value} {xs : List α} (h : IsS112 w0 W g f0 f1 f2 f3) (ho : d.S e W base ok v xs) (ht : ∀ q, q ∈ e :: d.E → q ≠ 112) : d.S e W base (fun k => ok k ∧ k ≠ g) v xs := by
 obtain ⟨A0, c0, hb, hg, hr0⟩ := h
 exact Kd.S_types ho hb ht
theorem IsS112.own_neS {w0 W : World} {g : Nat} {f0 : List Int} {f1 : Int} {f2 : Int} {f3 : Int} {α : Type} {d : Kd α} {e : Nat} {base : Nat} {ok : Nat → Prop} {v : Value} {xs : List α} (h : IsS112 w0 W g f0 f1 f2 f3) (ho : d.S e W base ok v xs) (ht : e ≠ 112) : some g ≠ v.ownBlock := by
 obtain ⟨A0, c0, hb, hg, hr0⟩ := h
 exact Kd.S_ne ho hb ht
theorem IsS112.lt {w0 W : World} {g : Nat} {f0 : List Int} {f1 : Int} {f2 : Int} {f3 : Int} (h : IsS112 w0 W g f0 f1 f2 f3) : g < W.heap.size := by
 obtain ⟨A0, c0, hb, hg, hr0⟩ := h
 exact blk_lt hb
theorem IsS112.ge {w0 W : World} {g : Nat} {f0 : List Int} {f1 : Int} {f2 : Int} {f3 : Int} (h : IsS112 w0 W g f0 f1 f2 f3) : w0.heap.size ≤ g := by
 obtain ⟨A0, c0, hb, hg, hr0⟩ := h
 exact hg
theorem IsS112.ne_blk {w0 W : World} {g : Nat} {f0 : List Int} {f1 : Int} {f2 : Int} {f3 : Int} {a : Nat} {cs : Array Value} {t : TypeId} {fr : Nat × Nat} (h : IsS112 w0 W g f0 f1 f2 f3) (hb2 : W.heap[a]? = some (.cells cs t fr)) (ht : t ≠ 112) : g ≠ a := by
 obtain ⟨A0, c0, hb, hg, hr0⟩ := h
 rintro rfl
 rw [hb] at hb2
 injection hb2 with hb2
 injection hb2 with _ ht2
 exact ht ht2.symm
theorem IsS112.far {w0 W : World} {g : Nat} {f0 : List Int} {f1 : Int} {f2 : Int} {f3 : Int} {p : Addr} (h : IsS112 w0 W g f0 f1 f2 f3) (hne : g ≠ p.block) (u : Value) : IsS112 w0 (W.setCell p u) g f0 f1 f2 f3 := by
 obtain ⟨A0, c0, hb, hg, hr0⟩ := h
 exact ⟨A0, c0, blk_far hb hne u, hg, hr0⟩
theorem cellS112_0 {W : World} {g : Nat} {A0 : Option Addr} {c0 : Nat} {f0 : List Int} {f1 : Int} {f2 : Int} {f3 : Int} (h : W.heap[g]? = some (.cells #[.slice A0 f0.length c0, .int .i64 f1, .int .u64 f2, .int .i64 f3] 112 (0, 0))) : W.cell? ⟨g, 0, none⟩ = some (.slice A0 f0.length c0) := (blk_cell h 0).trans rfl
theorem cellS112_1 {W : World} {g : Nat} {A0 : Option Addr} {c0 : Nat} {f0 : List Int} {f1 : Int} {f2 : Int} {f3 : Int} (h : W.heap[g]? = some (.cells #[.slice A0 f0.length c0, .int .i64 f1, .int .u64 f2, .int .i64 f3] 112 (0, 0))) : W.cell? ⟨g, 1, none⟩ = some (.int .i64 f1) := (blk_cell h 1).trans rfl
theorem IsS112.set_1 {w0 W : World} {g : Nat} {f0 : List Int} {f1 : Int} {f2 : Int} {f3 : Int} (h : IsS112 w0 W g f0 f1 f2 f3) (x : Int) : IsS112 w0 (W.setCell ⟨g, 1, none⟩ (.int .i64 x)) g f0 x f2 f3 := by
 obtain ⟨A0, c0, hb, hg, hr0⟩ := h
 exact ⟨A0, c0, by simpa using blk_set hb 1 (.int .i64 x), hg, hr0⟩
theorem cellS112_2 {W : World} {g : Nat} {A0 : Option Addr} {c0 : Nat} {f0 : List Int} {f1 : Int} {f2 : Int} {f3 : Int} (h : W.heap[g]? = some (.cells #[.slice A0 f0.length c0, .int .i64 f1, .int .u64 f2, .int .i64 f3] 112 (0, 0))) : W.cell? ⟨g, 2, none⟩ = some (.int .u64 f2) := (blk_cell h 2).trans rfl
theorem IsS112.set_2 {w0 W : World} {g : Nat} {f0 : List Int} {f1 : Int} {f2 : Int} {f3 : Int} (h : IsS112 w0 W g f0 f1 f2 f3) (x : Int) : IsS112 w0 (W.setCell ⟨g, 2, none⟩ (.int .u64 x)) g f0 f1 x f3 := by
 obtain ⟨A0, c0, hb, hg, hr0⟩ := h
 exact ⟨A0, c0, by simpa using blk_set hb 2 (.int .u64 x), hg, hr0⟩
theorem cellS112_3 {W : World} {g : Nat} {A0 : Option Addr} {c0 : Nat} {f0 : List Int} {f1 : Int} {f2 : Int} {f3 : Int} (h : W.heap[g]? = some (.cells #[.slice A0 f0.length c0, .int .i64 f1, .int .u64 f2, .int .i64 f3] 112 (0, 0))) : W.cell? ⟨g, 3, none⟩ = some (.int .i64 f3) := (blk_cell h 3).trans rfl
theorem IsS112.set_3 {w0 W : World} {g : Nat} {f0 : List Int} {f1 : Int} {f2 : Int} {f3 : Int} (h : IsS112 w0 W g f0 f1 f2 f3) (x : Int) : IsS112 w0 (W.setCell ⟨g, 3, none⟩ (.int .i64 x)) g f0 f1 f2 x := by
 obtain ⟨A0, c0, hb, hg, hr0⟩ := h
 exact ⟨A0, c0, by simpa using blk_set hb 3 (.int .i64 x), hg, hr0⟩
theorem IsS112.new (w0 W : World) (A0 : Option Addr) (c0 : Nat) (f0 : List Int) (f1 : Int) (f2 : Int) (f3 : Int) (hB : Below w0.heap.size w0 W) (hr0 : Kd.C (Kd.int .u8) w0 A0 f0.length f0) : IsS112 w0 (W.alloc (.cells #[.slice A0 f0.length c0, .int .i64 f1, .int .u64 f2, .int .i64 f3] 112)) W.heap.size f0 f1 f2 f3 := ⟨A0, c0, by simpa using heap_alloc_new W _, hB.size, hr0⟩
def Qc.l0 : Nat → List Int → Int → List Int → Int → Int → Int → Option (List Int × Int × Int × Int)
 | 0, _, _, _, _, _, _ => none
 | k + 1, x0, x4, x102000, x102001, x102002, x102003 => if x4 < (x0.length : Int) then (if x4 < 64 then (if 0 ≤ x4 then (Qc.l0 k x0 (wrap64 (x4 + 1)) x102000 x102001 (IntKind.u64.wrap ((Go.bits .xor .u64 x102002 (IntKind.u64.wrap (rd x0 x4))) * 1099511628211)) x102003) else (none)) else (if (wrap64 ((x0.length : Int) / 20)) > 12 then (some (x102000, x102001, x102002, 12)) else (some (x102000, x102001, x102002, wrap64 ((x0.length : Int) / 20))))) else (if (wrap64 ((x0.length : Int) / 20)) > 12 then (some (x102000, x102001, x102002, 12)) else (some (x102000, x102001, x102002, wrap64 ((x0.length : Int) / 20))))
def Qc.f (k : Nat) (l0 : List Int) : Option (List Int × Int × Int × Int) := Qc.l0 k l0 0 l0 0 88172645463325252 0
theorem Qc.mono_l : ∀ k, (∀ y0 y1 y2 y3 y4 y5, LeO (Qc.l0 k y0 y1 y2 y3 y4 y5) (Qc.l0 (k + 1) y0 y1 y2 y3 y4 y5))
 | 0 => fun _ _ _ _ _ _ r h => by simp [Qc.l0] at h
 | k + 1 => by
  have ih0 := Qc.mono_l k
  ·intro y0 y1 y2 y3 y4 y5
   unfold Qc.l0
   with_reducible repeat' first | exact ih0 _ _ _ _ _ _ | exact LeO.refl _ | exact LeO.none _ | refine LeO.ite ?_ ?_ | refine LeO.bind ?_ (fun _ => ?_)
theorem Qc.mono : ∀ a0 k, LeO (Qc.f k a0) (Qc.f (k + 1) a0) := by
 intro a0 k
 have ih0 := Qc.mono_l k
 unfold Qc.f
 with_reducible repeat' first | exact ih0 _ _ _ _ _ _ | exact LeO.refl _ | exact LeO.none _ | refine LeO.ite ?_ ?_ | refine LeO.bind ?_ (fun _ => ?_)
def Qc.T5 : Bool × List (List Nat × List Nat) := (true, [([], []), ([], []), ([1], [1]), ([2], [2]), ([3], [3]), ([], []), ([], []), ([5, 6], [5, 6]), ([7], [7]), ([8], [8]), ([4, 9], [4, 9]), ([10], [10]), ([0, 0, 1, 2, 3, 4, 5, 6, 7, 8, 9, 10, 11], [0]), ([12, 0, 1, 2, 3, 4, 5, 6, 7, 8, 9, 10, 11], [12]), ([13, 11, 0, 1, 2, 3, 4, 5, 6, 7, 8, 9, 10, 11], [11, 13])])
def Qc.B5 : List Nat := [0, 0, 2, 6, 14, 0, 0, 96, 224, 480, 1022, 2046, 4095, 8191, 16383]
theorem Qc.tab5 : rtab .any (opsOf Tryz.f47 5) = Qc.T5 := by kernel_rfl
theorem Qc.bits5 : waitsOk Qc.T5.2 Qc.B5 = true := by kernel_rfl
set_option maxHeartbeats 8000000 in
set_option maxRecDepth 100000 in
theorem Qc.calls (k : Nat) (A0 : Option Addr) (c0 : Nat) (l0 : List Int) (r1 : List Int) (r2 : Int) (r3 : Int) (r4 : Int) (w0 w : World) (hB : Below w0.heap.size w0 w) (hr0 : Kd.C (Kd.int .u8) w0 A0 l0.length l0) (hc0 : l0.length ≤ c0) (h : Qc.f k l0 = some (r1, r2, r3, r4)) :
  Calls Tryz.prog 47 #[.slice A0 l0.length c0] w fun e w' => ∃ g_ : Nat, e = .returned (.pointer (some ⟨g_, 0, none⟩)) ∧ IsS112 w0 w' g_ r1 r2 r3 r4 ∧ Below w0.heap.size w0 w' ∧ Below w.heap.size w w' := by
 have HB0_ := Aside0.mk hB
 have HR0_o := Aside0.mk hr0
 replace hr0 := Kd.C_below hr0 hB
 replace hB := Below.refl w.heap.size w
 have hu112 := Tryz.underlying112
 have HR0 := Aside0.mk hr0
 have HC0 := Aside0.mk hc0
 clear hr0 hc0
 have HBW := Aside0.mk (Below.refl w.heap.size w)
 have HW0 := Aside0.mk hB.size
 have HB := Aside0.mk hB
 clear hB
 have H : (Qc.l0 k l0 0 l0 0 88172645463325252 0) = some (r1, r2, r3, r4) := h
 clear h
 have H' := Aside0.mk H
 clear H
 go_enter Tryz.func47, Tryz.ntmps47
 go_wp2_with (first | ((with_reducible refine gate_dst (N := 7) rfl ?_); refine box_event ?hg (N := 7) ?hd (cs := #[.slice A0 l0.length c0, .int .i64 0, .int .u64 88172645463325252, .int .i64 0]) (t := 112) ?hr ?_; (case hd => rfl); (case hg => rfl); (case hr => first | (go_simp; done) | (go_simp; rfl)); intro gb101 hg w2 hbox hb; have n0_ := Aside0.mk (below_step HBW.out hb); have n1_ := Aside0.mk (below_step HBa hb); have n2_ := Aside0.mk (hbox); have n3_ := Aside0.mk ((by rw [hg]; exact (below_size (by repeat (first | (with_reducible first | exact HBW.out | apply below_alloc | apply pw_below_drewN | apply below_drew1) | exact HBW.out))) : w.heap.size ≤ gb101)); have n4_ := Aside0.mk ((Nat.le_trans HW0.out (by rw [hg]; exact (below_size (by repeat (first | (with_reducible first | exact HBW.out | apply below_alloc | apply pw_below_drewN | apply below_drew1) | exact HBW.out))) : w.heap.size ≤ gb101) : w.heap.size ≤ gb101)); clear HBW; clear HB; have HBW := n0_; have HB := n1_; have BK101 := n2_; have GW101 := n3_; have GE101 := n4_; clear n0_ n1_ n2_ n3_ n4_; clear hb hbox hg))
 go_loopg [4] k (fun kq v4 w' => ∃ (x4_1 : Int) (x102002_1 : Int), v4 = .int .i64 x4_1 ∧ Aside0 (Qc.l0 kq l0 x4_1 l0 0 x102002_1 0 = some (r1, r2, r3, r4)) ∧ Aside0 (kq ≤ k) ∧ Aside0 (w'.heap[gb101]? = some (.cells #[(.slice A0 l0.length c0), .int .i64 0, .int .u64 x102002_1, .int .i64 0] 112 (0, 0))) ∧ Aside0 (Below w.heap.size w w'))
 case atStart => exact ⟨(0), (88172645463325252), EZc, H', ⟨Nat.le_refl _⟩, ⟨by (with_reducible repeat first | apply blk_drewN | apply blk_drew | apply blk_alloc); exact BK101.out⟩, ⟨by repeat (first | (with_reducible first | exact HB.out | apply below_alloc | apply pw_below_drewN | apply below_drew1 | refine below_set ?_ GE101.out) | exact HB.out)⟩⟩
 case round =>
  clear H'
  obtain ⟨x4_1, x102002_1, rfl, HA, HK1, BK101, HB⟩ := hrel
  cases gk with
  | zero => exact absurd HA.out (by simp [Qc.l0])
  | succ k1 =>
   have H := HA.out
   clear HA
   simp only [Qc.l0] at H
   by_cases c3 : x4_1 < (l0.length : Int)
   rotate_left
   ·rw [if_neg c3] at H
    have c3b0 := decide_eq_false c3
    clear c3
    by_cases c11 : (wrap64 ((l0.length : Int) / 20)) > 12
    ·rw [if_pos c11] at H
     have c11b0 : decide (12 < (wrap64 ((l0.length : Int) / 20))) = true := decide_eq_true c11
     (try (have c11v0 := c11b0; (try rw [show wrap64 ((l0.length : Int) / 20) = (l0.length : Int) / 20 from by unfold wrap64; omega] at c11v0)))
     clear c11
     obtain ⟨rfl, rfl, rfl, rfl⟩ := SQz H
     have hcz12_0 := C1z BK101
     have hcz12_1 := C2z BK101
     have hcz12_2 := C3z BK101
     have hcz12_3 := C4z BK101
     have hfz12_0 := blk_frozen BK101.out 0
     have hfz12_1 := blk_frozen BK101.out 1
     have hfz12_2 := blk_frozen BK101.out 2
     have hfz12_3 := blk_frozen BK101.out 3
     go_wp2
     go_ret
     exact ⟨_, rfl, (show IsS112 w0 _ gb101 l0 0 x102002_1 12 from ⟨_, _, by (with_reducible repeat first | apply blk_drewN | apply blk_drew | apply blk_alloc); refine blk_put (cs := #[.slice A0 l0.length c0, .int .i64 0, .int .u64 x102002_1, .int .i64 (wrap64 ((l0.length : Int) / 20))]) ?_ 3 _ rfl; (with_reducible repeat first | apply blk_drewN | apply blk_drew | apply blk_alloc); refine blk_put (cs := #[.slice A0 l0.length c0, .int .i64 0, .int .u64 x102002_1, .int .i64 0]) ?_ 3 _ rfl; (with_reducible repeat first | apply blk_drewN | apply blk_drew | apply blk_alloc); exact BK101.out, (Nat.le_trans HB0_.out.size GE101.out), HR0_o.out⟩), below_then HB0_.out HB0_.out.size (HBb GE101), HBb GE101⟩
    rw [if_neg c11] at H
    have c11b0 : decide (12 < (wrap64 ((l0.length : Int) / 20))) = false := decide_eq_false c11
    (try (have c11v0 := c11b0; (try rw [show wrap64 ((l0.length : Int) / 20) = (l0.length : Int) / 20 from by unfold wrap64; omega] at c11v0)))
    clear c11
    obtain ⟨rfl, rfl, rfl, rfl⟩ := SQz H
    have hcz13_0 := C1z BK101
    have hcz13_1 := C2z BK101
    have hcz13_2 := C3z BK101
    have hcz13_3 := C4z BK101
    have hfz13_0 := blk_frozen BK101.out 0
    have hfz13_1 := blk_frozen BK101.out 1
    have hfz13_2 := blk_frozen BK101.out 2
    have hfz13_3 := blk_frozen BK101.out 3
    go_wp2
    go_ret
    exact ⟨_, rfl, (show IsS112 w0 _ gb101 l0 0 x102002_1 (wrap64 ((l0.length : Int) / 20)) from ⟨_, _, by (with_reducible repeat first | apply blk_drewN | apply blk_drew | apply blk_alloc); refine blk_put (cs := #[.slice A0 l0.length c0, .int .i64 0, .int .u64 x102002_1, .int .i64 0]) ?_ 3 _ rfl; (with_reducible repeat first | apply blk_drewN | apply blk_drew | apply blk_alloc); exact BK101.out, (Nat.le_trans HB0_.out.size GE101.out), HR0_o.out⟩), below_then HB0_.out HB0_.out.size (HBb GE101), HBb GE101⟩
   rw [if_pos c3] at H
   have c3b0 := decide_eq_true c3
   clear c3
   by_cases c4 : x4_1 < 64
   rotate_left
   ·rw [if_neg c4] at H
    have c4b0 := decide_eq_false c4
    clear c4
    by_cases c8 : (wrap64 ((l0.length : Int) / 20)) > 12
    ·rw [if_pos c8] at H
     have c8b0 : decide (12 < (wrap64 ((l0.length : Int) / 20))) = true := decide_eq_true c8
     (try (have c8v0 := c8b0; (try rw [show wrap64 ((l0.length : Int) / 20) = (l0.length : Int) / 20 from by unfold wrap64; omega] at c8v0)))
     clear c8
     obtain ⟨rfl, rfl, rfl, rfl⟩ := SQz H
     have hcz9_0 := C1z BK101
     have hcz9_1 := C2z BK101
     have hcz9_2 := C3z BK101
     have hcz9_3 := C4z BK101
     have hfz9_0 := blk_frozen BK101.out 0
     have hfz9_1 := blk_frozen BK101.out 1
     have hfz9_2 := blk_frozen BK101.out 2
     have hfz9_3 := blk_frozen BK101.out 3
     go_wp2
     go_ret
     exact ⟨_, rfl, (show IsS112 w0 _ gb101 l0 0 x102002_1 12 from ⟨_, _, by (with_reducible repeat first | apply blk_drewN | apply blk_drew | apply blk_alloc); refine blk_put (cs := #[.slice A0 l0.length c0, .int .i64 0, .int .u64 x102002_1, .int .i64 (wrap64 ((l0.length : Int) / 20))]) ?_ 3 _ rfl; (with_reducible repeat first | apply blk_drewN | apply blk_drew | apply blk_alloc); refine blk_put (cs := #[.slice A0 l0.length c0, .int .i64 0, .int .u64 x102002_1, .int .i64 0]) ?_ 3 _ rfl; (with_reducible repeat first | apply blk_drewN | apply blk_drew | apply blk_alloc); exact BK101.out, (Nat.le_trans HB0_.out.size GE101.out), HR0_o.out⟩), below_then HB0_.out HB0_.out.size (HBb GE101), HBb GE101⟩
    rw [if_neg c8] at H
    have c8b0 : decide (12 < (wrap64 ((l0.length : Int) / 20))) = false := decide_eq_false c8
    (try (have c8v0 := c8b0; (try rw [show wrap64 ((l0.length : Int) / 20) = (l0.length : Int) / 20 from by unfold wrap64; omega] at c8v0)))
    clear c8
    obtain ⟨rfl, rfl, rfl, rfl⟩ := SQz H
    have hcz10_0 := C1z BK101
    have hcz10_1 := C2z BK101
    have hcz10_2 := C3z BK101
    have hcz10_3 := C4z BK101
    have hfz10_0 := blk_frozen BK101.out 0
    have hfz10_1 := blk_frozen BK101.out 1
    have hfz10_2 := blk_frozen BK101.out 2
    have hfz10_3 := blk_frozen BK101.out 3
    go_wp2
    go_ret
    exact ⟨_, rfl, (show IsS112 w0 _ gb101 l0 0 x102002_1 (wrap64 ((l0.length : Int) / 20)) from ⟨_, _, by (with_reducible repeat first | apply blk_drewN | apply blk_drew | apply blk_alloc); refine blk_put (cs := #[.slice A0 l0.length c0, .int .i64 0, .int .u64 x102002_1, .int .i64 0]) ?_ 3 _ rfl; (with_reducible repeat first | apply blk_drewN | apply blk_drew | apply blk_alloc); exact BK101.out, (Nat.le_trans HB0_.out.size GE101.out), HR0_o.out⟩), below_then HB0_.out HB0_.out.size (HBb GE101), HBb GE101⟩
   rw [if_pos c4] at H
   have c4b0 := decide_eq_true c4
   clear c4
   by_cases c5 : 0 ≤ x4_1
   rotate_left
   ·rw [if_neg c5] at H
    exact absurd H (by simp)
   rw [if_pos c5] at H
   have c5b0 := decide_eq_true c5
   clear c5
   have H' := Aside0.mk H
   clear H
   try go_wp2
   have n0_ := Aside0.mk (blk_drew BK101.out)
   have n1_ := Aside0.mk (below_drew1 HB.out)
   clear BK101
   clear HB
   have BK101 := n0_
   have HB := n1_
   clear n0_ n1_
   have p102 : 0 ≤ (x4_1 : Int) := ODz
   have q102 : x4_1 < (l0.length : Int) := ODz
   obtain ⟨ad102, e102, hx102_0⟩ := Kd.at_int HR0.out x4_1 p102 q102
   have hw102_0 := hx102_0
   cases e102
   replace hx102_0 := pw_cell_below HB.out hx102_0
   replace p102 := eq_true p102
   replace q102 := eq_true q102
   refine start_ (n := 15) (S := fun w' => w'.cell? ⟨gb101, 0, none⟩ = some (.slice (some ad102) l0.length c0) ∧ w'.cell? ⟨gb101, 1, none⟩ = some (.int .i64 0) ∧ w'.cell? ⟨gb101, 2, none⟩ = some (.int .u64 x102002_1) ∧ w'.cell? ⟨gb101, 3, none⟩ = some (.int .i64 0) ∧ w'.cell? (ad102.add (x4_1).toNat) = some (.int .u8 (rd l0 x4_1))) (ds := [14]) (bz 15 0) (by kernel_rfl) rfl (by kernel_rfl) ⟨(blk_cell BK101.out 0).trans rfl, (blk_cell BK101.out 1).trans rfl, (blk_cell BK101.out 2).trans rfl, (blk_cell BK101.out 3).trans rfl, (HXz HB hw102_0 :)⟩ (fun hHeld => ?_); refine with_tabW Qc.tab5 Qc.bits5 (fun HT_ HW_ => ?_)
   generalize wr.drew = w6 at BK101 HB hx102_0 hHeld ⊢
   refine PYz 0 18 (bz 15 1) rfl rfl (any_of HT_.out (by kernel_rfl)) ?_
   refine PYz 1 19 (bz 15 3) rfl rfl (any_of HT_.out (by kernel_rfl)) ?_
   refine PYz 2 20 (bz 15 7) rfl rfl (any_of HT_.out (by kernel_rfl)) ?_
   refine PYz 3 21 (bz 15 15) rfl rfl (any_of HT_.out (by kernel_rfl)) ?_
   refine PYz 5 23 (bz 15 47) rfl rfl (any_of HT_.out (by kernel_rfl)) ?_
   refine PYz 6 24 (bz 15 111) rfl rfl (any_of HT_.out (by kernel_rfl)) ?_
   refine PYz 7 25 (bz 15 239) rfl rfl (any_of HT_.out (by kernel_rfl)) ?_
   refine PTz 4 22 (bz 15 255) rfl rfl (take_ofW HT_.out HW_.out (by kernel_rfl)) hHeld ?_
   refine PTz 8 26 (bz 15 511) rfl rfl (take_ofW HT_.out HW_.out (by kernel_rfl)) hHeld ?_
   refine PYz 9 27 (bz 15 1023) rfl rfl (any_of HT_.out (by kernel_rfl)) ?_
   refine PYz 10 28 (bz 15 2047) rfl rfl (any_of HT_.out (by kernel_rfl)) ?_
   refine PYz 11 29 (bz 15 4095) rfl rfl (any_of HT_.out (by kernel_rfl)) ?_
   refine PYz 12 30 (bz 15 8191) rfl rfl (any_of HT_.out (by kernel_rfl)) ?_
   refine PYz 13 31 (bz 15 16383) rfl rfl (any_of HT_.out (by kernel_rfl)) ?_
   refine last_ (i := 14) (N := none) (bz 15 32767) rfl rfl (one_of HT_.out (by kernel_rfl)) (by decide) (fun K hK => ?_)
   have hs7 : w6.cell? ⟨gb101, 2, none⟩ = some (.int .u64 x102002_1) := (blk_cell BK101.out 2).trans rfl
   have hfs7 := blk_frozen BK101.out 2
   refine skip_ (w1 := ?_) (by rfl) rfl ?_ ?_
   rotate_left
   ·go_simp
    rfl
   refine hK.out _ _ ?_
   clear hK K
   refine done_ (done_of HT_.out (by kernel_rfl)) ?_
   try go_wp2
   go_roundg k1
   case measure => have := HK1.out; omega
   case rel => exact ⟨(wrap64 (x4_1 + 1)), (IntKind.u64.wrap ((Go.bits .xor .u64 x102002_1 (IntKind.u64.wrap (rd l0 x4_1))) * 1099511628211)), EZc, H', ⟨by have := HK1.out; omega⟩, ⟨by (with_reducible repeat first | apply blk_drewN | apply blk_drew | apply blk_alloc); refine blk_put (cs := #[.slice (some ad102) l0.length c0, .int .i64 0, .int .u64 x102002_1, .int .i64 0]) ?_ 2 _ rfl; (with_reducible repeat first | apply blk_drewN | apply blk_drew | apply blk_alloc); exact BK101.out⟩, ⟨by repeat (first | (with_reducible first | exact HB.out | apply below_alloc | apply pw_below_drewN | apply below_drew1 | refine below_set ?_ GE101.out) | exact HB.out)⟩⟩
def Qd.f (s0_0 : List Int) (s0_1 : Int) (s0_2 : Int) (s0_3 : Int) (a1 : Int) : Option (Int × Int × Int × Int) := if a1 ≤ 1 then (some (0, s0_1, s0_2, s0_3)) else (if s0_1 < (s0_0.length : Int) then (if 0 ≤ s0_1 then (if (IntKind.u64.wrap (a1)) = 0 then (none) else (some (wrap64 (Int.tmod (IntKind.u64.wrap ((IntKind.u64.wrap (rd s0_0 s0_1)) + ((Go.bits .xor .u64 (Go.bits .xor .u64 (Go.bits .xor .u64 s0_2 (IntKind.u64.wrap (s0_2 * 8192))) ((Go.bits .xor .u64 s0_2 (IntKind.u64.wrap (s0_2 * 8192))) / 128)) (IntKind.u64.wrap ((Go.bits .xor .u64 (Go.bits .xor .u64 s0_2 (IntKind.u64.wrap (s0_2 * 8192))) ((Go.bits .xor .u64 s0_2 (IntKind.u64.wrap (s0_2 * 8192))) / 128)) * 131072))) / 1048576))) (IntKind.u64.wrap (a1))), wrap64 (s0_1 + 1), Go.bits .xor .u64 (Go.bits .xor .u64 (Go.bits .xor .u64 s0_2 (IntKind.u64.wrap (s0_2 * 8192))) ((Go.bits .xor .u64 s0_2 (IntKind.u64.wrap (s0_2 * 8192))) / 128)) (IntKind.u64.wrap ((Go.bits .xor .u64 (Go.bits .xor .u64 s0_2 (IntKind.u64.wrap (s0_2 * 8192))) ((Go.bits .xor .u64 s0_2 (IntKind.u64.wrap (s0_2 * 8192))) / 128)) * 131072)), s0_3))) else (none)) else (if (IntKind.u64.wrap (a1)) = 0 then (none) else (some (wrap64 (Int.tmod (IntKind.u64.wrap (0 + ((Go.bits .xor .u64 (Go.bits .xor .u64 (Go.bits .xor .u64 s0_2 (IntKind.u64.wrap (s0_2 * 8192))) ((Go.bits .xor .u64 s0_2 (IntKind.u64.wrap (s0_2 * 8192))) / 128)) (IntKind.u64.wrap ((Go.bits .xor .u64 (Go.bits .xor .u64 s0_2 (IntKind.u64.wrap (s0_2 * 8192))) ((Go.bits .xor .u64 s0_2 (IntKind.u64.wrap (s0_2 * 8192))) / 128)) * 131072))) / 1048576))) (IntKind.u64.wrap (a1))), s0_1, Go.bits .xor .u64 (Go.bits .xor .u64 (Go.bits .xor .u64 s0_2 (IntKind.u64.wrap (s0_2 * 8192))) ((Go.bits .xor .u64 s0_2 (IntKind.u64.wrap (s0_2 * 8192))) / 128)) (IntKind.u64.wrap ((Go.bits .xor .u64 (Go.bits .xor .u64 s0_2 (IntKind.u64.wrap (s0_2 * 8192))) ((Go.bits .xor .u64 s0_2 (IntKind.u64.wrap (s0_2 * 8192))) / 128)) * 131072)), s0_3))))
set_option maxHeartbeats 8000000 in
set_option maxRecDepth 100000 in
theorem Qd.calls (g : Nat) (s0_0 : List Int) (s0_1 : Int) (s0_2 : Int) (s0_3 : Int) (a1 : Int) (r1 : Int) (r2 : Int) (r3 : Int) (r4 : Int) (w0 w : World) (hI : IsS112 w0 w g s0_0 s0_1 s0_2 s0_3) (hB : Below w0.heap.size w0 w) (h : Qd.f s0_0 s0_1 s0_2 s0_3 a1 = some (r1, r2, r3, r4)) :
  Calls Tryz.prog 51 #[.pointer (some ⟨g, 0, none⟩), .int .i64 a1] w fun e w' => e = .returned (.int .i64 r1) ∧ IsS112 w0 w' g s0_0 r2 r3 r4 ∧ Below w0.heap.size w0 w' ∧ KeepBut w w' g none := by
 obtain ⟨A0, c0, hb, hg, hC⟩ := hI
 unfold Qd.f at h
 have hI : IsS112 w0 w g s0_0 s0_1 s0_2 s0_3 := ⟨A0, c0, hb, hg, hC⟩
 have hu := Tryz.underlying112
 by_cases hm : a1 ≤ 1
 ·rw [if_pos hm] at h; simp only [Option.some.injEq, Prod.mk.injEq] at h; obtain ⟨rfl, rfl, rfl, rfl⟩ := h
  have hd : decide (a1 ≤ 1) = true := decide_eq_true hm
  go_enter Tryz.func51, Tryz.ntmps51
  go_wp2
  go_ret
  exact ⟨rfl, hI, hB, KeepBut.refl _ _ _⟩
 rw [if_neg hm] at h
 have hd : decide (a1 ≤ 1) = false := decide_eq_false hm
 have hc0 : w.cell? ⟨g, 0, none⟩ = some (.slice A0 s0_0.length c0) := (blk_cell hb 0).trans rfl
 have hc1 : w.cell? ⟨g, 1, none⟩ = some (.int .i64 s0_1) := (blk_cell hb 1).trans rfl
 have hc2 : w.cell? ⟨g, 2, none⟩ = some (.int .u64 s0_2) := (blk_cell hb 2).trans rfl
 have hf1 := blk_frozen hb 1
 have hf2 := blk_frozen hb 2
 by_cases hl : s0_1 < (s0_0.length : Int)
 rotate_left
 ·rw [if_neg hl] at h
  have hdl : decide (s0_1 < (s0_0.length : Int)) = false := decide_eq_false hl
  by_cases hz : IntKind.u64.wrap a1 = 0
  ·rw [if_pos hz] at h; cases h
  rw [if_neg hz] at h
  have hzb : (IntKind.u64.wrap a1 == 0) = false := beq_eq_false_iff_ne.2 hz
  go_enter Tryz.func51, Tryz.ntmps51
  go_wp2
  go_quiet (fail)
  go_wp2
  go_region
  go_wp2
  have hI7 := IsS112.set_2 (IsS112.drewN hI (nq + 1)) (Go.bits .xor .u64 s0_2 (IntKind.u64.wrap (s0_2 * 8192)))
  have hB7 := below_set (j := 2) (v := .int .u64 (Go.bits .xor .u64 s0_2 (IntKind.u64.wrap (s0_2 * 8192)))) (pw_below_drewN hB (nq + 1)) hg
  have hK7 := KeepBut.set_ (keep_drewN (KeepBut.refl w g none) (nq + 1)) 2 (.int .u64 (Go.bits .xor .u64 s0_2 (IntKind.u64.wrap (s0_2 * 8192))))
  generalize Go.bits .xor .u64 s0_2 (IntKind.u64.wrap (s0_2 * 8192)) = m1 at h hI7 hB7 hK7 ⊢
  generalize (w.drewN (nq + 1)).setCell ⟨g, 2, none⟩ (.int .u64 m1) = w1 at hI7 hB7 hK7 ⊢
  obtain ⟨A7, d7, b7, _, _⟩ := id hI7
  have hz7 : w1.cell? ⟨g, 2, none⟩ = some (.int .u64 m1) := (blk_cell b7 2).trans rfl
  have hf7 := blk_frozen b7 2
  go_region
  go_wp2
  have hI8 := IsS112.drew (IsS112.set_2 hI7 (Go.bits .xor .u64 m1 (m1 / 128)))
  have hB8 := below_drew1 (below_set (j := 2) (v := .int .u64 (Go.bits .xor .u64 m1 (m1 / 128))) hB7 hg)
  have hK8 := keep_drew (KeepBut.set_ hK7 2 (.int .u64 (Go.bits .xor .u64 m1 (m1 / 128))))
  generalize Go.bits .xor .u64 m1 (m1 / 128) = m2 at h hI8 hB8 hK8 ⊢
  generalize (w1.setCell ⟨g, 2, none⟩ (.int .u64 m2)).drew = w2 at hI8 hB8 hK8 ⊢
  obtain ⟨A8, d8, b8, _, _⟩ := id hI8
  have hz8 : w2.cell? ⟨g, 2, none⟩ = some (.int .u64 m2) := (blk_cell b8 2).trans rfl
  have hf8 := blk_frozen b8 2
  go_region
  go_wp2
  have hI9 := IsS112.drew (IsS112.set_2 hI8 (Go.bits .xor .u64 m2 (IntKind.u64.wrap (m2 * 131072))))
  have hB9 := below_drew1 (below_set (j := 2) (v := .int .u64 (Go.bits .xor .u64 m2 (IntKind.u64.wrap (m2 * 131072)))) hB8 hg)
  have hK9 := keep_drew (KeepBut.set_ hK8 2 (.int .u64 (Go.bits .xor .u64 m2 (IntKind.u64.wrap (m2 * 131072)))))
  generalize Go.bits .xor .u64 m2 (IntKind.u64.wrap (m2 * 131072)) = m3 at h hI9 hB9 hK9 ⊢
  generalize (w2.setCell ⟨g, 2, none⟩ (.int .u64 m3)).drew = w3 at hI9 hB9 hK9 ⊢
  obtain ⟨A9, d9, b9, _, _⟩ := id hI9
  have hz9 : w3.cell? ⟨g, 2, none⟩ = some (.int .u64 m3) := (blk_cell b9 2).trans rfl
  have hf9 := blk_frozen b9 2
  simp only [Option.some.injEq, Prod.mk.injEq] at h
  obtain ⟨hr, rfl, rfl, rfl⟩ := h
  go_wp2
  go_ret
  rw [Int.zero_add] at hr
  exact ⟨by rw [← hr]; rfl, hI9, hB9, hK9⟩
 rw [if_pos hl] at h
 have hdl : decide (s0_1 < (s0_0.length : Int)) = true := decide_eq_true hl
 by_cases hp : 0 ≤ s0_1
 case neg => rw [if_neg hp] at h; cases h
 rw [if_pos hp] at h
 by_cases hz : IntKind.u64.wrap a1 = 0
 ·rw [if_pos hz] at h; cases h
 rw [if_neg hz] at h
 have hzb : (IntKind.u64.wrap a1 == 0) = false := beq_eq_false_iff_ne.2 hz
 obtain ⟨ad, rfl, hx0⟩ := Kd.at_int hC s0_1 hp hl
 have hx : w.cell? (ad.add s0_1.toNat) = some (.int .u8 (rd s0_0 s0_1)) := pw_cell_below hB hx0
 have hpt := eq_true hp
 have hlt := eq_true hl
 go_enter Tryz.func51, Tryz.ntmps51
 go_wp2
 go_quiet (fail)
 go_wp2
 go_quiet (fail)
 go_wp2
 generalize hq_ : World.drewN w _ = w5
 have hI5 : IsS112 w0 w5 g s0_0 s0_1 s0_2 s0_3 := by rw [← hq_]; exact IsS112.drewN hI _
 have hB5 : Below w0.heap.size w0 w5 := by rw [← hq_]; exact pw_below_drewN hB _
 have hK5 : KeepBut w w5 g none := by rw [← hq_]; exact keep_drewN (KeepBut.refl w g none) _
 clear hq_
 have hI6 := IsS112.set_1 hI5 (wrap64 (s0_1 + 1))
 have hB6 := below_set (j := 1) (v := .int .i64 (wrap64 (s0_1 + 1))) hB5 hg
 have hK6 := KeepBut.set_ hK5 1 (.int .i64 (wrap64 (s0_1 + 1)))
 generalize w5.setCell ⟨g, 1, none⟩ (.int .i64 (wrap64 (s0_1 + 1))) = w6 at hI6 hB6 hK6 ⊢
 obtain ⟨A6, d6, b6, _, _⟩ := id hI6
 have hz6 : w6.cell? ⟨g, 2, none⟩ = some (.int .u64 s0_2) := (blk_cell b6 2).trans rfl
 have hf6 := blk_frozen b6 2
 go_region
 go_wp2
 have hI7 := IsS112.drew (IsS112.set_2 hI6 (Go.bits .xor .u64 s0_2 (IntKind.u64.wrap (s0_2 * 8192))))
 have hB7 := below_drew1 (below_set (j := 2) (v := .int .u64 (Go.bits .xor .u64 s0_2 (IntKind.u64.wrap (s0_2 * 8192)))) hB6 hg)
 have hK7 := keep_drew (KeepBut.set_ hK6 2 (.int .u64 (Go.bits .xor .u64 s0_2 (IntKind.u64.wrap (s0_2 * 8192)))))
 generalize Go.bits .xor .u64 s0_2 (IntKind.u64.wrap (s0_2 * 8192)) = m1 at h hI7 hB7 hK7 ⊢
 generalize (w6.setCell ⟨g, 2, none⟩ (.int .u64 m1)).drew = w1 at hI7 hB7 hK7 ⊢
 obtain ⟨A7, d7, b7, _, _⟩ := id hI7
 have hz7 : w1.cell? ⟨g, 2, none⟩ = some (.int .u64 m1) := (blk_cell b7 2).trans rfl
 have hf7 := blk_frozen b7 2
 go_region
 go_wp2
 have hI8 := IsS112.drew (IsS112.set_2 hI7 (Go.bits .xor .u64 m1 (m1 / 128)))
 have hB8 := below_drew1 (below_set (j := 2) (v := .int .u64 (Go.bits .xor .u64 m1 (m1 / 128))) hB7 hg)
 have hK8 := keep_drew (KeepBut.set_ hK7 2 (.int .u64 (Go.bits .xor .u64 m1 (m1 / 128))))
 generalize Go.bits .xor .u64 m1 (m1 / 128) = m2 at h hI8 hB8 hK8 ⊢
 generalize (w1.setCell ⟨g, 2, none⟩ (.int .u64 m2)).drew = w2 at hI8 hB8 hK8 ⊢
 obtain ⟨A8, d8, b8, _, _⟩ := id hI8
 have hz8 : w2.cell? ⟨g, 2, none⟩ = some (.int .u64 m2) := (blk_cell b8 2).trans rfl
 have hf8 := blk_frozen b8 2
 go_region
 go_wp2
 have hI9 := IsS112.drew (IsS112.set_2 hI8 (Go.bits .xor .u64 m2 (IntKind.u64.wrap (m2 * 131072))))
 have hB9 := below_drew1 (below_set (j := 2) (v := .int .u64 (Go.bits .xor .u64 m2 (IntKind.u64.wrap (m2 * 131072)))) hB8 hg)
 have hK9 := keep_drew (KeepBut.set_ hK8 2 (.int .u64 (Go.bits .xor .u64 m2 (IntKind.u64.wrap (m2 * 131072)))))
 generalize Go.bits .xor .u64 m2 (IntKind.u64.wrap (m2 * 131072)) = m3 at h hI9 hB9 hK9 ⊢
 generalize (w2.setCell ⟨g, 2, none⟩ (.int .u64 m3)).drew = w3 at hI9 hB9 hK9 ⊢
 obtain ⟨A9, d9, b9, _, _⟩ := id hI9
 have hz9 : w3.cell? ⟨g, 2, none⟩ = some (.int .u64 m3) := (blk_cell b9 2).trans rfl
 have hf9 := blk_frozen b9 2
 simp only [Option.some.injEq, Prod.mk.injEq] at h
 obtain ⟨hr, rfl, rfl, rfl⟩ := h
 go_wp2
 go_ret
 exact ⟨by rw [← hr]; rfl, hI9, hB9, hK9⟩
def Qf.f (s0_0 : List Int) (s0_1 : Int) (s0_2 : Int) (s0_3 : Int) (l1 : List ByteArray) : Option (ByteArray × Int × Int × Int) := (Qd.f s0_0 s0_1 s0_2 s0_3 (l1.length : Int)).bind fun bt104 => (if 0 ≤ bt104.1 then (if bt104.1 < (l1.length : Int) then (some (rdOf ByteArray.empty l1 bt104.1, bt104.2.1, bt104.2.2.1, bt104.2.2.2)) else (none)) else (none))
set_option maxHeartbeats 8000000 in
set_option maxRecDepth 100000 in
theorem Qf.calls (g : Nat) (s0_0 : List Int) (s0_1 : Int) (s0_2 : Int) (s0_3 : Int) (A1 : Option Addr) (c1 : Nat) (l1 : List ByteArray) (r1 : ByteArray) (r2 : Int) (r3 : Int) (r4 : Int) (w0 w : World) (hI : IsS112 w0 w g s0_0 s0_1 s0_2 s0_3) (hB : Below w0.heap.size w0 w) (hr1 : Kd.C Kd.string w A1 l1.length l1) (hc1 : l1.length ≤ c1) (hf1 : ∀ ad, A1 = some ad → 0 < l1.length → ad.block ≠ g) (h : Qf.f s0_0 s0_1 s0_2 s0_3 l1 = some (r1, r2, r3, r4)) :
  Calls Tryz.prog 53 #[.pointer (some ⟨g, 0, none⟩), .slice A1 l1.length c1] w fun e w' => e = .returned (.string r1) ∧ IsS112 w0 w' g s0_0 r2 r3 r4 ∧ Below w0.heap.size w0 w' ∧ KeepBut w w' g none := by
 have HR1 := Aside0.mk hr1
 have HC1 := Aside0.mk hc1
 clear hr1 hc1
 have HI0 := Aside0.mk hI
 have HK := Aside0.mk (KeepBut.refl w g none)
 have HL := Aside0.mk hB.size
 clear hI
 have HW0 := Aside0.mk hB.size
 have HB := Aside0.mk hB
 clear hB
 have H : ((Qd.f s0_0 s0_1 s0_2 s0_3 (l1.length : Int)).bind fun bt104 => (if 0 ≤ bt104.1 then (if bt104.1 < (l1.length : Int) then (some (rdOf ByteArray.empty l1 bt104.1, bt104.2.1, bt104.2.2.1, bt104.2.2.2)) else (none)) else (none))) = some (r1, r2, r3, r4) := h
 clear h
 replace H := Option.bind_eq_some_iff.mp H
 obtain ⟨⟨t104, t105, t106, t107⟩, A30, H⟩ := H
 replace H : (if 0 ≤ t104 then (if t104 < (l1.length : Int) then (some (rdOf ByteArray.empty l1 t104, t105, t106, t107)) else (none)) else (none)) = some (r1, r2, r3, r4) := H
 have A3 := Aside0.mk A30
 clear A30
 by_cases c4 : 0 ≤ t104
 rotate_left
 ·rw [if_neg c4] at H
  exact absurd H (by simp)
 rw [if_pos c4] at H
 have c4b0 := decide_eq_true c4
 clear c4
 by_cases c5 : t104 < (l1.length : Int)
 ·rw [if_pos c5] at H
  have c5b0 := decide_eq_true c5
  clear c5
  obtain ⟨rfl, rfl, rfl, rfl⟩ := SQz H
  go_enter Tryz.func53, Tryz.ntmps53
  go_wp2_with (first | ((with_reducible refine gate_callee (f := 51) rfl ?_); refine goesL_ (some 9) rfl rfl Tryz.func51 (by kernel_rfl) rfl #[.pointer (some ⟨g, 0, none⟩), .int .i64 (l1.length : Int)] rfl MPz ?_; (with_reducible refine (Qd.calls g s0_0 s0_1 s0_2 s0_3 (l1.length : Int) t104 t105 t106 t107 w0 _ ?side1 ?side2 A3.out).mono ?_); (case side1 => repeat (first | (with_reducible first | exact HI0.out | apply IsS112.alloc | apply IsS112.drewN | apply IsS112.drew | apply IsS112.set_1 | apply IsS112.set_2 | apply IsS112.set_3) | exact HI0.out)); (case side2 => repeat (first | (with_reducible first | exact HB.out | apply below_alloc | apply pw_below_drewN | apply below_drew1 | refine below_set ?_ (IsS112.ge HI0.out)) | exact HB.out)); rintro e w6 ⟨rfl, hi, hb, hk⟩; refine ⟨_, rfl, ?_⟩; have n0_ := Aside0.mk (KeepBut.trans (by repeat (first | (with_reducible first | exact HK.out | apply KeepBut.set_ | apply keep_drewN | apply keep_drew | apply keep_alloc) | exact HK.out)) hk (.inl rfl)); have n1_ := Aside0.mk (hb); have n2_ := Aside0.mk (hi); clear HK; clear HB; clear HI0; have HK := n0_; have HB := n1_; have HI0 := n2_; clear n0_ n1_ n2_; (try clear hb); (try clear hb2); (try clear hk); (try clear hi); have p108 : 0 ≤ (t104 : Int) := ODz; have q108 : t104 < (l1.length : Int) := ODz; obtain ⟨ad108, e108, hx108_0⟩ := Kd.at_string HR1.out t104 p108 q108; cases e108; replace hx108_0 := keep_cell HK.out hx108_0 (by first | (rw [add_block]; exact hf1 _ rfl (by omega)) | exact hf1 _ rfl (by omega) | exact hf1 ad108 rfl (by omega)); replace p108 := eq_true p108; replace q108 := eq_true q108))
  go_ret
  exact ⟨EZa, by repeat (first | (with_reducible first | exact HI0.out | apply IsS112.alloc | apply IsS112.drewN | apply IsS112.drew | apply IsS112.set_1 | apply IsS112.set_2 | apply IsS112.set_3) | exact HI0.out), by repeat (first | (with_reducible first | exact HB.out | apply below_alloc | apply pw_below_drewN | apply below_drew1 | refine below_set ?_ (IsS112.ge HI0.out)) | exact HB.out), by repeat (first | (with_reducible first | exact HK.out | apply KeepBut.set_ | apply keep_drewN | apply keep_drew | apply keep_alloc) | exact HK.out)⟩
 rw [if_neg c5] at H
 exact absurd H (by simp)
def Qe.f (s0_0 : List Int) (s0_1 : Int) (s0_2 : Int) (s0_3 : Int) (a1 : Int) : Option (Bool × Int × Int × Int) := (Qd.f s0_0 s0_1 s0_2 s0_3 a1).bind fun bt109 => (some ((bt109.1 == 0), bt109.2.1, bt109.2.2.1, bt109.2.2.2))
set_option maxHeartbeats 8000000 in
set_option maxRecDepth 100000 in
theorem Qe.calls (g : Nat) (s0_0 : List Int) (s0_1 : Int) (s0_2 : Int) (s0_3 : Int) (a1 : Int) (r1 : Bool) (r2 : Int) (r3 : Int) (r4 : Int) (w0 w : World) (hI : IsS112 w0 w g s0_0 s0_1 s0_2 s0_3) (hB : Below w0.heap.size w0 w) (h : Qe.f s0_0 s0_1 s0_2 s0_3 a1 = some (r1, r2, r3, r4)) :
  Calls Tryz.prog 87 #[.pointer (some ⟨g, 0, none⟩), .int .i64 a1] w fun e w' => e = .returned (.bool r1) ∧ IsS112 w0 w' g s0_0 r2 r3 r4 ∧ Below w0.heap.size w0 w' ∧ KeepBut w w' g none := by
 have HI0 := Aside0.mk hI
 have HK := Aside0.mk (KeepBut.refl w g none)
 have HL := Aside0.mk hB.size
 clear hI
 have HW0 := Aside0.mk hB.size
 have HB := Aside0.mk hB
 clear hB
 have H : ((Qd.f s0_0 s0_1 s0_2 s0_3 a1).bind fun bt109 => (some ((bt109.1 == 0), bt109.2.1, bt109.2.2.1, bt109.2.2.2))) = some (r1, r2, r3, r4) := h
 clear h
 replace H := Option.bind_eq_some_iff.mp H
 obtain ⟨⟨t109, t110, t111, t112⟩, A30, H⟩ := H
 replace H : (some ((t109 == 0), t110, t111, t112)) = some (r1, r2, r3, r4) := H
 have A3 := Aside0.mk A30
 clear A30
 obtain ⟨rfl, rfl, rfl, rfl⟩ := SQz H
 go_enter Tryz.func87, Tryz.ntmps87
 go_wp2_with (first | ((with_reducible refine gate_callee (f := 51) rfl ?_); refine goesL_ (some 7) rfl rfl Tryz.func51 (by kernel_rfl) rfl #[.pointer (some ⟨g, 0, none⟩), .int .i64 a1] rfl MPz ?_; (with_reducible refine (Qd.calls g s0_0 s0_1 s0_2 s0_3 a1 t109 t110 t111 t112 w0 _ ?side1 ?side2 A3.out).mono ?_); (case side1 => repeat (first | (with_reducible first | exact HI0.out | apply IsS112.alloc | apply IsS112.drewN | apply IsS112.drew | apply IsS112.set_1 | apply IsS112.set_2 | apply IsS112.set_3) | exact HI0.out)); (case side2 => repeat (first | (with_reducible first | exact HB.out | apply below_alloc | apply pw_below_drewN | apply below_drew1 | refine below_set ?_ (IsS112.ge HI0.out)) | exact HB.out)); rintro e w4 ⟨rfl, hi, hb, hk⟩; refine ⟨_, rfl, ?_⟩; have n0_ := Aside0.mk (KeepBut.trans (by repeat (first | (with_reducible first | exact HK.out | apply KeepBut.set_ | apply keep_drewN | apply keep_drew | apply keep_alloc) | exact HK.out)) hk (.inl rfl)); have n1_ := Aside0.mk (hb); have n2_ := Aside0.mk (hi); clear HK; clear HB; clear HI0; have HK := n0_; have HB := n1_; have HI0 := n2_; clear n0_ n1_ n2_; (try clear hb); (try clear hb2); (try clear hk); (try clear hi)))
 go_ret
 exact ⟨EZa, by repeat (first | (with_reducible first | exact HI0.out | apply IsS112.alloc | apply IsS112.drewN | apply IsS112.drew | apply IsS112.set_1 | apply IsS112.set_2 | apply IsS112.set_3) | exact HI0.out), by repeat (first | (with_reducible first | exact HB.out | apply below_alloc | apply pw_below_drewN | apply below_drew1 | refine below_set ?_ (IsS112.ge HI0.out)) | exact HB.out), by repeat (first | (with_reducible first | exact HK.out | apply KeepBut.set_ | apply keep_drewN | apply keep_drew | apply keep_alloc) | exact HK.out)⟩
end Go.Proofs.YtmkeigielncpjaaGreatDoor.PFnFilter
