-- Laid by this session's own program out of the translation; Lean checks it.
import Derived.Test.YtmkeigielncpjaaGreatDoorQFnFilterx0
import Derived.Test.YtmkeigielncpjaaGreatDoorQFnFilterx8
import Derived.Test.YtmkeigielncpjaaGreatDoorQFnFilterx16
namespace Go.Proofs.YtmkeigielncpjaaGreatDoor.PFnFilter
open Go.RowKit Go.Proofs.YtmkeigielncpjaaGreatDoorW.PrintWords Go.Proofs.YtmkeigielncpjaaGreatDoorW.PrintLast Go.Proofs.YtmkeigielncpjaaGreatDoorW.PrintMore
attribute [local go_sem] max2_int min2_int max_two min_two max_three min_three max_four min_four   -- for this text's walks alone
set_option linter.unusedVariables false
set_option linter.unusedSimpArgs false
structure Qr.FX where
 A : Option Addr
 c : Nat
 length : Nat
def Qr.IsX (w0 W : World) (g : Nat) (f0 : ByteArray) (f1 : Int) (f2 : Qr.FX) (f3 : Bool) : Prop := ∃ A2 c2, W.heap[g]? = some (.cells #[.string f0, .int .i64 f1, .slice A2 f2.length c2, .bool f3] 101 (0, 0)) ∧ w0.heap.size ≤ g ∧ (A2 = f2.A ∧ c2 = f2.c)
theorem Qr.IsX.grown {w0 W : World} {g : Nat} {f0 : ByteArray} {f1 : Int} {f2 : Qr.FX} {f3 : Bool} {W1 : World} {row : Option Nat} (h : Qr.IsX w0 W g f0 f1 f2 f3) (hw : W.grownBy W1 row) (hne : some g ≠ row) : Qr.IsX w0 W1 g f0 f1 f2 f3 := by
 obtain ⟨A2, c2, hb, hg, hr2⟩ := h
 exact ⟨A2, c2, blk_grown hb hw hne, hg, hr2⟩
theorem Qr.IsX.own_neN {w0 W : World} {g : Nat} {f0 : ByteArray} {f1 : Int} {f2 : Qr.FX} {f3 : Bool} {α : Type} {d : Kd α} {e : Nat} {base : Nat} {ok : Nat → Prop} {v : Value} {xs : List α} (h : Qr.IsX w0 W g f0 f1 f2 f3) (ho : Kd.N d e W base ok v xs) (ht : e ≠ 101) : some g ≠ v.ownBlock := by
 obtain ⟨A2, c2, hb, hg, hr2⟩ := h
 exact Kd.N_ne ho hb ht
theorem Qr.IsX.fresh {w0 W : World} {g : Nat} {f0 : ByteArray} {f1 : Int} {f2 : Qr.FX} {f3 : Bool} (h : Qr.IsX w0 W g f0 f1 f2 f3) : ∀ k, W.heap.size ≤ k → k ≠ g := by
 obtain ⟨A2, c2, hb, hg, hr2⟩ := h
 exact Kd.freshB hb
theorem Qr.IsX.kept {w0 W : World} {g : Nat} {f0 : ByteArray} {f1 : Int} {f2 : Qr.FX} {f3 : Bool} {W1 : World} {S : Nat → Prop} (h : Qr.IsX w0 W g f0 f1 f2 f3) (hk : Kept W W1 S) (hne : ¬ S g) : Qr.IsX w0 W1 g f0 f1 f2 f3 := by
 obtain ⟨A2, c2, hb, hg, hr2⟩ := h
 exact ⟨A2, c2, blk_kept hb hk hne, hg, hr2⟩
theorem Qr.IsX.below {w0 W : World} {g : Nat} {f0 : ByteArray} {f1 : Int} {f2 : Qr.FX} {f3 : Bool} {W1 : World} (h : Qr.IsX w0 W g f0 f1 f2 f3) (hw : Below W.heap.size W W1) : Qr.IsX w0 W1 g f0 f1 f2 f3 := h.grown (grown_of_below hw none) (by simp)
theorem Qr.IsX.alloc {w0 W : World} {g : Nat} {f0 : ByteArray} {f1 : Int} {f2 : Qr.FX} {f3 : Bool} (h : Qr.IsX w0 W g f0 f1 f2 f3) (o : Obj) : Qr.IsX w0 (W.alloc o) g f0 f1 f2 f3 := h.below (below_alloc (Below.refl _ _) o)
theorem Qr.IsX.drewN {w0 W : World} {g : Nat} {f0 : ByteArray} {f1 : Int} {f2 : Qr.FX} {f3 : Bool} (h : Qr.IsX w0 W g f0 f1 f2 f3) (m : Nat) : Qr.IsX w0 (W.drewN m) g f0 f1 f2 f3 := h
theorem Qr.IsX.drew {w0 W : World} {g : Nat} {f0 : ByteArray} {f1 : Int} {f2 : Qr.FX} {f3 : Bool} (h : Qr.IsX w0 W g f0 f1 f2 f3) : Qr.IsX w0 W.drew g f0 f1 f2 f3 := h
theorem Qr.IsX.at_ {w0 W : World} {g : Nat} {f0 : ByteArray} {f1 : Int} {f2 : Qr.FX} {f3 : Bool} {w' : World} {m : Nat} (hq : W.drewN m = w') (h : Qr.IsX w0 W g f0 f1 f2 f3) : Qr.IsX w0 w' g f0 f1 f2 f3 := by subst hq; exact Qr.IsX.drewN h m
theorem Qr.IsX.apart {w0 W : World} {g : Nat} {f0 : ByteArray} {f1 : Int} {f2 : Qr.FX} {f3 : Bool} {α : Type} {d : Kd α} {e : Nat} {base : Nat} {ok : Nat → Prop} {v : Value} {xs : List α} (h : Qr.IsX w0 W g f0 f1 f2 f3) (ho : d.R e W base ok v xs) (ht : ∀ q, q ∈ e :: d.E → q ≠ 101) : d.R e W base (fun k => ok k ∧ k ≠ g) v xs := by
 obtain ⟨A2, c2, hb, hg, hr2⟩ := h
 exact Kd.R_types ho hb ht
theorem Qr.IsX.own_ne {w0 W : World} {g : Nat} {f0 : ByteArray} {f1 : Int} {f2 : Qr.FX} {f3 : Bool} {α : Type} {d : Kd α} {e : Nat} {base : Nat} {ok : Nat → Prop} {v : Value} {xs : List α} (h : Qr.IsX w0 W g f0 f1 f2 f3) (ho : d.R e W base ok v xs) (ht : e ≠ 101) : some g ≠ v.ownBlock := by
 obtain ⟨A2, c2, hb, hg, hr2⟩ := h
 exact Kd.R_ne ho hb ht
theorem Qr.IsX.apartQ {w0 W : World} {g : Nat} {f0 : ByteArray} {f1 : Int} {f2 : Qr.FX} {f3 : Bool} {α : Type} {d : Kd α} {e : Nat} {base : Nat} {ok : Nat → Prop} {v : Value} {xs : List α} (h : Qr.IsX w0 W g f0 f1 f2 f3) (ho : d.Q e W base ok v xs) (ht : ∀ q, q ∈ e :: d.E → q ≠ 101) : d.Q e W base (fun k => ok k ∧ k ≠ g) v xs := by
 obtain ⟨A2, c2, hb, hg, hr2⟩ := h
 exact Kd.Q_types ho hb ht
theorem Qr.IsX.own_neQ {w0 W : World} {g : Nat} {f0 : ByteArray} {f1 : Int} {f2 : Qr.FX} {f3 : Bool} {α : Type} {d : Kd α} {e : Nat} {base : Nat} {ok : Nat → Prop} {v : Value} {xs : List α} (h : Qr.IsX w0 W g f0 f1 f2 f3) (ho : d.Q e W base ok v xs) (ht : e ≠ 101) : some g ≠ v.ownBlock := by
 obtain ⟨A2, c2, hb, hg, hr2⟩ := h
 exact Kd.Q_ne ho hb ht
theorem Qr.IsX.apartS {w0 W : World} {g : Nat} {f0 : ByteArray} {f1 : Int} {f2 : Qr.FX} {f3 : Bool} {α : Type} {d : Kd α} {e : Nat} {base : Nat} {ok : Nat → Prop} {v : Value} {xs : List α} (h : Qr.IsX w0 W g f0 f1 f2 f3) (ho : d.S e W base ok v xs) (ht : ∀ q, q ∈ e :: d.E → q ≠ 101) : d.S e W base (fun k => ok k ∧ k ≠ g) v xs := by
 obtain ⟨A2, c2, hb, hg, hr2⟩ := h
 exact Kd.S_types ho hb ht
theorem Qr.IsX.own_neS {w0 W : World} {g : Nat} {f0 : ByteArray} {f1 : Int} {f2 : Qr.FX} {f3 : Bool} {α : Type} {d : Kd α} {e : Nat} {base : Nat} {ok : Nat → Prop} {v : Value} {xs : List α} (h : Qr.IsX w0 W g f0 f1 f2 f3) (ho : d.S e W base ok v xs) (ht : e ≠ 101) : some g ≠ v.ownBlock := by
 obtain ⟨A2, c2, hb, hg, hr2⟩ := h
 exact Kd.S_ne ho hb ht
theorem Qr.IsX.lt {w0 W : World} {g : Nat} {f0 : ByteArray} {f1 : Int} {f2 : Qr.FX} {f3 : Bool} (h : Qr.IsX w0 W g f0 f1 f2 f3) : g < W.heap.size := by
 obtain ⟨A2, c2, hb, hg, hr2⟩ := h
 exact blk_lt hb
theorem Qr.IsX.ge {w0 W : World} {g : Nat} {f0 : ByteArray} {f1 : Int} {f2 : Qr.FX} {f3 : Bool} (h : Qr.IsX w0 W g f0 f1 f2 f3) : w0.heap.size ≤ g := by
 obtain ⟨A2, c2, hb, hg, hr2⟩ := h
 exact hg
theorem Qr.IsX.ne_blk {w0 W : World} {g : Nat} {f0 : ByteArray} {f1 : Int} {f2 : Qr.FX} {f3 : Bool} {a : Nat} {cs : Array Value} {t : TypeId} {fr : Nat × Nat} (h : Qr.IsX w0 W g f0 f1 f2 f3) (hb2 : W.heap[a]? = some (.cells cs t fr)) (ht : t ≠ 101) : g ≠ a := by
 obtain ⟨A2, c2, hb, hg, hr2⟩ := h
 rintro rfl
 rw [hb] at hb2
 injection hb2 with hb2
 injection hb2 with _ ht2
 exact ht ht2.symm
theorem Qr.IsX.far {w0 W : World} {g : Nat} {f0 : ByteArray} {f1 : Int} {f2 : Qr.FX} {f3 : Bool} {p : Addr} (h : Qr.IsX w0 W g f0 f1 f2 f3) (hne : g ≠ p.block) (u : Value) : Qr.IsX w0 (W.setCell p u) g f0 f1 f2 f3 := by
 obtain ⟨A2, c2, hb, hg, hr2⟩ := h
 exact ⟨A2, c2, blk_far hb hne u, hg, hr2⟩
theorem Qr.cellX_0 {W : World} {g : Nat} {A2 : Option Addr} {c2 : Nat} {f0 : ByteArray} {f1 : Int} {f2 : Qr.FX} {f3 : Bool} (h : W.heap[g]? = some (.cells #[.string f0, .int .i64 f1, .slice A2 f2.length c2, .bool f3] 101 (0, 0))) : W.cell? ⟨g, 0, none⟩ = some (.string f0) := (blk_cell h 0).trans rfl
theorem Qr.IsX.set_0 {w0 W : World} {g : Nat} {f0 : ByteArray} {f1 : Int} {f2 : Qr.FX} {f3 : Bool} (h : Qr.IsX w0 W g f0 f1 f2 f3) (x : ByteArray) : Qr.IsX w0 (W.setCell ⟨g, 0, none⟩ (.string x)) g x f1 f2 f3 := by
 obtain ⟨A2, c2, hb, hg, hr2⟩ := h
 exact ⟨A2, c2, by simpa using blk_set hb 0 (.string x), hg, hr2⟩
theorem Qr.cellX_1 {W : World} {g : Nat} {A2 : Option Addr} {c2 : Nat} {f0 : ByteArray} {f1 : Int} {f2 : Qr.FX} {f3 : Bool} (h : W.heap[g]? = some (.cells #[.string f0, .int .i64 f1, .slice A2 f2.length c2, .bool f3] 101 (0, 0))) : W.cell? ⟨g, 1, none⟩ = some (.int .i64 f1) := (blk_cell h 1).trans rfl
theorem Qr.IsX.set_1 {w0 W : World} {g : Nat} {f0 : ByteArray} {f1 : Int} {f2 : Qr.FX} {f3 : Bool} (h : Qr.IsX w0 W g f0 f1 f2 f3) (x : Int) : Qr.IsX w0 (W.setCell ⟨g, 1, none⟩ (.int .i64 x)) g f0 x f2 f3 := by
 obtain ⟨A2, c2, hb, hg, hr2⟩ := h
 exact ⟨A2, c2, by simpa using blk_set hb 1 (.int .i64 x), hg, hr2⟩
theorem Qr.cellX_2 {W : World} {g : Nat} {A2 : Option Addr} {c2 : Nat} {f0 : ByteArray} {f1 : Int} {f2 : Qr.FX} {f3 : Bool} (h : W.heap[g]? = some (.cells #[.string f0, .int .i64 f1, .slice A2 f2.length c2, .bool f3] 101 (0, 0))) : W.cell? ⟨g, 2, none⟩ = some (.slice A2 f2.length c2) := (blk_cell h 2).trans rfl
theorem Qr.cellX_3 {W : World} {g : Nat} {A2 : Option Addr} {c2 : Nat} {f0 : ByteArray} {f1 : Int} {f2 : Qr.FX} {f3 : Bool} (h : W.heap[g]? = some (.cells #[.string f0, .int .i64 f1, .slice A2 f2.length c2, .bool f3] 101 (0, 0))) : W.cell? ⟨g, 3, none⟩ = some (.bool f3) := (blk_cell h 3).trans rfl
theorem Qr.IsX.set_3 {w0 W : World} {g : Nat} {f0 : ByteArray} {f1 : Int} {f2 : Qr.FX} {f3 : Bool} (h : Qr.IsX w0 W g f0 f1 f2 f3) (x : Bool) : Qr.IsX w0 (W.setCell ⟨g, 3, none⟩ (.bool x)) g f0 f1 f2 x := by
 obtain ⟨A2, c2, hb, hg, hr2⟩ := h
 exact ⟨A2, c2, by simpa using blk_set hb 3 (.bool x), hg, hr2⟩
theorem Qr.IsX.new (w0 W : World) (A2 : Option Addr) (c2 : Nat) (f0 : ByteArray) (f1 : Int) (f2 : Qr.FX) (f3 : Bool) (hB : Below w0.heap.size w0 W) (hr2 : (A2 = f2.A ∧ c2 = f2.c)) : Qr.IsX w0 (W.alloc (.cells #[.string f0, .int .i64 f1, .slice A2 f2.length c2, .bool f3] 101)) W.heap.size f0 f1 f2 f3 := ⟨A2, c2, by simpa using heap_alloc_new W _, hB.size, hr2⟩
def Qr.next.f (s0_0 : ByteArray) (s0_1 : Int) (s0_2 : Qr.FX) (s0_3 : Bool) : Option (Int × ByteArray × Int × Bool) := if s0_1 ≥ (s0_0.size : Int) then (some (0, s0_0, s0_1, true)) else (if 0 ≤ s0_1 then (if s0_1 < (s0_0.size : Int) then (some (bt s0_0 s0_1, s0_0, s0_1, s0_3)) else (none)) else (none))
set_option maxHeartbeats 8000000 in
set_option maxRecDepth 100000 in
theorem Qr.next.calls (g : Nat) (s0_0 : ByteArray) (s0_1 : Int) (s0_2 : Qr.FX) (s0_3 : Bool) (r1 : Int) (r2 : ByteArray) (r3 : Int) (r4 : Bool) (w0 w : World) (hI : Qr.IsX w0 w g s0_0 s0_1 s0_2 s0_3) (hB : Below w0.heap.size w0 w) (h : Qr.next.f s0_0 s0_1 s0_2 s0_3 = some (r1, r2, r3, r4)) :
  Calls Tryz.prog 113 #[.pointer (some ⟨g, 0, none⟩)] w fun e w' => e = .returned (.int .u8 r1) ∧ Qr.IsX w0 w' g r2 r3 s0_2 r4 ∧ Below w0.heap.size w0 w' ∧ KeepBut w w' g none := by
 have HI0 := Aside0.mk hI
 have HK := Aside0.mk (KeepBut.refl w g none)
 have HL := Aside0.mk hB.size
 clear hI
 have HW0 := Aside0.mk hB.size
 have HB := Aside0.mk hB
 clear hB
 have H : (if s0_1 ≥ (s0_0.size : Int) then (some (0, s0_0, s0_1, true)) else (if 0 ≤ s0_1 then (if s0_1 < (s0_0.size : Int) then (some (bt s0_0 s0_1, s0_0, s0_1, s0_3)) else (none)) else (none))) = some (r1, r2, r3, r4) := h
 clear h
 by_cases c2 : s0_1 ≥ (s0_0.size : Int)
 ·rw [if_pos c2] at H
  have c2b0 : decide ((s0_0.size : Int) ≤ s0_1) = true := decide_eq_true c2
  clear c2
  obtain ⟨rfl, rfl, rfl, rfl⟩ := SQz H
  obtain ⟨ASz3_2, cSz3_2, HGz3, hgz3, HSz3_2⟩ := HI0.out
  have hcz3_0 := Qr.cellX_0 HGz3
  have hcz3_1 := Qr.cellX_1 HGz3
  have hcz3_2 := Qr.cellX_2 HGz3
  have hcz3_3 := Qr.cellX_3 HGz3
  have hfz3_0 := blk_frozen HGz3 0
  have hfz3_1 := blk_frozen HGz3 1
  have hfz3_3 := blk_frozen HGz3 3
  clear HGz3 hgz3
  go_enter Tryz.func113, Tryz.ntmps113
  go_wp2
  repeat (go_quiet (fail); try go_wp2)
  go_ret
  exact ⟨EZa, by repeat (first | (with_reducible first | exact HI0.out | apply Qr.IsX.alloc | apply Qr.IsX.drewN | apply Qr.IsX.drew | apply Qr.IsX.set_0 | apply Qr.IsX.set_1 | apply Qr.IsX.set_3) | exact HI0.out), by repeat (first | (with_reducible first | exact HB.out | apply below_alloc | apply pw_below_drewN | apply below_drew1 | refine below_set ?_ (Qr.IsX.ge HI0.out)) | exact HB.out), by repeat (first | (with_reducible first | exact HK.out | apply KeepBut.set_ | apply keep_drewN | apply keep_drew | apply keep_alloc) | exact HK.out)⟩
 rw [if_neg c2] at H
 have c2b0 : decide ((s0_0.size : Int) ≤ s0_1) = false := decide_eq_false c2
 clear c2
 by_cases c4 : 0 ≤ s0_1
 rotate_left
 ·rw [if_neg c4] at H
  exact absurd H (by simp)
 rw [if_pos c4] at H
 have c4b0 := decide_eq_true c4
 clear c4
 by_cases c5 : s0_1 < (s0_0.size : Int)
 rotate_left
 ·rw [if_neg c5] at H
  exact absurd H (by simp)
 rw [if_pos c5] at H
 have c5b0 := decide_eq_true c5
 clear c5
 obtain ⟨rfl, rfl, rfl, rfl⟩ := SQz H
 obtain ⟨ASz7_2, cSz7_2, HGz7, hgz7, HSz7_2⟩ := HI0.out
 have hcz7_0 := Qr.cellX_0 HGz7
 have hcz7_1 := Qr.cellX_1 HGz7
 have hcz7_2 := Qr.cellX_2 HGz7
 have hcz7_3 := Qr.cellX_3 HGz7
 have hfz7_0 := blk_frozen HGz7 0
 have hfz7_1 := blk_frozen HGz7 1
 have hfz7_3 := blk_frozen HGz7 3
 clear HGz7 hgz7
 have p6 : 0 ≤ (s0_1 : Int) := ODz
 have q6 : s0_1 < (s0_0.size : Int) := ODz
 have hx6 := bt_at s0_0 s0_1
 replace p6 := eq_true p6
 replace q6 := eq_true q6
 go_enter Tryz.func113, Tryz.ntmps113
 go_wp2
 repeat (go_quiet (fail); try go_wp2)
 go_ret
 exact ⟨EZa, by repeat (first | (with_reducible first | exact HI0.out | apply Qr.IsX.alloc | apply Qr.IsX.drewN | apply Qr.IsX.drew | apply Qr.IsX.set_0 | apply Qr.IsX.set_1 | apply Qr.IsX.set_3) | exact HI0.out), by repeat (first | (with_reducible first | exact HB.out | apply below_alloc | apply pw_below_drewN | apply below_drew1 | refine below_set ?_ (Qr.IsX.ge HI0.out)) | exact HB.out), by repeat (first | (with_reducible first | exact HK.out | apply KeepBut.set_ | apply keep_drewN | apply keep_drew | apply keep_alloc) | exact HK.out)⟩
mutual
def Qr.till.l0 : Nat → ByteArray → Int → ByteArray → Int → Qr.FX → Bool → Option (ByteArray × ByteArray × Int × Bool)
 | 0, _, _, _, _, _, _ => none
 | k + 1, x1, x5, x1000, x1001, x1002, x1003 => if x1001 < (x1000.size : Int) then (Qr.till.l1 k x1 x5 0 x1000 x1001 x1002 x1003) else (if 0 ≤ x5 then (if x5 ≤ (x1000.size : Int) then (some (x1000.extract (x5 : Int).toNat x1000.size, x1000, x1001, x1003)) else (none)) else (none))
def Qr.till.l1 : Nat → ByteArray → Int → Int → ByteArray → Int → Qr.FX → Bool → Option (ByteArray × ByteArray × Int × Bool)
 | 0, _, _, _, _, _, _, _ => none
 | k + 1, x1, x5, x6, x1000, x1001, x1002, x1003 => if x6 < (x1.size : Int) then (if 0 ≤ x6 then (if 0 ≤ x1001 then (if x1001 < (x1000.size : Int) then (if (bt x1 x6) = (bt x1000 x1001) then (if 0 ≤ x5 then (if x5 ≤ x1001 then (if x1001 ≤ (x1000.size : Int) then (some (x1000.extract (x5 : Int).toNat (x1001 : Int).toNat, x1000, x1001, x1003)) else (none)) else (none)) else (none)) else (Qr.till.l1 k x1 x5 (wrap64 (x6 + 1)) x1000 x1001 x1002 x1003)) else (none)) else (none)) else (none)) else (Qr.till.l0 k x1 x5 x1000 (wrap64 (x1001 + 1)) x1002 x1003)
end
def Qr.till.f (k : Nat) (s0_0 : ByteArray) (s0_1 : Int) (s0_2 : Qr.FX) (s0_3 : Bool) (a1 : ByteArray) : Option (ByteArray × ByteArray × Int × Bool) := if s0_1 > (s0_0.size : Int) then (some ((⟨#[]⟩ : ByteArray), s0_0, s0_1, true)) else (Qr.till.l0 k a1 s0_1 s0_0 s0_1 s0_2 s0_3)
theorem Qr.till.mono_l : ∀ k, (∀ y0 y1 y2 y3 y4 y5, LeO (Qr.till.l0 k y0 y1 y2 y3 y4 y5) (Qr.till.l0 (k + 1) y0 y1 y2 y3 y4 y5)) ∧ (∀ y0 y1 y2 y3 y4 y5 y6, LeO (Qr.till.l1 k y0 y1 y2 y3 y4 y5 y6) (Qr.till.l1 (k + 1) y0 y1 y2 y3 y4 y5 y6))
 | 0 => ⟨fun _ _ _ _ _ _ r h => by simp [Qr.till.l0] at h, fun _ _ _ _ _ _ _ r h => by simp [Qr.till.l1] at h⟩
 | k + 1 => by
  obtain ⟨ih0, ih1⟩ := Qr.till.mono_l k
  refine ⟨?_, ?_⟩
  ·intro y0 y1 y2 y3 y4 y5
   unfold Qr.till.l0
   with_reducible repeat' first | exact ih0 _ _ _ _ _ _ | exact ih1 _ _ _ _ _ _ _ | exact LeO.refl _ | exact LeO.none _ | refine LeO.ite ?_ ?_ | refine LeO.bind ?_ (fun _ => ?_)
  ·intro y0 y1 y2 y3 y4 y5 y6
   unfold Qr.till.l1
   with_reducible repeat' first | exact ih0 _ _ _ _ _ _ | exact ih1 _ _ _ _ _ _ _ | exact LeO.refl _ | exact LeO.none _ | refine LeO.ite ?_ ?_ | refine LeO.bind ?_ (fun _ => ?_)
theorem Qr.till.mono : ∀ a0 a1 a2 a3 a4 k, LeO (Qr.till.f k a0 a1 a2 a3 a4) (Qr.till.f (k + 1) a0 a1 a2 a3 a4) := by
 intro a0 a1 a2 a3 a4 k
 obtain ⟨ih0, ih1⟩ := Qr.till.mono_l k
 unfold Qr.till.f
 with_reducible repeat' first | exact ih0 _ _ _ _ _ _ | exact ih1 _ _ _ _ _ _ _ | exact LeO.refl _ | exact LeO.none _ | refine LeO.ite ?_ ?_ | refine LeO.bind ?_ (fun _ => ?_)
set_option maxHeartbeats 8000000 in
set_option maxRecDepth 100000 in
theorem Qr.till.calls (k : Nat) (g : Nat) (s0_0 : ByteArray) (s0_1 : Int) (s0_2 : Qr.FX) (s0_3 : Bool) (a1 : ByteArray) (r1 : ByteArray) (r2 : ByteArray) (r3 : Int) (r4 : Bool) (w0 w : World) (hI : Qr.IsX w0 w g s0_0 s0_1 s0_2 s0_3) (hB : Below w0.heap.size w0 w) (h : Qr.till.f k s0_0 s0_1 s0_2 s0_3 a1 = some (r1, r2, r3, r4)) :
  Calls Tryz.prog 150 #[.pointer (some ⟨g, 0, none⟩), .string a1] w fun e w' => e = .returned (.string r1) ∧ Qr.IsX w0 w' g r2 r3 s0_2 r4 ∧ Below w0.heap.size w0 w' ∧ KeepBut w w' g none := by
 have HI0 := Aside0.mk hI
 have HK := Aside0.mk (KeepBut.refl w g none)
 have HL := Aside0.mk hB.size
 clear hI
 have HW0 := Aside0.mk hB.size
 have HB := Aside0.mk hB
 clear hB
 have H : (if s0_1 > (s0_0.size : Int) then (some ((⟨#[]⟩ : ByteArray), s0_0, s0_1, true)) else (Qr.till.l0 k a1 s0_1 s0_0 s0_1 s0_2 s0_3)) = some (r1, r2, r3, r4) := h
 clear h
 by_cases c3 : s0_1 > (s0_0.size : Int)
 ·rw [if_pos c3] at H
  have c3b0 : decide ((s0_0.size : Int) < s0_1) = true := decide_eq_true c3
  clear c3
  obtain ⟨rfl, rfl, rfl, rfl⟩ := SQz H
  obtain ⟨ASz4_2, cSz4_2, HGz4, hgz4, HSz4_2⟩ := HI0.out
  have hcz4_0 := Qr.cellX_0 HGz4
  have hcz4_1 := Qr.cellX_1 HGz4
  have hcz4_2 := Qr.cellX_2 HGz4
  have hcz4_3 := Qr.cellX_3 HGz4
  have hfz4_0 := blk_frozen HGz4 0
  have hfz4_1 := blk_frozen HGz4 1
  have hfz4_3 := blk_frozen HGz4 3
  clear HGz4 hgz4
  go_enter Tryz.func150, Tryz.ntmps150
  go_wp2
  repeat (go_quiet (fail); try go_wp2)
  go_ret
  exact ⟨EZa, by repeat (first | (with_reducible first | exact HI0.out | apply Qr.IsX.alloc | apply Qr.IsX.drewN | apply Qr.IsX.drew | apply Qr.IsX.set_0 | apply Qr.IsX.set_1 | apply Qr.IsX.set_3) | exact HI0.out), by repeat (first | (with_reducible first | exact HB.out | apply below_alloc | apply pw_below_drewN | apply below_drew1 | refine below_set ?_ (Qr.IsX.ge HI0.out)) | exact HB.out), by repeat (first | (with_reducible first | exact HK.out | apply KeepBut.set_ | apply keep_drewN | apply keep_drew | apply keep_alloc) | exact HK.out)⟩
 rw [if_neg c3] at H
 have c3b0 : decide ((s0_0.size : Int) < s0_1) = false := decide_eq_false c3
 clear c3
 have H' := Aside0.mk H
 clear H
 obtain ⟨ASz5_2, cSz5_2, HGz5, hgz5, HSz5_2⟩ := HI0.out
 have hcz5_0 := Qr.cellX_0 HGz5
 have hcz5_1 := Qr.cellX_1 HGz5
 have hcz5_2 := Qr.cellX_2 HGz5
 have hcz5_3 := Qr.cellX_3 HGz5
 have hfz5_0 := blk_frozen HGz5 0
 have hfz5_1 := blk_frozen HGz5 1
 have hfz5_3 := blk_frozen HGz5 3
 clear HGz5 hgz5
 go_enter Tryz.func150, Tryz.ntmps150
 go_wp2
 repeat (go_quiet (fail); try go_wp2)
 go_loopg [] k (fun kq w' => ∃ (x1001_1 : Int), Aside0 (Qr.till.l0 kq a1 s0_1 s0_0 x1001_1 s0_2 s0_3 = some (r1, r2, r3, r4)) ∧ Aside0 (kq ≤ k) ∧ Aside0 (Qr.IsX w0 w' g s0_0 x1001_1 s0_2 s0_3) ∧ Aside0 (KeepBut w w' g none) ∧ Aside0 (Below w0.heap.size w0 w'))
 case atStart => exact ⟨(s0_1), H', ⟨Nat.le_refl _⟩, ⟨by repeat (first | (with_reducible first | exact HI0.out | apply Qr.IsX.alloc | apply Qr.IsX.drewN | apply Qr.IsX.drew | apply Qr.IsX.set_0 | apply Qr.IsX.set_1 | apply Qr.IsX.set_3) | exact HI0.out)⟩, ⟨by repeat (first | (with_reducible first | exact HK.out | apply KeepBut.set_ | apply keep_drewN | apply keep_drew | apply keep_alloc) | exact HK.out)⟩, ⟨by repeat (first | (with_reducible first | exact HB.out | apply below_alloc | apply pw_below_drewN | apply below_drew1 | refine below_set ?_ (Qr.IsX.ge HI0.out)) | exact HB.out)⟩⟩
 case round =>
  clear H'
  try clear c3
  try clear c3b0
  try clear hcz5_0
  try clear hcz5_1
  try clear hcz5_2
  try clear hcz5_3
  try clear hfz5_0
  try clear hfz5_1
  try clear hfz5_3
  obtain ⟨x1001_1, HA, HK1, HI0, HK, HB⟩ := hrel
  cases gk with
  | zero => exact absurd HA.out (by simp [Qr.till.l0])
  | succ k1 =>
   have H := HA.out
   clear HA
   simp only [Qr.till.l0] at H
   by_cases c6 : x1001_1 < (s0_0.size : Int)
   rotate_left
   ·rw [if_neg c6] at H
    have c6b0 := decide_eq_false c6
    clear c6
    by_cases c21 : 0 ≤ s0_1
    rotate_left
    ·rw [if_neg c21] at H
     exact absurd H (by simp)
    rw [if_pos c21] at H
    have c21b0 := eq_true c21
    have c21b1 := decide_eq_true c21
    clear c21
    by_cases c22 : s0_1 ≤ (s0_0.size : Int)
    ·rw [if_pos c22] at H
     have c22b0 := eq_true c22
     have c22b1 := decide_eq_true c22
     clear c22
     obtain ⟨rfl, rfl, rfl, rfl⟩ := SQz H
     obtain ⟨ASz23_2, cSz23_2, HGz23, hgz23, HSz23_2⟩ := HI0.out
     have hcz23_0 := Qr.cellX_0 HGz23
     have hcz23_1 := Qr.cellX_1 HGz23
     have hcz23_2 := Qr.cellX_2 HGz23
     have hcz23_3 := Qr.cellX_3 HGz23
     have hfz23_0 := blk_frozen HGz23 0
     have hfz23_1 := blk_frozen HGz23 1
     have hfz23_3 := blk_frozen HGz23 3
     clear HGz23 hgz23
     go_wp2
     repeat (go_quiet (fail); try go_wp2)
     go_ret
     exact ⟨EZa, by repeat (first | (with_reducible first | exact HI0.out | apply Qr.IsX.alloc | apply Qr.IsX.drewN | apply Qr.IsX.drew | apply Qr.IsX.set_0 | apply Qr.IsX.set_1 | apply Qr.IsX.set_3) | exact HI0.out), by repeat (first | (with_reducible first | exact HB.out | apply below_alloc | apply pw_below_drewN | apply below_drew1 | refine below_set ?_ (Qr.IsX.ge HI0.out)) | exact HB.out), by repeat (first | (with_reducible first | exact HK.out | apply KeepBut.set_ | apply keep_drewN | apply keep_drew | apply keep_alloc) | exact HK.out)⟩
    rw [if_neg c22] at H
    exact absurd H (by simp)
   rw [if_pos c6] at H
   have c6b0 := decide_eq_true c6
   clear c6
   have H' := Aside0.mk H
   clear H
   obtain ⟨ASz7_2, cSz7_2, HGz7, hgz7, HSz7_2⟩ := HI0.out
   have hcz7_0 := Qr.cellX_0 HGz7
   have hcz7_1 := Qr.cellX_1 HGz7
   have hcz7_2 := Qr.cellX_2 HGz7
   have hcz7_3 := Qr.cellX_3 HGz7
   have hfz7_0 := blk_frozen HGz7 0
   have hfz7_1 := blk_frozen HGz7 1
   have hfz7_3 := blk_frozen HGz7 3
   clear HGz7 hgz7
   go_wp2
   repeat (go_quiet (fail); try go_wp2)
   go_loopg [6] k1 (fun kq v6 w' => ∃ (x6_2 : Int), v6 = .int .i64 x6_2 ∧ Aside0 (Qr.till.l1 kq a1 s0_1 x6_2 s0_0 x1001_1 s0_2 s0_3 = some (r1, r2, r3, r4)) ∧ Aside0 (kq ≤ k1) ∧ Aside0 (Qr.IsX w0 w' g s0_0 x1001_1 s0_2 s0_3) ∧ Aside0 (KeepBut w w' g none) ∧ Aside0 (Below w0.heap.size w0 w'))
   case atStart => exact ⟨(0), EZc, H', ⟨Nat.le_refl _⟩, ⟨by repeat (first | (with_reducible first | exact HI0.out | apply Qr.IsX.alloc | apply Qr.IsX.drewN | apply Qr.IsX.drew | apply Qr.IsX.set_0 | apply Qr.IsX.set_1 | apply Qr.IsX.set_3) | exact HI0.out)⟩, ⟨by repeat (first | (with_reducible first | exact HK.out | apply KeepBut.set_ | apply keep_drewN | apply keep_drew | apply keep_alloc) | exact HK.out)⟩, ⟨by repeat (first | (with_reducible first | exact HB.out | apply below_alloc | apply pw_below_drewN | apply below_drew1 | refine below_set ?_ (Qr.IsX.ge HI0.out)) | exact HB.out)⟩⟩
   case round =>
    clear H'
    try clear c3
    try clear c3b0
    try clear c6
    try clear c6b0
    try clear hcz5_0
    try clear hcz5_1
    try clear hcz5_2
    try clear hcz5_3
    try clear hcz7_0
    try clear hcz7_1
    try clear hcz7_2
    try clear hcz7_3
    try clear hfz5_0
    try clear hfz5_1
    try clear hfz5_3
    try clear hfz7_0
    try clear hfz7_1
    try clear hfz7_3
    obtain ⟨x6_2, rfl, HA, HK2, HI0, HK, HB⟩ := hrel
    cases gk with
    | zero => exact absurd HA.out (by simp [Qr.till.l1])
    | succ k2 =>
     have H := HA.out
     clear HA
     simp only [Qr.till.l1] at H
     by_cases c8 : x6_2 < (a1.size : Int)
     rotate_left
     ·rw [if_neg c8] at H
      have c8b0 := decide_eq_false c8
      clear c8
      have H' := Aside0.mk H
      clear H
      obtain ⟨ASz20_2, cSz20_2, HGz20, hgz20, HSz20_2⟩ := HI0.out
      have hcz20_0 := Qr.cellX_0 HGz20
      have hcz20_1 := Qr.cellX_1 HGz20
      have hcz20_2 := Qr.cellX_2 HGz20
      have hcz20_3 := Qr.cellX_3 HGz20
      have hfz20_0 := blk_frozen HGz20 0
      have hfz20_1 := blk_frozen HGz20 1
      have hfz20_3 := blk_frozen HGz20 3
      clear HGz20 hgz20
      go_wp2
      repeat (go_quiet (fail); try go_wp2)
      go_roundg k2
      case measure => have := HK1.out; have := HK2.out; omega
      case rel => exact ⟨(wrap64 (x1001_1 + 1)), H', ⟨by have := HK1.out; have := HK2.out; omega⟩, ⟨by repeat (first | (with_reducible first | exact HI0.out | apply Qr.IsX.alloc | apply Qr.IsX.drewN | apply Qr.IsX.drew | apply Qr.IsX.set_0 | apply Qr.IsX.set_1 | apply Qr.IsX.set_3) | exact HI0.out)⟩, ⟨by repeat (first | (with_reducible first | exact HK.out | apply KeepBut.set_ | apply keep_drewN | apply keep_drew | apply keep_alloc) | exact HK.out)⟩, ⟨by repeat (first | (with_reducible first | exact HB.out | apply below_alloc | apply pw_below_drewN | apply below_drew1 | refine below_set ?_ (Qr.IsX.ge HI0.out)) | exact HB.out)⟩⟩
     rw [if_pos c8] at H
     have c8b0 := decide_eq_true c8
     clear c8
     by_cases c9 : 0 ≤ x6_2
     rotate_left
     ·rw [if_neg c9] at H
      exact absurd H (by simp)
     rw [if_pos c9] at H
     have c9b0 := decide_eq_true c9
     clear c9
     by_cases c11 : 0 ≤ x1001_1
     rotate_left
     ·rw [if_neg c11] at H
      exact absurd H (by simp)
     rw [if_pos c11] at H
     have c11b0 := decide_eq_true c11
     clear c11
     by_cases c12 : x1001_1 < (s0_0.size : Int)
     rotate_left
     ·rw [if_neg c12] at H
      exact absurd H (by simp)
     rw [if_pos c12] at H
     have c12b0 := decide_eq_true c12
     clear c12
     by_cases c14 : (bt a1 x6_2) = (bt s0_0 x1001_1)
     rotate_left
     ·rw [if_neg c14] at H
      obtain ⟨c14b0, c14b1⟩ := QFz c14
      have H' := Aside0.mk H
      clear H
      have p10 : 0 ≤ (x6_2 : Int) := ODz
      have q10 : x6_2 < (a1.size : Int) := ODz
      have hx10 := bt_at a1 x6_2
      replace p10 := eq_true p10
      replace q10 := eq_true q10
      obtain ⟨ASz19_2, cSz19_2, HGz19, hgz19, HSz19_2⟩ := HI0.out
      have hcz19_0 := Qr.cellX_0 HGz19
      have hcz19_1 := Qr.cellX_1 HGz19
      have hcz19_2 := Qr.cellX_2 HGz19
      have hcz19_3 := Qr.cellX_3 HGz19
      have hfz19_0 := blk_frozen HGz19 0
      have hfz19_1 := blk_frozen HGz19 1
      have hfz19_3 := blk_frozen HGz19 3
      clear HGz19 hgz19
      have p13 : 0 ≤ (x1001_1 : Int) := ODz
      have q13 : x1001_1 < (s0_0.size : Int) := ODz
      have hx13 := bt_at s0_0 x1001_1
      replace p13 := eq_true p13
      replace q13 := eq_true q13
      go_wp2
      repeat (go_quiet (fail); try go_wp2)
      go_roundg k2
      case measure => have := HK1.out; have := HK2.out; omega
      case rel => exact ⟨(wrap64 (x6_2 + 1)), EZc, H', ⟨by have := HK1.out; have := HK2.out; omega⟩, ⟨by repeat (first | (with_reducible first | exact HI0.out | apply Qr.IsX.alloc | apply Qr.IsX.drewN | apply Qr.IsX.drew | apply Qr.IsX.set_0 | apply Qr.IsX.set_1 | apply Qr.IsX.set_3) | exact HI0.out)⟩, ⟨by repeat (first | (with_reducible first | exact HK.out | apply KeepBut.set_ | apply keep_drewN | apply keep_drew | apply keep_alloc) | exact HK.out)⟩, ⟨by repeat (first | (with_reducible first | exact HB.out | apply below_alloc | apply pw_below_drewN | apply below_drew1 | refine below_set ?_ (Qr.IsX.ge HI0.out)) | exact HB.out)⟩⟩
     rw [if_pos c14] at H
     obtain ⟨c14b0, c14b1⟩ := QTz c14
     clear c14
     by_cases c15 : 0 ≤ s0_1
     rotate_left
     ·rw [if_neg c15] at H
      exact absurd H (by simp)
     rw [if_pos c15] at H
     have c15b0 := eq_true c15
     have c15b1 := decide_eq_true c15
     clear c15
     by_cases c16 : s0_1 ≤ x1001_1
     rotate_left
     ·rw [if_neg c16] at H
      exact absurd H (by simp)
     rw [if_pos c16] at H
     have c16b0 := eq_true c16
     have c16b1 := decide_eq_true c16
     clear c16
     by_cases c17 : x1001_1 ≤ (s0_0.size : Int)
     rotate_left
     ·rw [if_neg c17] at H
      exact absurd H (by simp)
     rw [if_pos c17] at H
     have c17b0 := eq_true c17
     have c17b1 := decide_eq_true c17
     clear c17
     obtain ⟨rfl, rfl, rfl, rfl⟩ := SQz H
     have p10 : 0 ≤ (x6_2 : Int) := ODz
     have q10 : x6_2 < (a1.size : Int) := ODz
     have hx10 := bt_at a1 x6_2
     replace p10 := eq_true p10
     replace q10 := eq_true q10
     obtain ⟨ASz18_2, cSz18_2, HGz18, hgz18, HSz18_2⟩ := HI0.out
     have hcz18_0 := Qr.cellX_0 HGz18
     have hcz18_1 := Qr.cellX_1 HGz18
     have hcz18_2 := Qr.cellX_2 HGz18
     have hcz18_3 := Qr.cellX_3 HGz18
     have hfz18_0 := blk_frozen HGz18 0
     have hfz18_1 := blk_frozen HGz18 1
     have hfz18_3 := blk_frozen HGz18 3
     clear HGz18 hgz18
     have p13 : 0 ≤ (x1001_1 : Int) := ODz
     have q13 : x1001_1 < (s0_0.size : Int) := ODz
     have hx13 := bt_at s0_0 x1001_1
     replace p13 := eq_true p13
     replace q13 := eq_true q13
     go_wp2
     repeat (go_quiet (fail); try go_wp2)
     go_ret
     exact ⟨EZa, by repeat (first | (with_reducible first | exact HI0.out | apply Qr.IsX.alloc | apply Qr.IsX.drewN | apply Qr.IsX.drew | apply Qr.IsX.set_0 | apply Qr.IsX.set_1 | apply Qr.IsX.set_3) | exact HI0.out), by repeat (first | (with_reducible first | exact HB.out | apply below_alloc | apply pw_below_drewN | apply below_drew1 | refine below_set ?_ (Qr.IsX.ge HI0.out)) | exact HB.out), by repeat (first | (with_reducible first | exact HK.out | apply KeepBut.set_ | apply keep_drewN | apply keep_drew | apply keep_alloc) | exact HK.out)⟩
mutual
def Qr.item.j0 : Nat → ByteArray → Int → Qr.FX → Bool → Int → ByteArray → ByteArray → Int → Option (Int × ByteArray × ByteArray × Int × ByteArray × Int × Bool)
 | 0, _, _, _, _, _, _, _, _ => none
 | k + 1, x1000, x1001, x1002, x1003, x184000, x184001, x184002, x184003 => (Qr.till.f k x1000 (wrap64 (x1001 + 1)) x1002 x1003 (⟨#[42, 41]⟩ : ByteArray)).bind fun bt188 => ((Qq.f k bt188.1).bind fun t192 => (if bt188.2.2.2 = true then (Qr.item.j1 k bt188.1 false bt188.2.1 bt188.2.2.1 x1002 bt188.2.2.2 x184000 x184001 t192 x184003) else ((Qr.next.f bt188.2.1 bt188.2.2.1 x1002 bt188.2.2.2).bind fun bt193 => (Qr.item.j1 k bt188.1 (bt193.1 == 42) bt193.2.1 bt193.2.2.1 x1002 bt193.2.2.2 x184000 x184001 t192 x184003))))
def Qr.item.j1 : Nat → ByteArray → Bool → ByteArray → Int → Qr.FX → Bool → Int → ByteArray → ByteArray → Int → Option (Int × ByteArray × ByteArray × Int × ByteArray × Int × Bool)
 | 0, _, _, _, _, _, _, _, _, _, _ => none
 | k + 1, x4, x54, x1000, x1001, x1002, x1003, x184000, x184001, x184002, x184003 => if x54 = true then (if x4.toList = ([] : List UInt8) then (some (5, x184001, x184002, x184003, x1000, wrap64 (x1001 + 1), x1003)) else (some (6, x184001, x184002, x184003, x1000, wrap64 (x1001 + 1), x1003))) else (some (x184000, x184001, x184002, x184003, x1000, x1001, x1003))
end
def Qr.item.f (k : Nat) (s0_0 : ByteArray) (s0_1 : Int) (s0_2 : Qr.FX) (s0_3 : Bool) : Option (Int × ByteArray × ByteArray × Int × ByteArray × Int × Bool) := (Qr.till.f k s0_0 s0_1 s0_2 s0_3 (⟨#[61, 60, 62, 41]⟩ : ByteArray)).bind fun bt179 => ((Qr.next.f bt179.2.1 bt179.2.2.1 s0_2 bt179.2.2.2).bind fun bt184 => (if bt184.1 = 60 then (Qr.item.j0 k bt184.2.1 (wrap64 (bt184.2.2.1 + 1)) s0_2 bt184.2.2.2 8 bt179.1 (⟨#[]⟩ : ByteArray) 0) else (if bt184.1 = 62 then (Qr.item.j0 k bt184.2.1 (wrap64 (bt184.2.2.1 + 1)) s0_2 bt184.2.2.2 7 bt179.1 (⟨#[]⟩ : ByteArray) 0) else (Qr.item.j0 k bt184.2.1 bt184.2.2.1 s0_2 bt184.2.2.2 4 bt179.1 (⟨#[]⟩ : ByteArray) 0))))
theorem Qr.item.mono_l : ∀ k, (∀ y0 y1 y2 y3 y4 y5 y6 y7, LeO (Qr.item.j0 k y0 y1 y2 y3 y4 y5 y6 y7) (Qr.item.j0 (k + 1) y0 y1 y2 y3 y4 y5 y6 y7)) ∧ (∀ y0 y1 y2 y3 y4 y5 y6 y7 y8 y9, LeO (Qr.item.j1 k y0 y1 y2 y3 y4 y5 y6 y7 y8 y9) (Qr.item.j1 (k + 1) y0 y1 y2 y3 y4 y5 y6 y7 y8 y9))
 | 0 => ⟨fun _ _ _ _ _ _ _ _ r h => by simp [Qr.item.j0] at h, fun _ _ _ _ _ _ _ _ _ _ r h => by simp [Qr.item.j1] at h⟩
 | k + 1 => by
  obtain ⟨ih0, ih1⟩ := Qr.item.mono_l k
  refine ⟨?_, ?_⟩
  ·intro y0 y1 y2 y3 y4 y5 y6 y7
   unfold Qr.item.j0
   with_reducible repeat' first | exact ih0 _ _ _ _ _ _ _ _ | exact ih1 _ _ _ _ _ _ _ _ _ _ | exact Qq.mono _ _ | exact Qr.till.mono _ _ _ _ _ _ | exact LeO.refl _ | exact LeO.none _ | refine LeO.ite ?_ ?_ | refine LeO.bind ?_ (fun _ => ?_)
  ·intro y0 y1 y2 y3 y4 y5 y6 y7 y8 y9
   unfold Qr.item.j1
   with_reducible repeat' first | exact ih0 _ _ _ _ _ _ _ _ | exact ih1 _ _ _ _ _ _ _ _ _ _ | exact Qq.mono _ _ | exact Qr.till.mono _ _ _ _ _ _ | exact LeO.refl _ | exact LeO.none _ | refine LeO.ite ?_ ?_ | refine LeO.bind ?_ (fun _ => ?_)
theorem Qr.item.mono : ∀ a0 a1 a2 a3 k, LeO (Qr.item.f k a0 a1 a2 a3) (Qr.item.f (k + 1) a0 a1 a2 a3) := by
 intro a0 a1 a2 a3 k
 obtain ⟨ih0, ih1⟩ := Qr.item.mono_l k
 unfold Qr.item.f
 with_reducible repeat' first | exact ih0 _ _ _ _ _ _ _ _ | exact ih1 _ _ _ _ _ _ _ _ _ _ | exact Qq.mono _ _ | exact Qr.till.mono _ _ _ _ _ _ | exact LeO.refl _ | exact LeO.none _ | refine LeO.ite ?_ ?_ | refine LeO.bind ?_ (fun _ => ?_)
def Qr.SI (w0 w W : World) (g gr gn : Nat) (t : ByteArray) (a : Int) (F : Qr.FX) (b : Bool) (op : Int) (at_ vl : ByteArray) : Prop :=
 (Qr.IsX w0 W g t a F b ∧ Below w0.heap.size w0 W ∧ KeepBut w W g none) ∧ W.heap[gr]? = some (.cells #[.int .i64 0, .string ⟨#[]⟩, .string ⟨#[]⟩, .int .i64 0] 64 (0, 0)) ∧ W.heap[gn]? = some (.cells #[.int .i64 op, .string at_, .string vl, .int .i64 0] 64 (0, 0)) ∧ (w0.heap.size ≤ gr ∧ w0.heap.size ≤ gn ∧ w.heap.size ≤ gr ∧ w.heap.size ≤ gn ∧ g ≠ gr ∧ g ≠ gn ∧ gr ≠ gn)
section
variable {w0 w W W1 : World} {g gr gn : Nat} {t : ByteArray} {a : Int} {F : Qr.FX} {b : Bool} {op : Int} {at_ vl : ByteArray}
theorem Qr.SI.isX (h : Qr.SI w0 w W g gr gn t a F b op at_ vl) : Qr.IsX w0 W g t a F b := h.1.1
theorem Qr.SI.below (h : Qr.SI w0 w W g gr gn t a F b op at_ vl) : Below w0.heap.size w0 W := h.1.2.1
theorem Qr.SI.new {v : ByteArray} {w2 : World} {t0 : ByteArray} {a0 : Int} {b0 : Bool} (h0 : Qr.IsX w0 w g t0 a0 F b0) (hB : Below w0.heap.size w0 w) (hi : Qr.IsX w0 w2 g t a F b) (hb : Below w0.heap.size w0 w2) (hk : KeepBut (w.alloc (.cells #[.int .i64 0, .string ⟨#[]⟩, .string ⟨#[]⟩, .int .i64 0] 64)) w2 g none) :
  Qr.SI w0 w (w2.alloc (.cells #[.int .i64 4, .string v, .string ⟨#[]⟩, .int .i64 0] 64)) g w.heap.size w2.heap.size t a F b 4 v ⟨#[]⟩ := by
 have h1 := Qr.IsX.lt h0
 have h2 := hB.size
 have hz := blk_lt (blk_new w (.cells #[.int .i64 0, .string ⟨#[]⟩, .string ⟨#[]⟩, .int .i64 0] 64))
 have h3 := hk.1
 have hr : w2.heap[w.heap.size]? = some (.cells #[.int .i64 0, .string ⟨#[]⟩, .string ⟨#[]⟩, .int .i64 0] 64 (0, 0)) := (hk.2 w.heap.size (by omega) (by omega) (by simp)).trans (blk_new w _)
 refine ⟨⟨Qr.IsX.alloc hi _, below_alloc hb _, keep_alloc ((keep_alloc (KeepBut.refl w g none) _).trans hk (.inl rfl)) _⟩, blk_alloc hr _, blk_new w2 _, by omega, by omega, by omega, by omega, by omega, by omega, by omega⟩
theorem Qr.SI.next (h : Qr.SI w0 w W g gr gn t a F b op at_ vl) {t1 : ByteArray} {a1 : Int} {b1 : Bool} (hi : Qr.IsX w0 W1 g t1 a1 F b1) (hb : Below w0.heap.size w0 W1) (hk : KeepBut W W1 g none) : Qr.SI w0 w W1 g gr gn t1 a1 F b1 op at_ vl := by
 obtain ⟨⟨_, _, h3⟩, h4, h5, h6, h7, h8, h9, h10, h11, h12⟩ := h
 exact ⟨⟨hi, hb, h3.trans hk (.inl rfl)⟩, (hk.2 gr (blk_lt h4) (Ne.symm h10) (by simp)).trans h4, (hk.2 gn (blk_lt h5) (Ne.symm h11) (by simp)).trans h5, h6, h7, h8, h9, h10, h11, h12⟩
theorem Qr.SI.plain (h : Qr.SI w0 w W g gr gn t a F b op at_ vl) (hb : Below W.heap.size W W1) : Qr.SI w0 w W1 g gr gn t a F b op at_ vl := by
 obtain ⟨⟨h1, h2, h3⟩, h4, h5, h6⟩ := h
 exact ⟨⟨Qr.IsX.below h1 hb, below_step h2 hb, h3.trans (KeepBut.of_below hb g none) (.inl rfl)⟩, blk_below h4 hb, blk_below h5 hb, h6⟩
theorem Qr.SI.sat (h : Qr.SI w0 w W g gr gn t a F b op at_ vl) (x : Int) : Qr.SI w0 w (W.setCell ⟨g, 1, none⟩ (.int .i64 x)) g gr gn t x F b op at_ vl := by
 obtain ⟨⟨h1, h2, h3⟩, h4, h5, h6, h7, h8, h9, h10, h11, h12⟩ := h
 exact ⟨⟨Qr.IsX.set_1 h1 x, below_set h2 (Qr.IsX.ge h1), KeepBut.set_ h3 _ _⟩, blk_far h4 (Ne.symm h10) _, blk_far h5 (Ne.symm h11) _, h6, h7, h8, h9, h10, h11, h12⟩
theorem Qr.SI.sop (h : Qr.SI w0 w W g gr gn t a F b op at_ vl) (x : Int) : Qr.SI w0 w (W.setCell ⟨gn, 0, none⟩ (.int .i64 x)) g gr gn t a F b x at_ vl := by
 obtain ⟨⟨h1, h2, h3⟩, h4, h5, h6, h7, h8, h9, h10, h11, h12⟩ := h
 exact ⟨⟨Qr.IsX.far h1 h11 _, below_set h2 h7, keep_far h3 h9 _⟩, blk_far h4 h12 _, blk_put h5 0 _ rfl, h6, h7, h8, h9, h10, h11, h12⟩
theorem Qr.SI.sval (h : Qr.SI w0 w W g gr gn t a F b op at_ vl) (x : ByteArray) : Qr.SI w0 w (W.setCell ⟨gn, 2, none⟩ (.string x)) g gr gn t a F b op at_ x := by
 obtain ⟨⟨h1, h2, h3⟩, h4, h5, h6, h7, h8, h9, h10, h11, h12⟩ := h
 exact ⟨⟨Qr.IsX.far h1 h11 _, below_set h2 h7, keep_far h3 h9 _⟩, blk_far h4 h12 _, blk_put h5 2 _ rfl, h6, h7, h8, h9, h10, h11, h12⟩
theorem Qr.SI.cells (h : Qr.SI w0 w W g gr gn t a F b op at_ vl) : W.cell? ⟨g, 1, none⟩ = some (.int .i64 a) ∧ W.cell? ⟨g, 3, none⟩ = some (.bool b) ∧ W.frozen? ⟨g, 1, none⟩ = false ∧ W.cell? ⟨gn, 0, none⟩ = some (.int .i64 op) ∧ W.cell? ⟨gn, 1, none⟩ = some (.string at_) ∧ W.cell? ⟨gn, 2, none⟩ = some (.string vl) ∧ W.cell? ⟨gn, 3, none⟩ = some (.int .i64 0) ∧ W.frozen? ⟨gn, 0, none⟩ = false ∧ W.frozen? ⟨gn, 2, none⟩ = false := by
 obtain ⟨⟨⟨A2, c2, hb, _, _⟩, _, _⟩, h4, h5, _⟩ := h
 exact ⟨(blk_cell hb 1).trans rfl, (blk_cell hb 3).trans rfl, blk_frozen hb 1, (blk_cell h5 0).trans rfl, (blk_cell h5 1).trans rfl, (blk_cell h5 2).trans rfl, (blk_cell h5 3).trans rfl, blk_frozen h5 0, blk_frozen h5 2⟩
theorem Qr.SI.cellsR (h : Qr.SI w0 w W g gr gn t a F b op at_ vl) : (W.cell? ⟨gr, 0, none⟩ = some (.int .i64 0) ∧ W.cell? ⟨gr, 1, none⟩ = some (.string ⟨#[]⟩) ∧ W.cell? ⟨gr, 2, none⟩ = some (.string ⟨#[]⟩) ∧ W.cell? ⟨gr, 3, none⟩ = some (.int .i64 0)) ∧ W.frozen? ⟨gr, 0, none⟩ = false ∧ W.frozen? ⟨gr, 1, none⟩ = false ∧ W.frozen? ⟨gr, 2, none⟩ = false ∧ W.frozen? ⟨gr, 3, none⟩ = false := by
 obtain ⟨_, h4, _⟩ := h
 exact ⟨⟨(blk_cell h4 0).trans rfl, (blk_cell h4 1).trans rfl, (blk_cell h4 2).trans rfl, (blk_cell h4 3).trans rfl⟩, blk_frozen h4 0, blk_frozen h4 1, blk_frozen h4 2, blk_frozen h4 3⟩
theorem Qr.SI.out (h : Qr.SI w0 w W g gr gn t a F b op at_ vl) : ((((W.setCell ⟨gr, 0, none⟩ (.int .i64 op)).setCell ⟨gr, 1, none⟩ (.string at_)).setCell ⟨gr, 2, none⟩ (.string vl)).setCell ⟨gr, 3, none⟩ (.int .i64 0)).heap[gr]? = some (.cells #[.int .i64 op, .string at_, .string vl, .int .i64 0] 64 (0, 0)) ∧
  Qr.IsX w0 ((((W.setCell ⟨gr, 0, none⟩ (.int .i64 op)).setCell ⟨gr, 1, none⟩ (.string at_)).setCell ⟨gr, 2, none⟩ (.string vl)).setCell ⟨gr, 3, none⟩ (.int .i64 0)) g t a F b ∧ Below w0.heap.size w0 ((((W.setCell ⟨gr, 0, none⟩ (.int .i64 op)).setCell ⟨gr, 1, none⟩ (.string at_)).setCell ⟨gr, 2, none⟩ (.string vl)).setCell ⟨gr, 3, none⟩ (.int .i64 0)) ∧
  KeepBut w ((((W.setCell ⟨gr, 0, none⟩ (.int .i64 op)).setCell ⟨gr, 1, none⟩ (.string at_)).setCell ⟨gr, 2, none⟩ (.string vl)).setCell ⟨gr, 3, none⟩ (.int .i64 0)) g none := by
 obtain ⟨⟨h1, h2, h3⟩, h4, h5, h6, h7, h8, h9, h10, h11, h12⟩ := h
 exact ⟨blk_put (blk_put (blk_put (blk_put h4 0 _ rfl) 1 _ rfl) 2 _ rfl) 3 _ rfl, Qr.IsX.far (Qr.IsX.far (Qr.IsX.far (Qr.IsX.far h1 h10 _) h10 _) h10 _) h10 _, below_set (below_set (below_set (below_set h2 h6) h6) h6) h6, keep_far (keep_far (keep_far (keep_far h3 h8 _) h8 _) h8 _) h8 _⟩
end
set_option maxRecDepth 100000 in
set_option maxHeartbeats 8000000 in
theorem Qr.item.calls (k g : Nat) (t : ByteArray) (a : Int) (F : Qr.FX) (b : Bool) (r1 : Int) (r2 : ByteArray) (r3 : ByteArray) (r4 : Int) (r5 : ByteArray) (r6 : Int) (r7 : Bool) (w0 w : World) (hI : Qr.IsX w0 w g t a F b) (hB : Below w0.heap.size w0 w) (h : Qr.item.f k t a F b = some (r1, r2, r3, r4, r5, r6, r7)) :
  Calls Tryz.prog 114 #[.pointer (some ⟨g, 0, none⟩)] w fun e w' => e = .returned (.agg #[.int .i64 r1, .string r2, .string r3, .int .i64 r4]) ∧ Qr.IsX w0 w' g r5 r6 F r7 ∧ Below w0.heap.size w0 w' ∧ KeepBut w w' g none := by
 have hu64 := Tryz.underlying64
 have HI := Aside0.mk hI
 have HB := Aside0.mk hB
 clear hI hB
 unfold Qr.item.f at h
 obtain ⟨⟨v1, t1, a1, b1⟩, h1, h⟩ := Option.bind_eq_some_iff.1 h
 obtain ⟨⟨c2, t2, a2, b2⟩, h2, h⟩ := Option.bind_eq_some_iff.1 h
 have H1 := Aside0.mk h1
 have H2 := Aside0.mk h2
 dsimp only at h
 have H := Aside0.mk h
 clear h1 h2 h
 have HI1 := Aside0.mk (Qr.IsX.alloc HI.out (.cells #[.int .i64 0, .string ⟨#[]⟩, .string ⟨#[]⟩, .int .i64 0] 64))
 have HB1 := Aside0.mk (below_alloc HB.out (.cells #[.int .i64 0, .string ⟨#[]⟩, .string ⟨#[]⟩, .int .i64 0] 64))
 go_enter Tryz.func114, Tryz.ntmps114
 go_upto_region 1 with fail
 go_upto_region 2 with (go_at_call 150; refine (Qr.till.calls k g t a F b (⟨#[61, 60, 62, 41]⟩ : ByteArray) v1 t1 a1 b1 w0 _ HI1.out HB1.out H1.out).mono ?_; rintro e w2 ⟨rfl, hi, hb, hk⟩; have HS1 := Aside0.mk (Qr.SI.new (v := v1) HI.out HB.out hi hb hk); clear hi hb hk)
 clear HI HB HI1 HB1 H1
 obtain ⟨gr, hgr⟩ : ∃ gr, gr = w.heap.size := ⟨_, rfl⟩
 obtain ⟨gn, hgn⟩ : ∃ gn, gn = w2.heap.size := ⟨_, rfl⟩
 rw [← hgr, ← hgn] at HS1 ⊢
 clear hgr hgn
 generalize w2.alloc (.cells #[.int .i64 4, .string v1, .string ⟨#[]⟩, .int .i64 0] 64) = w3 at HS1 ⊢
 obtain ⟨y1, y2, y3, y4, y5, y6, y7, y8, y9⟩ := HS1.out.cells
 go_upto_block 0 with (go_at_call 113; refine (Qr.next.calls g t1 a1 F b1 c2 t2 a2 b2 w0 _ (Qr.SI.isX HS1.out) (Qr.SI.below HS1.out) H2.out).mono ?_; rintro e w4 ⟨rfl, hi, hb, hk⟩; have HS2 := Aside0.mk (Qr.SI.next HS1.out hi hb hk); clear hi hb hk; clear y1 y2 y3 y4 y5 y6 y7 y8 y9; obtain ⟨y1, y2, y3, y4, y5, y6, y7, y8, y9⟩ := HS2.out.cells)
 clear H2 HS1
 go_cut [] (fun wc => ∃ (aj oj : Int), Aside0 (Qr.item.j0 k t2 aj F b2 oj v1 (⟨#[]⟩ : ByteArray) 0 = some (r1, r2, r3, r4, r5, r6, r7)) ∧ Aside0 (Qr.SI w0 w wc g gr gn t2 aj F b2 oj v1 (⟨#[]⟩ : ByteArray)))
 case first =>
  replace H := H.out
  by_cases c60 : c2 = 60
  case pos =>
   rw [if_pos c60] at H
   have q1 : (c2 == 60) = true := beq_iff_eq.mpr c60
   clear c60
   have H' := Aside0.mk H
   clear H
   go_wp2
   go_meet
   case rel => exact ⟨_, _, H', ⟨Qr.SI.sat (Qr.SI.sop HS2.out 8) _⟩⟩
  rw [if_neg c60] at H
  have q1 : (c2 == 60) = false := beq_false_of_ne c60
  clear c60
  by_cases c62 : c2 = 62
  case pos =>
   rw [if_pos c62] at H
   have q2 : (c2 == 62) = true := beq_iff_eq.mpr c62
   clear c62
   have H' := Aside0.mk H
   clear H
   go_wp2
   go_meet
   case rel => exact ⟨_, _, H', ⟨Qr.SI.sat (Qr.SI.sop HS2.out 7) _⟩⟩
  rw [if_neg c62] at H
  have q2 : (c2 == 62) = false := beq_false_of_ne c62
  clear c62
  have H' := Aside0.mk H
  clear H
  go_wp2
  go_meet
  case rel => exact ⟨_, _, H', HS2⟩
 case rest =>
  clear H y1 y2 y3 y4 y5 y6 y7 y8 y9 HS2
  obtain ⟨aj, oj, HJ, HS2⟩ := hcut
  replace HJ := HJ.out
  cases k with
  | zero => simp [Qr.item.j0] at HJ
  | succ k =>
   simp only [Qr.item.j0] at HJ
   obtain ⟨⟨v3, t3, a3, b3⟩, h3, HJ⟩ := Option.bind_eq_some_iff.1 HJ
   obtain ⟨p3, hp, HJ⟩ := Option.bind_eq_some_iff.1 HJ
   have H3 := Aside0.mk h3
   have HP := Aside0.mk hp
   dsimp only at HJ
   have H := Aside0.mk HJ
   clear h3 hp HJ
   obtain ⟨y1, y2, y3, y4, y5, y6, y7, y8, y9⟩ := HS2.out.cells
   go_upto_region 10 with fail
   have HS3 := Aside0.mk (Qr.SI.sat HS2.out (wrap64 (aj + 1)))
   clear y1 y2 y3 y4 y5 y6 y7 y8 y9
   generalize wc.setCell ⟨g, 1, none⟩ (.int .i64 (wrap64 (aj + 1))) = w5 at HS3 ⊢
   obtain ⟨y1, y2, y3, y4, y5, y6, y7, y8, y9⟩ := HS3.out.cells
   clear HS2
   go_upto_region 12 with (first | (go_at_call 150; refine (Qr.till.calls k g t2 (wrap64 (aj + 1)) F b2 (⟨#[42, 41]⟩ : ByteArray) v3 t3 a3 b3 w0 _ (Qr.SI.isX HS3.out) (Qr.SI.below HS3.out) H3.out).mono ?_; rintro e w6 ⟨rfl, hi, hb, hk⟩; have HS4 := Aside0.mk (Qr.SI.next HS3.out hi hb hk); clear hi hb hk; clear y1 y2 y3 y4 y5 y6 y7 y8 y9; obtain ⟨y1, y2, y3, y4, y5, y6, y7, y8, y9⟩ := HS4.out.cells) | (go_at_call 151; refine (Qq.calls k v3 p3 _ HP.out).mono ?_; rintro e w7 ⟨rfl, hb⟩; have HS5 := Aside0.mk (Qr.SI.plain HS4.out hb); clear hb; clear y1 y2 y3 y4 y5 y6 y7 y8 y9; obtain ⟨y1, y2, y3, y4, y5, y6, y7, y8, y9⟩ := HS5.out.cells))
   have HS6 := Aside0.mk (Qr.SI.sval HS5.out p3)
   clear y1 y2 y3 y4 y5 y6 y7 y8 y9
   generalize w7.setCell ⟨gn, 2, none⟩ (.string p3) = w8 at HS6 ⊢
   obtain ⟨y1, y2, y3, y4, y5, y6, y7, y8, y9⟩ := HS6.out.cells
   clear HS3 HS4 HS5 H3 HP
   replace H := H.out
   cases b3 with
   | true =>
    rw [if_pos rfl] at H
    cases k with
    | zero => simp [Qr.item.j1] at H
    | succ k =>
     simp only [Qr.item.j1, Bool.false_eq_true, ↓reduceIte, Option.some.injEq, Prod.mk.injEq] at H
     obtain ⟨rfl, rfl, rfl, rfl, rfl, rfl, rfl⟩ := H
     go_upto_region 17 with fail
     obtain ⟨⟨x0, x1, x2, x3⟩, u0, u1, u2, u3⟩ := HS6.out.cellsR
     go_wp2
     refine bodyPost_ret (results_cell_row rfl _ _ gr 64 #[.int .i64 _, .string _, .string _, .int .i64 0] (0, 0) _ rfl (Qr.SI.out HS6.out).1 Tryz.underlying64 rfl (by kernel_rfl)) rfl ?_
     exact ⟨rfl, (Qr.SI.out HS6.out).2⟩
   | false =>
    rw [if_neg (by simp)] at H
    obtain ⟨⟨c9, t9, a9, b9⟩, h9, H⟩ := Option.bind_eq_some_iff.1 H
    have H9 := Aside0.mk h9
    dsimp only at H
    clear h9
    cases k with
    | zero => simp [Qr.item.j1] at H
    | succ k =>
     by_cases c42 : c9 = 42
     case neg =>
      have q9 : (c9 == 42) = false := beq_false_of_ne c42
      rw [q9] at H
      clear c42
      simp only [Qr.item.j1, Bool.false_eq_true, ↓reduceIte, Option.some.injEq, Prod.mk.injEq] at H
      obtain ⟨rfl, rfl, rfl, rfl, rfl, rfl, rfl⟩ := H
      go_upto_region 17 with (go_at_call 113; refine (Qr.next.calls g t3 a3 F false c9 t9 a9 b9 w0 _ (Qr.SI.isX HS6.out) (Qr.SI.below HS6.out) H9.out).mono ?_; rintro e w9 ⟨rfl, hi, hb, hk⟩; have HS7 := Aside0.mk (Qr.SI.next HS6.out hi hb hk); clear hi hb hk; clear y1 y2 y3 y4 y5 y6 y7 y8 y9; obtain ⟨y1, y2, y3, y4, y5, y6, y7, y8, y9⟩ := HS7.out.cells)
      obtain ⟨⟨x0, x1, x2, x3⟩, u0, u1, u2, u3⟩ := HS7.out.cellsR
      go_wp2
      refine bodyPost_ret (results_cell_row rfl _ _ gr 64 #[.int .i64 _, .string _, .string _, .int .i64 0] (0, 0) _ rfl (Qr.SI.out HS7.out).1 Tryz.underlying64 rfl (by kernel_rfl)) rfl ?_
      exact ⟨rfl, (Qr.SI.out HS7.out).2⟩
     have q9 : (c9 == 42) = true := beq_iff_eq.mpr c42
     rw [q9] at H
     clear c42
     simp only [Qr.item.j1, ↓reduceIte] at H
     by_cases cv : v3.toList = ([] : List UInt8)
     case neg =>
      rw [if_neg cv] at H
      have qv : (v3.toList == ([] : List UInt8)) = false := beq_false_of_ne cv
      clear cv
      simp only [Option.some.injEq, Prod.mk.injEq] at H
      obtain ⟨rfl, rfl, rfl, rfl, rfl, rfl, rfl⟩ := H
      go_upto_region 17 with (go_at_call 113; refine (Qr.next.calls g t3 a3 F false c9 t9 a9 b9 w0 _ (Qr.SI.isX HS6.out) (Qr.SI.below HS6.out) H9.out).mono ?_; rintro e w9 ⟨rfl, hi, hb, hk⟩; have HS7 := Aside0.mk (Qr.SI.next HS6.out hi hb hk); clear hi hb hk; clear y1 y2 y3 y4 y5 y6 y7 y8 y9; obtain ⟨y1, y2, y3, y4, y5, y6, y7, y8, y9⟩ := HS7.out.cells)
      have HS8 := Aside0.mk (Qr.SI.sop (Qr.SI.sat HS7.out (wrap64 (a9 + 1))) 6)
      clear y1 y2 y3 y4 y5 y6 y7 y8 y9
      generalize (w9.setCell ⟨g, 1, none⟩ (.int .i64 (wrap64 (a9 + 1)))).setCell ⟨gn, 0, none⟩ (.int .i64 6) = wF at HS8 ⊢
      obtain ⟨y1, y2, y3, y4, y5, y6, y7, y8, y9⟩ := HS8.out.cells
      obtain ⟨⟨x0, x1, x2, x3⟩, u0, u1, u2, u3⟩ := HS8.out.cellsR
      go_wp2
      refine bodyPost_ret (results_cell_row rfl _ _ gr 64 #[.int .i64 _, .string _, .string _, .int .i64 0] (0, 0) _ rfl (Qr.SI.out HS8.out).1 Tryz.underlying64 rfl (by kernel_rfl)) rfl ?_
      exact ⟨rfl, (Qr.SI.out HS8.out).2⟩
     case pos =>
      rw [if_pos cv] at H
      have qv : (v3.toList == ([] : List UInt8)) = true := beq_iff_eq.mpr cv
      clear cv
      simp only [Option.some.injEq, Prod.mk.injEq] at H
      obtain ⟨rfl, rfl, rfl, rfl, rfl, rfl, rfl⟩ := H
      go_upto_region 17 with (go_at_call 113; refine (Qr.next.calls g t3 a3 F false c9 t9 a9 b9 w0 _ (Qr.SI.isX HS6.out) (Qr.SI.below HS6.out) H9.out).mono ?_; rintro e w9 ⟨rfl, hi, hb, hk⟩; have HS7 := Aside0.mk (Qr.SI.next HS6.out hi hb hk); clear hi hb hk; clear y1 y2 y3 y4 y5 y6 y7 y8 y9; obtain ⟨y1, y2, y3, y4, y5, y6, y7, y8, y9⟩ := HS7.out.cells)
      have HS8 := Aside0.mk (Qr.SI.sop (Qr.SI.sop (Qr.SI.sat HS7.out (wrap64 (a9 + 1))) 6) 5)
      clear y1 y2 y3 y4 y5 y6 y7 y8 y9
      generalize ((w9.setCell ⟨g, 1, none⟩ (.int .i64 (wrap64 (a9 + 1)))).setCell ⟨gn, 0, none⟩ (.int .i64 6)).setCell ⟨gn, 0, none⟩ (.int .i64 5) = wF at HS8 ⊢
      obtain ⟨y1, y2, y3, y4, y5, y6, y7, y8, y9⟩ := HS8.out.cells
      obtain ⟨⟨x0, x1, x2, x3⟩, u0, u1, u2, u3⟩ := HS8.out.cellsR
      go_wp2
      refine bodyPost_ret (results_cell_row rfl _ _ gr 64 #[.int .i64 _, .string _, .string _, .int .i64 0] (0, 0) _ rfl (Qr.SI.out HS8.out).1 Tryz.underlying64 rfl (by kernel_rfl)) rfl ?_
      exact ⟨rfl, (Qr.SI.out HS8.out).2⟩
theorem Qr.till.irr : ∀ k, (∀ (x1 : ByteArray) (x5 : Int) (t : ByteArray) (a : Int) (F F' : Qr.FX) (b : Bool), Qr.till.l0 k x1 x5 t a F b = Qr.till.l0 k x1 x5 t a F' b) ∧ (∀ (x1 : ByteArray) (x5 x6 : Int) (t : ByteArray) (a : Int) (F F' : Qr.FX) (b : Bool), Qr.till.l1 k x1 x5 x6 t a F b = Qr.till.l1 k x1 x5 x6 t a F' b)
 | 0 => ⟨fun _ _ _ _ _ _ _ => rfl, fun _ _ _ _ _ _ _ _ => rfl⟩
 | k + 1 => by
  obtain ⟨i0, i1⟩ := Qr.till.irr k
  refine ⟨fun x1 x5 t a F F' b => ?_, fun x1 x5 x6 t a F F' b => ?_⟩
  ·rw [Qr.till.l0, Qr.till.l0, i1 x1 x5 0 t a F F' b]
  ·rw [Qr.till.l1, Qr.till.l1, i1 x1 x5 (wrap64 (x6 + 1)) t a F F' b, i0 x1 x5 t (wrap64 (a + 1)) F F' b]
theorem Qr.till.irrF (k : Nat) (t : ByteArray) (a : Int) (F F' : Qr.FX) (b : Bool) (s : ByteArray) : Qr.till.f k t a F b s = Qr.till.f k t a F' b s := by
 unfold Qr.till.f
 rw [(Qr.till.irr k).1 s a t a F F' b]
theorem Qr.next.irrF (t : ByteArray) (a : Int) (F F' : Qr.FX) (b : Bool) : Qr.next.f t a F b = Qr.next.f t a F' b := rfl
def Qr.ST (w0 W : World) (g : Nat) (t : ByteArray) (a : Int) (l : List S64) (b : Bool) (A : Option Addr) (c : Nat) : Prop :=
 Qr.IsX w0 W g t a ⟨A, c, l.length⟩ b ∧ Kd.R k64 64 W w0.heap.size (fun _ => True) (.slice A l.length c) l ∧ Below w0.heap.size w0 W
section
variable {w0 W W1 : World} {g : Nat} {t : ByteArray} {a : Int} {l : List S64} {b : Bool} {A : Option Addr} {c : Nat}
theorem Qr.ST.far (h : Qr.ST w0 W g t a l b A c) : Kd.R k64 64 W w0.heap.size (fun k => True ∧ k ≠ g) (.slice A l.length c) l := by
 obtain ⟨⟨A2, c2, hb, hg, rfl, rfl⟩, hr, hB⟩ := h
 exact Kd.R_types hr hb (by decide)
theorem Qr.ST.drew (h : Qr.ST w0 W g t a l b A c) : Qr.ST w0 W.drew g t a l b A c := ⟨Qr.IsX.drew h.1, Kd.R_drew h.2.1, below_drew1 h.2.2⟩
theorem Qr.ST.next (h : Qr.ST w0 W g t a l b A c) {t1 : ByteArray} {a1 : Int} {b1 : Bool} (hi : Qr.IsX w0 W1 g t1 a1 ⟨A, c, l.length⟩ b1) (hb : Below w0.heap.size w0 W1) (hk : KeepBut W W1 g none) : Qr.ST w0 W1 g t1 a1 l b1 A c :=
 ⟨hi, Kd.R_mono (Kd.R_keep h.far hk (fun _ hk => hk.2)) (fun _ _ => trivial), hb⟩
theorem Qr.ST.at_ (h : Qr.ST w0 W g t a l b A c) (x : Int) : Qr.ST w0 (W.setCell ⟨g, 1, none⟩ (.int .i64 x)) g t x l b A c :=
 ⟨Qr.IsX.set_1 h.1 x, Kd.R_mono (Kd.R_far h.far (fun _ hk => hk.2) _) (fun _ _ => trivial), below_set h.2.2 (Qr.IsX.ge h.1)⟩
theorem Qr.ST.bad (h : Qr.ST w0 W g t a l b A c) (x : Bool) : Qr.ST w0 (W.setCell ⟨g, 3, none⟩ (.bool x)) g t a l x A c :=
 ⟨Qr.IsX.set_3 h.1 x, Kd.R_mono (Kd.R_far h.far (fun _ hk => hk.2) _) (fun _ _ => trivial), below_set h.2.2 (Qr.IsX.ge h.1)⟩
theorem Qr.IsX.set_2 {f0 : ByteArray} {f1 : Int} {f2 : Qr.FX} {f3 : Bool} (h : Qr.IsX w0 W g f0 f1 f2 f3) (F : Qr.FX) : Qr.IsX w0 (W.setCell ⟨g, 2, none⟩ (.slice F.A F.length F.c)) g f0 f1 F f3 := by
 obtain ⟨A2, c2, hb, hg, hr2⟩ := h
 exact ⟨F.A, F.c, by simpa using blk_set hb 2 (.slice F.A F.length F.c), hg, rfl, rfl⟩
theorem Qr.ST.f (h : Qr.ST w0 W g t a l b A c) {A1 : Option Addr} {n1 c1 : Nat} {l1 : List S64} (hr : Kd.R k64 64 W1 w0.heap.size (fun _ => True) (.slice A1 n1 c1) l1) (hB : Below w0.heap.size w0 W1) (hg : W.grownBy W1 (.slice A l.length c : Value).ownBlock) :
  Qr.ST w0 (W1.setCell ⟨g, 2, none⟩ (.slice A1 n1 c1)) g t a l1 b A1 c1 := by
 have hx : Qr.IsX w0 W1 g t a ⟨A, c, l.length⟩ b := Qr.IsX.grown h.1 hg (Qr.IsX.own_ne h.1 h.2.1 (by decide))
 have hn := (Kd.R_reads' hr).1
 subst hn
 refine ⟨Qr.IsX.set_2 hx ⟨A1, c1, l1.length⟩, ?_, below_set hB (Qr.IsX.ge h.1)⟩
 obtain ⟨A2, c2, hb, _, _⟩ := hx
 exact Kd.R_mono (Kd.R_far (Kd.R_types hr hb (by decide)) (fun _ hk => hk.2) _) (fun _ _ => trivial)
theorem Qr.ST.cells (h : Qr.ST w0 W g t a l b A c) : W.cell? ⟨g, 0, none⟩ = some (.string t) ∧ W.cell? ⟨g, 1, none⟩ = some (.int .i64 a) ∧ W.cell? ⟨g, 2, none⟩ = some (.slice A l.length c) ∧ W.cell? ⟨g, 3, none⟩ = some (.bool b) ∧ W.frozen? ⟨g, 1, none⟩ = false ∧ W.frozen? ⟨g, 2, none⟩ = false ∧ W.frozen? ⟨g, 3, none⟩ = false := by
 obtain ⟨⟨A2, c2, hb, hg, rfl, rfl⟩, hr, hB⟩ := h
 exact ⟨(blk_cell hb 0).trans rfl, (blk_cell hb 1).trans rfl, (blk_cell hb 2).trans rfl, (blk_cell hb 3).trans rfl, blk_frozen hb 1, blk_frozen hb 2, blk_frozen hb 3⟩
def Qr.up (l : List S64) (i : Nat) (x : Int) : List S64 := l.set i ⟨(l.getD i z64).f0, (l.getD i z64).f1, (l.getD i z64).f2, x⟩
theorem Qr.ST.elem (h : Qr.ST w0 W g t a l b A c) (i : Nat) (hi : i < l.length) : ∃ go, A = some ⟨go, 0, none⟩ ∧ W.cell? ⟨go, i * 4 + 3, none⟩ = some (.int .i64 (l.getD i z64).f3) ∧ W.frozen? ⟨go, i * 4 + 3, none⟩ = false ∧
  ∀ x, Qr.ST w0 (W.setCell ⟨go, i * 4 + 3, none⟩ (.int .i64 x)) g t a (Qr.up l i x) b A c := by
 obtain ⟨go, cap, e, hgo, hgl, cells, hc⟩ := Kd.R_form h.2.1 (by omega)
 injection e with e1 _ e3
 subst e1
 subst e3
 obtain ⟨ce, hcl, hM, hcc, hfr⟩ := Kd.R_elem h.2.1 z64 (i : Int) (by omega) (by omega)
 obtain rfl := k64_openM hM
 refine ⟨go, rfl, hcc 3 _ rfl, hfr 3, fun x => ?_⟩
 have hs := Kd.R_seg h.2.1 (i : Int) (by omega) (by omega) (seg := [.int .i64 x]) (j := 3) hcl hcc (show 4 ≤ 4 from by decide) (x' := (⟨(l.getD i z64).f0, (l.getD i z64).f1, (l.getD i z64).f2, x⟩ : S64)) (k64_mkM _ _ (fun _ => False) _) (fun _ hk => hk.elim)
 have hne : g ≠ go := Qr.IsX.ne_blk h.1 hc (by decide)
 have hu : (Qr.up l i x).length = l.length := by unfold Qr.up; rw [List.length_set]
 refine ⟨by rw [hu]; exact Qr.IsX.far h.1 hne _, by rw [hu]; exact hs.1, below_set h.2.2 hgo⟩
end
theorem Qr.ST.isX {w0 W : World} {g : Nat} {t : ByteArray} {a : Int} {l : List S64} {b : Bool} {A : Option Addr} {c : Nat} (h : Qr.ST w0 W g t a l b A c) : Qr.IsX w0 W g t a ⟨A, c, l.length⟩ b := h.1
theorem Qr.ST.below {w0 W : World} {g : Nat} {t : ByteArray} {a : Int} {l : List S64} {b : Bool} {A : Option Addr} {c : Nat} (h : Qr.ST w0 W g t a l b A c) : Below w0.heap.size w0 W := h.2.2
theorem Qr.item.irr : ∀ k, (∀ (t : ByteArray) (a : Int) (F F' : Qr.FX) (b : Bool) (o : Int) (x y : ByteArray) (z : Int), Qr.item.j0 k t a F b o x y z = Qr.item.j0 k t a F' b o x y z) ∧ (∀ (v : ByteArray) (e : Bool) (t : ByteArray) (a : Int) (F F' : Qr.FX) (b : Bool) (o : Int) (x y : ByteArray) (z : Int), Qr.item.j1 k v e t a F b o x y z = Qr.item.j1 k v e t a F' b o x y z)
 | 0 => ⟨fun _ _ _ _ _ _ _ _ _ => rfl, fun _ _ _ _ _ _ _ _ _ _ _ => rfl⟩
 | k + 1 => by
  obtain ⟨i0, i1⟩ := Qr.item.irr k
  refine ⟨fun t a F F' b o x y z => ?_, fun v e t a F F' b o x y z => by rw [Qr.item.j1, Qr.item.j1]⟩
  rw [Qr.item.j0, Qr.item.j0, Qr.till.irrF k t (wrap64 (a + 1)) F F' b]
  congr 1
  funext bt
  congr 1
  funext t1
  rw [Qr.next.irrF bt.2.1 bt.2.2.1 F F' bt.2.2.2, i1 bt.1 false bt.2.1 bt.2.2.1 F F']
  congr 2
  funext q
  rw [i1 bt.1 (q.1 == 42) q.2.1 q.2.2.1 F F']
theorem Qr.item.irrF (k : Nat) (t : ByteArray) (a : Int) (F F' : Qr.FX) (b : Bool) : Qr.item.f k t a F b = Qr.item.f k t a F' b := by
 unfold Qr.item.f
 rw [Qr.till.irrF k t a F F' b]
 congr 1
 funext bt
 rw [Qr.next.irrF bt.2.1 bt.2.2.1 F F' bt.2.2.2]
 congr 1
 funext q
 rw [(Qr.item.irr k).1 q.2.1 (wrap64 (q.2.2.1 + 1)) F F', (Qr.item.irr k).1 q.2.1 (wrap64 (q.2.2.1 + 1)) F F', (Qr.item.irr k).1 q.2.1 q.2.2.1 F F']
abbrev Qr.F0 : Qr.FX := ⟨none, 0, 0⟩
def Qr.opOf (c : Int) : Int := if c = 38 then 1 else if c = 124 then 2 else if c = 33 then 3 else 0
def Qr.nx (t : ByteArray) (a : Int) (b : Bool) : Option (Int × Bool) := if a ≥ (t.size : Int) then some (0, true) else if 0 ≤ a then some (bt t a, b) else none
theorem Qr.nx_next {t : ByteArray} {a : Int} {b : Bool} {c : Int} {b1 : Bool} (h : Qr.nx t a b = some (c, b1)) (F : Qr.FX) : Qr.next.f t a F b = some (c, t, a, b1) := by
 unfold Qr.nx at h
 unfold Qr.next.f
 by_cases h1 : a ≥ (t.size : Int)
 ·rw [if_pos h1] at h ⊢
  obtain ⟨rfl, rfl⟩ := Prod.mk.inj (Option.some.inj h)
  rfl
 rw [if_neg h1] at h ⊢
 by_cases h2 : 0 ≤ a
 ·rw [if_pos h2] at h ⊢
  obtain ⟨rfl, rfl⟩ := Prod.mk.inj (Option.some.inj h)
  rw [if_pos (by omega)]
 ·rw [if_neg h2] at h; cases h
abbrev Qr.St := ByteArray × Int × List S64 × Bool
def Qr.fin (t : ByteArray) (a : Int) (l : List S64) (b : Bool) : Option Qr.St :=
 if b = true then some (t, a, l, true) else (Qr.nx t a b).bind fun c => if c.1 = 41 then some (t, wrap64 (a + 1), l, c.2) else some (t, a, l, true)
def Qr.lpo (g : ByteArray → Int → List S64 → Bool → Option Qr.St) (i : Nat) : Nat → ByteArray → Int → List S64 → Bool → Option Qr.St
 | 0, _, _, _, _ => none
 | m + 1, t, a, l, b => if b = true then some (t, a, l, b) else (Qr.nx t a b).bind fun c => if c.1 = 40 then (g t a l c.2).bind fun r => if i < r.2.2.1.length then Qr.lpo g i m r.1 r.2.1 (Qr.up r.2.2.1 i (wrap64 ((r.2.2.1.getD i z64).f3 + 1))) r.2.2.2 else none else some (t, a, l, c.2)
def Qr.one : Nat → ByteArray → Int → List S64 → Bool → Int → Option Qr.St
 | 0, _, _, _, _, _ => none
 | k + 1, t, a, l, b, deep => (Qr.nx t a b).bind fun c => if c.1 = 40 then if deep > 5 then some (t, a, l, true) else if (l.length : Int) ≥ 20 then some (t, a, l, true) else (Qr.nx t (wrap64 (a + 1)) c.2).bind fun d =>
   if Qr.opOf d.1 = 0 then (Qr.item.f k t (wrap64 (a + 1)) Qr.F0 d.2).bind fun r => Qr.fin r.2.2.2.2.1 r.2.2.2.2.2.1 (l ++ [⟨r.1, r.2.1, r.2.2.1, r.2.2.2.1⟩]) r.2.2.2.2.2.2
   else (Qr.lpo (fun t a l b => Qr.one k t a l b (wrap64 (deep + 1))) l.length k t (wrap64 (wrap64 (a + 1) + 1)) (l ++ [⟨Qr.opOf d.1, ⟨#[]⟩, ⟨#[]⟩, 0⟩]) d.2).bind fun r => Qr.fin r.1 r.2.1 r.2.2.1 r.2.2.2
  else some (t, a, l, true)
theorem Qr.lpo_mono {g g' : ByteArray → Int → List S64 → Bool → Option Qr.St} (hg : ∀ t a l b, LeO (g t a l b) (g' t a l b)) (i : Nat) : ∀ (m : Nat) (t : ByteArray) (a : Int) (l : List S64) (b : Bool), LeO (Qr.lpo g i m t a l b) (Qr.lpo g' i (m + 1) t a l b)
 | 0, _, _, _, _ => LeO.none _
 | m + 1, t, a, l, b => by
  rw [Qr.lpo, Qr.lpo]
  exact LeO.ite (LeO.refl _) (LeO.bind (LeO.refl _) (fun c => LeO.ite (LeO.bind (hg _ _ _ _) (fun r => LeO.ite (Qr.lpo_mono hg i m _ _ _ _) (LeO.refl _))) (LeO.refl _)))
theorem Qr.one_mono : ∀ (k : Nat) (t : ByteArray) (a : Int) (l : List S64) (b : Bool) (deep : Int), LeO (Qr.one k t a l b deep) (Qr.one (k + 1) t a l b deep)
 | 0, _, _, _, _, _ => fun r h => by simp [Qr.one] at h
 | k + 1, t, a, l, b, deep => by
  rw [Qr.one, Qr.one]
  exact LeO.bind (LeO.refl _) (fun c => LeO.ite (LeO.ite (LeO.refl _) (LeO.ite (LeO.refl _) (LeO.bind (LeO.refl _) (fun d => LeO.ite (LeO.bind (Qr.item.mono _ _ _ _ _) (fun _ => LeO.refl _)) (LeO.bind (Qr.lpo_mono (fun t a l b => Qr.one_mono k t a l b _) _ _ _ _ _ _) (fun _ => LeO.refl _)))))) (LeO.refl _))
theorem Qr.ST.grown_cell {w0 W W1 : World} {g : Nat} {t : ByteArray} {a : Int} {l : List S64} {b : Bool} {A : Option Addr} {c : Nat} (h : Qr.ST w0 W g t a l b A c) (hg : W.grownBy W1 (.slice A l.length c : Value).ownBlock) : W1.cell? ⟨g, 2, none⟩ = some (.slice A l.length c) ∧ W1.frozen? ⟨g, 2, none⟩ = false := by
 obtain ⟨A2, c2, hb, hg2, rfl, rfl⟩ := Qr.IsX.grown h.1 hg (Qr.IsX.own_ne h.1 h.2.1 (by decide))
 exact ⟨(blk_cell hb 2).trans rfl, blk_frozen hb 2⟩
set_option maxRecDepth 100000 in
set_option maxHeartbeats 16000000 in
theorem Qr.one.calls : ∀ (k g : Nat) (t : ByteArray) (a : Int) (l : List S64) (b : Bool) (deep : Int) (t' : ByteArray) (a' : Int) (l' : List S64) (b' : Bool) (w0 w : World) (A : Option Addr) (c : Nat) (hS : Qr.ST w0 w g t a l b A c) (h : Qr.one k t a l b deep = some (t', a', l', b')),
  Calls Tryz.prog 79 #[.pointer (some ⟨g, 0, none⟩), .int .i64 deep] w fun e w' => e = .returned (.tuple #[]) ∧ ∃ A' c', Qr.ST w0 w' g t' a' l' b' A' c' := by
 intro k
 induction k with
 | zero => intro g t a l b deep t' a' l' b' w0 w A c hS h; simp [Qr.one] at h
 | succ k ih =>
  intro g t a l b deep t' a' l' b' w0 w A c hS h
  have HS := Aside0.mk hS
  have hu64 := Tryz.underlying64
  have hu25 := Tryz.underlying25
  simp only [Qr.one] at h
  obtain ⟨⟨c1, b1⟩, hn10, h⟩ := Option.bind_eq_some_iff.1 h
  have hn1 := Aside0.mk hn10
  dsimp only at h
  clear hS hn10
  obtain ⟨z0, z1, z2, z3, y1, y2, y3⟩ := HS.out.cells
  by_cases h1 : c1 = 40
  case neg =>
   rw [if_neg h1] at h
   have h1b : (c1 != 40) = true := bne_iff_ne.mpr h1
   clear h1
   simp only [Option.some.injEq, Prod.mk.injEq] at h
   obtain ⟨rfl, rfl, rfl, rfl⟩ := h
   go_enter Tryz.func79, Tryz.ntmps79
   go_wp2_with (go_at_call 113; refine (Qr.next.calls g t a ⟨A, c, l.length⟩ b c1 t a b1 w0 _ HS.out.1 HS.out.2.2 (Qr.nx_next hn1.out _)).mono ?_; rintro e w1 ⟨rfl, hi, hb, hk⟩; have HS1 := Aside0.mk (Qr.ST.next HS.out hi hb hk); clear hi hb hk; clear z0 z1 z2 z3 y1 y2 y3; obtain ⟨z0, z1, z2, z3, y1, y2, y3⟩ := HS1.out.cells)
   first | go_end0 | ((try simp only [Exit.inBlock, Exit.then]); refine bodyPost_ret (results_none rfl _ _ _) rfl ?_)
   exact ⟨rfl, _, _, Qr.ST.bad HS1.out true⟩
  rw [if_pos h1] at h
  have h1b : (c1 != 40) = false := by rw [h1]; rfl
  clear h1
  by_cases h2 : deep > 5
  case pos =>
   rw [if_pos h2] at h
   have h2b : decide (5 < deep) = true := decide_eq_true h2
   clear h2
   simp only [Option.some.injEq, Prod.mk.injEq] at h
   obtain ⟨rfl, rfl, rfl, rfl⟩ := h
   go_enter Tryz.func79, Tryz.ntmps79
   go_wp2_with (go_at_call 113; refine (Qr.next.calls g t a ⟨A, c, l.length⟩ b c1 t a b1 w0 _ HS.out.1 HS.out.2.2 (Qr.nx_next hn1.out _)).mono ?_; rintro e w1 ⟨rfl, hi, hb, hk⟩; have HS1 := Aside0.mk (Qr.ST.next HS.out hi hb hk); clear hi hb hk; clear z0 z1 z2 z3 y1 y2 y3; obtain ⟨z0, z1, z2, z3, y1, y2, y3⟩ := HS1.out.cells)
   first | go_end0 | ((try simp only [Exit.inBlock, Exit.then]); refine bodyPost_ret (results_none rfl _ _ _) rfl ?_)
   exact ⟨rfl, _, _, Qr.ST.bad HS1.out true⟩
  rw [if_neg h2] at h
  have h2b : decide (5 < deep) = false := decide_eq_false h2
  clear h2
  by_cases h3 : (l.length : Int) ≥ 20
  case pos =>
   rw [if_pos h3] at h
   have h3b : decide (20 ≤ (l.length : Int)) = true := decide_eq_true h3
   have h3c : decide (20 ≤ l.length) = true := decide_eq_true (by omega)
   clear h3
   simp only [Option.some.injEq, Prod.mk.injEq] at h
   obtain ⟨rfl, rfl, rfl, rfl⟩ := h
   go_enter Tryz.func79, Tryz.ntmps79
   go_wp2_with (go_at_call 113; refine (Qr.next.calls g t a ⟨A, c, l.length⟩ b c1 t a b1 w0 _ HS.out.1 HS.out.2.2 (Qr.nx_next hn1.out _)).mono ?_; rintro e w1 ⟨rfl, hi, hb, hk⟩; have HS1 := Aside0.mk (Qr.ST.next HS.out hi hb hk); clear hi hb hk; clear z0 z1 z2 z3 y1 y2 y3; obtain ⟨z0, z1, z2, z3, y1, y2, y3⟩ := HS1.out.cells)
   first | go_end0 | ((try simp only [Exit.inBlock, Exit.then]); refine bodyPost_ret (results_none rfl _ _ _) rfl ?_)
   exact ⟨rfl, _, _, Qr.ST.bad HS1.out true⟩
  rw [if_neg h3] at h
  have h3b : decide (20 ≤ (l.length : Int)) = false := decide_eq_false h3
  have h3c : decide (20 ≤ l.length) = false := decide_eq_false (by omega)
  have hlen := Aside0.mk h3
  clear h3
  obtain ⟨⟨d1, b2⟩, hn20, h⟩ := Option.bind_eq_some_iff.1 h
  have hn2 := Aside0.mk hn20
  dsimp only at h
  have H := Aside0.mk h
  clear h hn20
  go_enter Tryz.func79, Tryz.ntmps79
  go_upto_region 3 with (go_at_call 113; refine (Qr.next.calls g t a ⟨A, c, l.length⟩ b c1 t a b1 w0 _ HS.out.1 HS.out.2.2 (Qr.nx_next hn1.out _)).mono ?_; rintro e w1 ⟨rfl, hi, hb, hk⟩; have HS1 := Aside0.mk (Qr.ST.next HS.out hi hb hk); clear hi hb hk; clear z0 z1 z2 z3 y1 y2 y3; obtain ⟨z0, z1, z2, z3, y1, y2, y3⟩ := HS1.out.cells)
  have HS2 := Aside0.mk (Qr.ST.at_ HS1.out (wrap64 (a + 1)))
  clear z0 z1 z2 z3 y1 y2 y3 HS1
  generalize w1.setCell ⟨g, 1, none⟩ (.int .i64 (wrap64 (a + 1))) = w2 at HS2 ⊢
  obtain ⟨z0, z1, z2, z3, y1, y2, y3⟩ := HS2.out.cells
  clear HS h1b h2b h3b h3c hn1
  go_upto_block 0 with (go_at_call 113; refine (Qr.next.calls g t (wrap64 (a + 1)) ⟨A, c, l.length⟩ b1 d1 t (wrap64 (a + 1)) b2 w0 _ HS2.out.1 HS2.out.2.2 (Qr.nx_next hn2.out _)).mono ?_; rintro e w3 ⟨rfl, hi, hb, hk⟩; have HS3 := Aside0.mk (Qr.ST.next HS2.out hi hb hk); clear hi hb hk; clear z0 z1 z2 z3 y1 y2 y3; obtain ⟨z0, z1, z2, z3, y1, y2, y3⟩ := HS3.out.cells)
  go_cut [4] (fun v4 wc => v4 = .int .i64 (Qr.opOf d1) ∧ wc = w3)
  case first =>
   clear H
   by_cases e1 : d1 = 38
   case pos =>
    have eop := Aside0.mk (show Qr.opOf d1 = 1 from by unfold Qr.opOf; rw [if_pos e1])
    have e1b : (d1 == 38) = true := beq_iff_eq.mpr e1
    clear e1
    go_wp2
    go_meet
    case rel => exact ⟨by rw [eop.out], rfl⟩
   by_cases e2 : d1 = 124
   case pos =>
    have eop := Aside0.mk (show Qr.opOf d1 = 2 from by unfold Qr.opOf; rw [if_neg e1, if_pos e2])
    have e1b : (d1 == 38) = false := beq_false_of_ne e1
    have e2b : (d1 == 124) = true := beq_iff_eq.mpr e2
    clear e1 e2
    go_wp2
    go_meet
    case rel => exact ⟨by rw [eop.out], rfl⟩
   by_cases e3 : d1 = 33
   case pos =>
    have eop := Aside0.mk (show Qr.opOf d1 = 3 from by unfold Qr.opOf; rw [if_neg e1, if_neg e2, if_pos e3])
    have e1b : (d1 == 38) = false := beq_false_of_ne e1
    have e2b : (d1 == 124) = false := beq_false_of_ne e2
    have e3b : (d1 == 33) = true := beq_iff_eq.mpr e3
    clear e1 e2 e3
    go_wp2
    go_meet
    case rel => exact ⟨by rw [eop.out], rfl⟩
   have eop := Aside0.mk (show Qr.opOf d1 = 0 from by unfold Qr.opOf; rw [if_neg e1, if_neg e2, if_neg e3])
   have e1b : (d1 == 38) = false := beq_false_of_ne e1
   have e2b : (d1 == 124) = false := beq_false_of_ne e2
   have e3b : (d1 == 33) = false := beq_false_of_ne e3
   clear e1 e2 e3
   go_wp2
   go_meet
   case rel => exact ⟨by rw [eop.out], rfl⟩
  case rest =>
   obtain ⟨rfl, hw⟩ := hcut
   replace hw := hw.symm
   subst hw
   replace H := H.out
   generalize Qr.opOf d1 = op at H
   clear hn2 HS2
   by_cases ho : op = 0
   case pos =>
    subst ho
    rw [if_pos rfl] at H
    obtain ⟨⟨r1, r2, r3, r4, r5, r6, r7⟩, hit0, H⟩ := Option.bind_eq_some_iff.1 H
    have HIT := Aside0.mk (by rw [← Qr.item.irrF k t (wrap64 (a + 1)) ⟨A, c, l.length⟩ Qr.F0 b2] at hit0; exact hit0)
    dsimp only at H
    have HF := Aside0.mk H
    clear H hit0
    go_upto_region 13 with fail
    have HSd := Aside0.mk (Qr.ST.drew HS3.out)
    clear HS3
    refine start_ (n := 12) (S := fun w' => w'.cell? ⟨g, 2, none⟩ = some (.slice A l.length c)) (ds := [11]) (bz 12 0) (by kernel_rfl) rfl (by kernel_rfl) (HSd.out.cells.2.2.1) (fun hHeld => ?_)
    generalize w3.drew = w4 at HSd hHeld ⊢
    have HS4 := HSd
    clear HSd z0 z1 z2 z3 y1 y2 y3
    refine PYz 0 47 (bz 12 1) rfl rfl (by kernel_rfl) ?_
    refine PYz 1 48 (bz 12 3) rfl rfl (by kernel_rfl) ?_
    refine PYz 2 49 (bz 12 7) rfl rfl (by kernel_rfl) ?_
    refine PYz 3 50 (bz 12 15) rfl rfl (by kernel_rfl) ?_
    refine PYz 5 52 (bz 12 47) rfl rfl (by kernel_rfl) ?_
    refine PTz 4 51 (bz 12 63) rfl rfl (by kernel_rfl) hHeld ?_
    refine one_ (i := 6) (N := some 53) (bz 12 127) rfl rfl (by kernel_rfl) (by decide) (fun K hK => ?_)
    refine goes_ Tryz.func114 (by kernel_rfl) rfl #[.pointer (some ⟨g, 0, none⟩)] (by rfl) rfl rfl (by simp only [List.map_toArray, List.map_cons, List.map_nil]; rfl) ?_
    with_reducible refine (Qr.item.calls k g t (wrap64 (a + 1)) ⟨A, c, l.length⟩ b2 r1 r2 r3 r4 r5 r6 r7 w0 _ (Qr.ST.isX HS4.out) (Qr.ST.below HS4.out) HIT.out).mono ?_
    rintro e w5 ⟨rfl, hi, hb, hk⟩
    refine ⟨_, rfl, ?_⟩
    have HS5 := Aside0.mk (Qr.ST.next HS4.out hi hb hk)
    clear hi hb hk HS4
    refine hK.out _ _ (HS5.out.cells.2.2.1) (fun hHeld => ?_)
    clear hK K
    refine norm_ (a' := ?_) ?_ ?_
    rotate_left
    ·show Act.put _ (some 53) _ = _
     simp only [PUz]
     rfl
    refine one_ (i := 7) (N := some 54) (bz 12 255) rfl rfl (by kernel_rfl) (by decide) (fun K hK => ?_)
    refine value_ (w1 := ?_) (v := ?_) (by rfl) rfl ?_ ?_
    rotate_left 2
    ·go_simp
     constructor
     ·rfl
     ·rfl
    refine hK.out _ _ ((World.cell?_alloc_lt _ _ _ (World.block_lt_of_cell? _ _ hHeld)).trans hHeld) (fun hHeld => ?_)
    clear hK K
    refine norm_ (a' := ?_) ?_ ?_
    rotate_left
    ·show Act.put _ (some 54) _ = _
     simp only [PUz]
     rfl
    refine one_ (i := 8) (N := some 55) (bz 12 511) rfl rfl (by kernel_rfl) (by decide) (fun K hK => ?_)
    refine Kd.R_append_step k64 (w0 := w0) w0.heap.size (by rfl) (.tmp 51) (.tmp 54) 25 64 (.agg #[(.int .i64 0), (.string ⟨#[]⟩), (.string ⟨#[]⟩), (.int .i64 0)]) 48 rfl Tryz.underlying25 info64 rfl (by decide) (by omega) (.slice A l.length c) l (⟨r1, r2, r3, r4⟩ : S64) [.int .i64 r1, .string r2, .string r3, .int .i64 r4] (fun _ => True) (fun _ => False) rfl rfl (k64_mkM _ _ _ _) (fun _ h => h.elim) (fun _ _ => trivial) ?aO ?aB ?aS ?aL ?_; (case aO => exact HS5.out.2.1); (case aB => exact HS5.out.2.2); (case aS => exact below_size HS5.out.2.2); (case aL => have := hlen.out; omega); intro vA wA ho hb hg hat; obtain ⟨A6, c6, e6⟩ := Kd.R_slice ho; subst e6; rw [show (l ++ [(⟨r1, r2, r3, r4⟩ : S64)]).length = l.length + 1 from by simp] at ho
    have HG := Aside0.mk (Qr.ST.grown_cell HS5.out hg)
    have HS6 := Aside0.mk (Qr.ST.f HS5.out ho hb hg)
    clear ho hb hg hat
    refine hK.out _ _ (HG.out.1) (fun hHeld => ?_)
    clear hK K
    refine norm_ (a' := ?_) ?_ ?_
    rotate_left
    ·show Act.put _ (some 55) _ = _
     simp only [PUz]
     rfl
    refine PYz 9 56 (bz 12 1023) rfl rfl (by kernel_rfl) ?_
    refine PYz 10 57 (bz 12 2047) rfl rfl (by kernel_rfl) ?_
    refine last_ (i := 11) (N := none) (bz 12 4095) rfl rfl (by kernel_rfl) (by decide) (fun K hK => ?_)
    have q2 := HG.out.1
    have q3 := HG.out.2
    refine skip_ (w1 := ?_) (by rfl) rfl ?_ ?_
    rotate_left
    ·go_simp
     rfl
    refine hK.out _ _ ?_
    clear hK K
    refine done_ (by kernel_rfl) ?_
    
    clear HG
    generalize wA.setCell ⟨g, 2, none⟩ (.slice A6 (l.length + 1) c6) = w7 at HS6 ⊢
    obtain ⟨z0, z1, z2, z3, y1, y2, y3⟩ := HS6.out.cells
    have H := HF.out
    simp only [Qr.fin] at H
    cases r7 with
    | true =>
     rw [if_pos rfl] at H
     obtain ⟨rfl, rfl, rfl, rfl⟩ := SQz H
     go_wp2
     first | go_end0 | ((try simp only [Exit.inBlock, Exit.then]); refine bodyPost_ret (results_none rfl _ _ _) rfl ?_)
     exact ⟨rfl, _, _, Qr.ST.bad HS6.out true⟩
    | false =>
     rw [if_neg (by simp)] at H
     obtain ⟨⟨cF, bF⟩, hnF0, H⟩ := Option.bind_eq_some_iff.1 H
     have hnF := Aside0.mk hnF0
     clear hnF0
     dsimp only at H
     by_cases cf : cF = 41
     ·rw [if_pos cf] at H
      have cfb : (cF != 41) = false := by rw [cf]; rfl
      clear cf
      obtain ⟨rfl, rfl, rfl, rfl⟩ := SQz H
      go_wp2_with (go_at_call 113; refine (Qr.next.calls g r5 r6 ⟨A6, c6, (l ++ [(⟨r1, r2, r3, r4⟩ : S64)]).length⟩ false cF r5 r6 bF w0 _ HS6.out.1 HS6.out.2.2 (Qr.nx_next hnF.out _)).mono ?_; rintro e wF ⟨rfl, hi, hb, hk⟩; have HSF := Aside0.mk (Qr.ST.next HS6.out hi hb hk); clear hi hb hk; clear z0 z1 z2 z3 y1 y2 y3; obtain ⟨z0, z1, z2, z3, y1, y2, y3⟩ := HSF.out.cells)
      first | go_end0 | ((try simp only [Exit.inBlock, Exit.then]); refine bodyPost_ret (results_none rfl _ _ _) rfl ?_)
      exact ⟨rfl, _, _, Qr.ST.at_ HSF.out _⟩
     rw [if_neg cf] at H
     have cfb : (cF != 41) = true := bne_iff_ne.mpr cf
     clear cf
     obtain ⟨rfl, rfl, rfl, rfl⟩ := SQz H
     go_wp2_with (go_at_call 113; refine (Qr.next.calls g r5 r6 ⟨A6, c6, (l ++ [(⟨r1, r2, r3, r4⟩ : S64)]).length⟩ false cF r5 r6 bF w0 _ HS6.out.1 HS6.out.2.2 (Qr.nx_next hnF.out _)).mono ?_; rintro e wF ⟨rfl, hi, hb, hk⟩; have HSF := Aside0.mk (Qr.ST.next HS6.out hi hb hk); clear hi hb hk; clear z0 z1 z2 z3 y1 y2 y3; obtain ⟨z0, z1, z2, z3, y1, y2, y3⟩ := HSF.out.cells)
     first | go_end0 | ((try simp only [Exit.inBlock, Exit.then]); refine bodyPost_ret (results_none rfl _ _ _) rfl ?_)
     exact ⟨rfl, _, _, Qr.ST.bad HSF.out true⟩
   rw [if_neg ho] at H
   obtain ⟨⟨rt, ra, rl, rb⟩, hlp0, H⟩ := Option.bind_eq_some_iff.1 H
   dsimp only at H hlp0
   have HLP := Aside0.mk hlp0
   have HF := Aside0.mk H
   clear H hlp0
   have hob : (op == 0) = false := beq_false_of_ne ho
   clear ho
   go_upto_region 15 with (at_builtin; refine Kd.R_append k64 (w0 := w0) w0.heap.size rfl (.tmp 62) (.tmp 65) 25 64 (.agg #[(.int .i64 0), (.string ⟨#[]⟩), (.string ⟨#[]⟩), (.int .i64 0)]) 48 rfl Tryz.underlying25 info64 rfl (by decide) (by omega) (.slice A l.length c) l (⟨op, ⟨#[]⟩, ⟨#[]⟩, 0⟩ : S64) [.int .i64 op, .string ⟨#[]⟩, .string ⟨#[]⟩, .int .i64 0] (fun _ => True) (fun _ => False) rfl rfl (k64_mkM _ _ _ _) (fun _ h => h.elim) (fun _ _ => trivial) ?aO ?aB ?aS ?aL ?_; (case aO => exact HS3.out.2.1); (case aB => exact HS3.out.2.2); (case aS => exact below_size HS3.out.2.2); (case aL => have := hlen.out; omega); intro vA wA ho hb hg hat; obtain ⟨A6, c6, e6⟩ := Kd.R_slice ho; subst e6; rw [show (l ++ [(⟨op, ⟨#[]⟩, ⟨#[]⟩, 0⟩ : S64)]).length = l.length + 1 from by simp] at ho; have HG := Aside0.mk (Qr.ST.grown_cell HS3.out hg); have HS5 := Aside0.mk (Qr.ST.f HS3.out ho hb hg); clear ho hb hg hat; have q2 := HG.out.1; have q3 := HG.out.2)
   clear HG q2 q3 HS3 hob z0 z1 z2 z3 y1 y2 y3
   generalize wA.setCell ⟨g, 2, none⟩ (.slice A6 (l.length + 1) c6) = w5 at HS5 ⊢
   obtain ⟨z0, z1, z2, z3, y1, y2, y3⟩ := HS5.out.cells
   go_wp2
   have HS6 := Aside0.mk (Qr.ST.at_ HS5.out (wrap64 (wrap64 (a + 1) + 1)))
   clear z0 z1 z2 z3 y1 y2 y3 HS5
   generalize w5.setCell ⟨g, 1, none⟩ (.int .i64 (wrap64 (wrap64 (a + 1) + 1))) = w6 at HS6 ⊢
   obtain ⟨z0, z1, z2, z3, y1, y2, y3⟩ := HS6.out.cells
   clear z0 z1 z2 z3 y1 y2 y3
   go_loopg [] k (fun kq w' => ∃ (t1 : ByteArray) (a1 : Int) (l1 : List S64) (b3 : Bool) (A1 : Option Addr) (c1 : Nat), Aside0 (Qr.lpo (fun t a l b => Qr.one k t a l b (wrap64 (deep + 1))) l.length kq t1 a1 l1 b3 = some (rt, ra, rl, rb)) ∧ Aside0 (Qr.ST w0 w' g t1 a1 l1 b3 A1 c1))
   case atStart => exact ⟨t, _, _, b2, A6, c6, HLP, HS6⟩
   case round =>
    clear HLP HS6
    obtain ⟨t1, a1, l1, b3, A1, c1, HLP, HS1⟩ := hrel
    obtain ⟨m, rfl⟩ : ∃ m, gk = m + 1 := by
     cases gk with
     | zero => have := HLP.out; simp [Qr.lpo] at this
     | succ m => exact ⟨m, rfl⟩
    have H := HLP.out
    simp only [Qr.lpo] at H
    obtain ⟨z0, z1, z2, z3, y1, y2, y3⟩ := HS1.out.cells
    cases b3 with
    | true =>
     rw [if_pos rfl] at H
     obtain ⟨rfl, rfl, rfl, rfl⟩ := SQz H
     clear HLP
     have HT := HF.out
     simp only [Qr.fin, ↓reduceIte, Option.some.injEq, Prod.mk.injEq] at HT
     obtain ⟨rfl, rfl, rfl, rfl⟩ := HT
     go_wp2
     first | go_end0 | ((try simp only [Exit.inBlock, Exit.then]); refine bodyPost_ret (results_none rfl _ _ _) rfl ?_)
     exact ⟨rfl, _, _, Qr.ST.bad HS1.out true⟩
    | false =>
     rw [if_neg (by simp)] at H
     obtain ⟨⟨c4, b4⟩, hn40, H⟩ := Option.bind_eq_some_iff.1 H
     have hn4 := Aside0.mk hn40
     dsimp only at H
     clear hn40 HLP
     by_cases h4 : c4 = 40
     case neg =>
      rw [if_neg h4] at H
      have h4b : (c4 == 40) = false := beq_false_of_ne h4
      clear h4
      obtain ⟨rfl, rfl, rfl, rfl⟩ := SQz H
      go_upto_region 19 with (go_at_call 113; refine (Qr.next.calls g t1 a1 ⟨A1, c1, l1.length⟩ false c4 t1 a1 b4 w0 _ HS1.out.1 HS1.out.2.2 (Qr.nx_next hn4.out _)).mono ?_; rintro e w8 ⟨rfl, hi, hb, hk⟩; have HS8 := Aside0.mk (Qr.ST.next HS1.out hi hb hk); clear hi hb hk; clear z0 z1 z2 z3 y1 y2 y3; obtain ⟨z0, z1, z2, z3, y1, y2, y3⟩ := HS8.out.cells)
      have H := HF.out
      simp only [Qr.fin] at H
      cases b4 with
      | true =>
       rw [if_pos rfl] at H
       obtain ⟨rfl, rfl, rfl, rfl⟩ := SQz H
       go_wp2
       first | go_end0 | ((try simp only [Exit.inBlock, Exit.then]); refine bodyPost_ret (results_none rfl _ _ _) rfl ?_)
       exact ⟨rfl, _, _, Qr.ST.bad HS8.out true⟩
      | false =>
       rw [if_neg (by simp)] at H
       obtain ⟨⟨cF, bF⟩, hnF0, H⟩ := Option.bind_eq_some_iff.1 H
       have hnF := Aside0.mk hnF0
       clear hnF0
       dsimp only at H
       by_cases cf : cF = 41
       ·rw [if_pos cf] at H
        have cfb : (cF != 41) = false := by rw [cf]; rfl
        clear cf
        obtain ⟨rfl, rfl, rfl, rfl⟩ := SQz H
        go_wp2_with (go_at_call 113; refine (Qr.next.calls g t1 a1 ⟨A1, c1, l1.length⟩ false cF t1 a1 bF w0 _ HS8.out.1 HS8.out.2.2 (Qr.nx_next hnF.out _)).mono ?_; rintro e wF ⟨rfl, hi, hb, hk⟩; have HSF := Aside0.mk (Qr.ST.next HS8.out hi hb hk); clear hi hb hk; clear z0 z1 z2 z3 y1 y2 y3; obtain ⟨z0, z1, z2, z3, y1, y2, y3⟩ := HSF.out.cells)
        first | go_end0 | ((try simp only [Exit.inBlock, Exit.then]); refine bodyPost_ret (results_none rfl _ _ _) rfl ?_)
        exact ⟨rfl, _, _, Qr.ST.at_ HSF.out _⟩
       rw [if_neg cf] at H
       have cfb : (cF != 41) = true := bne_iff_ne.mpr cf
       clear cf
       obtain ⟨rfl, rfl, rfl, rfl⟩ := SQz H
       go_wp2_with (go_at_call 113; refine (Qr.next.calls g t1 a1 ⟨A1, c1, l1.length⟩ false cF t1 a1 bF w0 _ HS8.out.1 HS8.out.2.2 (Qr.nx_next hnF.out _)).mono ?_; rintro e wF ⟨rfl, hi, hb, hk⟩; have HSF := Aside0.mk (Qr.ST.next HS8.out hi hb hk); clear hi hb hk; clear z0 z1 z2 z3 y1 y2 y3; obtain ⟨z0, z1, z2, z3, y1, y2, y3⟩ := HSF.out.cells)
       first | go_end0 | ((try simp only [Exit.inBlock, Exit.then]); refine bodyPost_ret (results_none rfl _ _ _) rfl ?_)
       exact ⟨rfl, _, _, Qr.ST.bad HSF.out true⟩
     rw [if_pos h4] at H
     have h4b : (c4 == 40) = true := beq_iff_eq.mpr h4
     clear h4
     obtain ⟨⟨t5, a5, l5, b5⟩, hg0, H⟩ := Option.bind_eq_some_iff.1 H
     have HGG := Aside0.mk hg0
     dsimp only at H
     clear hg0
     by_cases hil : l.length < l5.length
     case neg => rw [if_neg hil] at H; cases H
     rw [if_pos hil] at H
     have HIL := Aside0.mk hil
     have HN := Aside0.mk H
     clear H hil
     go_upto_region 18 with (first | (go_at_call 113; refine (Qr.next.calls g t1 a1 ⟨A1, c1, l1.length⟩ false c4 t1 a1 b4 w0 _ HS1.out.1 HS1.out.2.2 (Qr.nx_next hn4.out _)).mono ?_; rintro e w8 ⟨rfl, hi, hb, hk⟩; have HS8 := Aside0.mk (Qr.ST.next HS1.out hi hb hk); clear hi hb hk; clear z0 z1 z2 z3 y1 y2 y3; obtain ⟨z0, z1, z2, z3, y1, y2, y3⟩ := HS8.out.cells) | (go_at_call 79; refine (ih g t1 a1 l1 b4 (wrap64 (deep + 1)) t5 a5 l5 b5 w0 _ A1 c1 HS8.out HGG.out).mono ?_; rintro e w9 ⟨rfl, A9, c9, hs9⟩; have HS9 := Aside0.mk hs9; clear hs9))
     have HSe := Aside0.mk (Qr.ST.drew HS9.out)
     clear HS9 HS8 hn4 h4b z0 z1 z2 z3 y1 y2 y3
     obtain ⟨go, eA, hce, hfe, hse⟩ := Qr.ST.elem HSe.out l.length HIL.out
     subst eA
     have HE := Aside0.mk (And.intro hce hfe)
     have HST := Aside0.mk (hse (wrap64 ((l5.getD l.length z64).f3 + 1)))
     clear hce hfe hse
     have i0 : (0 : Int) ≤ (l.length : Int) := by omega
     have i1 : (l.length : Int) < (l5.length : Int) := by have := HIL.out; omega
     replace i0 := eq_true i0
     replace i1 := eq_true i1
     refine start_ (n := 17) (S := fun w' => w'.cell? ⟨g, 2, none⟩ = some (.slice (some ⟨go, 0, none⟩) l5.length c9) ∧ w'.cell? ⟨go, l.length * 4 + 3, none⟩ = some (.int .i64 (l5.getD l.length z64).f3)) (ds := [16]) (bz 17 0) (by kernel_rfl) rfl (by kernel_rfl) ⟨HSe.out.cells.2.2.1, HE.out.1⟩ (fun hHeld => ?_)
     generalize w9.drew = w10 at HSe HE HST hHeld ⊢
     refine PYz 0 91 (bz 17 1) rfl rfl (by kernel_rfl) ?_
     refine PYz 1 92 (bz 17 3) rfl rfl (by kernel_rfl) ?_
     refine PYz 2 93 (bz 17 7) rfl rfl (by kernel_rfl) ?_
     refine PYz 4 95 (bz 17 23) rfl rfl (by kernel_rfl) ?_
     refine PYz 5 96 (bz 17 55) rfl rfl (by kernel_rfl) ?_
     refine PYz 6 97 (bz 17 119) rfl rfl (by kernel_rfl) ?_
     refine PYz 7 98 (bz 17 247) rfl rfl (by kernel_rfl) ?_
     refine PYz 9 100 (bz 17 759) rfl rfl (by kernel_rfl) ?_
     refine PTz 3 94 (bz 17 767) rfl rfl (by kernel_rfl) hHeld ?_
     refine PTz 8 99 (bz 17 1023) rfl rfl (by kernel_rfl) hHeld ?_
     refine PYz 10 101 (bz 17 2047) rfl rfl (by kernel_rfl) ?_
     refine PYz 11 102 (bz 17 4095) rfl rfl (by kernel_rfl) ?_
     refine PTz 12 103 (bz 17 8191) rfl rfl (by kernel_rfl) hHeld ?_
     refine PYz 13 104 (bz 17 16383) rfl rfl (by kernel_rfl) ?_
     refine PYz 14 105 (bz 17 32767) rfl rfl (by kernel_rfl) ?_
     refine PYz 15 106 (bz 17 65535) rfl rfl (by kernel_rfl) ?_
     refine last_ (i := 16) (N := none) (bz 17 131071) rfl rfl (by kernel_rfl) (by decide) (fun K hK => ?_)
     have q2 := hHeld.2
     have q3 := HE.out.2
     refine skip_ (w1 := ?_) (by rfl) rfl ?_ ?_
     rotate_left
     ·go_simp
      rfl
     refine hK.out _ _ ?_
     clear hK K
     refine done_ (by kernel_rfl) ?_
     
     try go_wp2
     go_roundg m
     case measure => omega
     case rel => exact ⟨t5, a5, _, b5, _, c9, HN, HST⟩
theorem Qr.ST.new (w : World) (t : ByteArray) : Qr.ST w (w.alloc (.cells #[.string t, .int .i64 0, .slice none 0 0, .bool false] 101)) w.heap.size t 0 [] false none 0 :=
 ⟨Qr.IsX.new w w none 0 t 0 ⟨none, 0, 0⟩ false (Below.refl _ _) ⟨rfl, rfl⟩, Kd.R_nil _ _ _ _ _, below_alloc (Below.refl _ _) _⟩
theorem Qr.ST.plain {w0 W W1 : World} {g : Nat} {t : ByteArray} {a : Int} {l : List S64} {b : Bool} {A : Option Addr} {c : Nat} (h : Qr.ST w0 W g t a l b A c) (hb : Below W.heap.size W W1) : Qr.ST w0 W1 g t a l b A c :=
 ⟨Qr.IsX.below h.1 hb, Kd.R_below h.2.1 hb, below_step h.2.2 hb⟩
theorem Qr.ST.reads {w0 W : World} {g : Nat} {t : ByteArray} {a : Int} {l : List S64} {b : Bool} {A : Option Addr} {c : Nat} (h : Qr.ST w0 W g t a l b A c) : l.length ≤ c ∧ Kd.C k64 W A l.length l := (Kd.R_reads' h.2.1).2
def Qr.f (k : Nat) (t : ByteArray) : Option (List S64 × Bool) := (Qr.one k t 0 [] false 1).bind fun r => if r.2.2.2 = true then some (r.2.2.1, false) else (Gz.f k r.2.2.1).bind fun x => some (r.2.2.1, x.toList == t.toList)
theorem Qr.mono : ∀ a0 k, LeO (Qr.f k a0) (Qr.f (k + 1) a0) := fun a0 k => LeO.bind (Qr.one_mono _ _ _ _ _ _) (fun _ => LeO.ite (LeO.refl _) (LeO.bind (Gz.mono _ _) (fun _ => LeO.refl _)))
set_option maxRecDepth 100000 in
set_option maxHeartbeats 8000000 in
theorem Qr.calls (k : Nat) (a0 : ByteArray) (r1 : List S64) (r2 : Bool) (w : World) (h : Qr.f k a0 = some (r1, r2)) :
  Calls Tryz.prog 42 #[.string a0] w fun e w' => ∃ v0_ : Value, e = .returned (.tuple #[v0_, .bool r2]) ∧ Kd.R k64 64 w' w.heap.size (fun _ => True) v0_ r1 ∧ Below w.heap.size w w' := by
 have hu101 := Tryz.underlying101
 unfold Qr.f at h
 obtain ⟨⟨t1, a1, l1, b1⟩, h1, h⟩ := Option.bind_eq_some_iff.1 h
 have H1 := Aside0.mk h1
 dsimp only at h
 have H := Aside0.mk h
 clear h h1
 have HS0 := Aside0.mk (Qr.ST.new w a0)
 go_enter Tryz.func42, Tryz.ntmps42
 go_upto_region 2 with fail
 obtain ⟨g, hg⟩ : ∃ g, g = w.heap.size := ⟨_, rfl⟩
 rw [← hg] at HS0 ⊢
 clear hg
 generalize w.alloc (.cells #[.string a0, .int .i64 0, .slice none 0 0, .bool false] 101) = w1 at HS0 ⊢
 go_upto_region 3 with (go_at_call 79; refine (Qr.one.calls k g a0 0 [] false 1 t1 a1 l1 b1 w w1 none 0 HS0.out H1.out).mono ?_; rintro e w2 ⟨rfl, A, c, hs⟩; have HS := Aside0.mk hs; clear hs)
 clear HS0 H1
 replace H := H.out
 cases b1 with
 | true =>
  rw [if_pos rfl] at H
  obtain ⟨rfl, rfl⟩ := Prod.mk.inj (Option.some.inj H)
  have HSd := Aside0.mk (Qr.ST.drew HS.out)
  clear HS
  refine start_ (n := 20) (S := fun w' => w'.cell? ⟨g, 2, none⟩ = some (.slice A l1.length c) ∧ w'.cell? ⟨g, 3, none⟩ = some (.bool true)) (ds := []) (bz 20 0) (by kernel_rfl) rfl (by kernel_rfl) ⟨HSd.out.cells.2.2.1, HSd.out.cells.2.2.2.1⟩ (fun hHeld => ?_)
  generalize w2.drew = w3 at HSd hHeld ⊢
  refine PYz 0 10 (bz 20 1) rfl rfl (by kernel_rfl) ?_
  refine PYz 1 11 (bz 20 3) rfl rfl (by kernel_rfl) ?_
  refine PYz 2 12 (bz 20 7) rfl rfl (by kernel_rfl) ?_
  refine PYz 4 14 (bz 20 23) rfl rfl (by kernel_rfl) ?_
  refine PYz 5 15 (bz 20 55) rfl rfl (by kernel_rfl) ?_
  refine PYz 6 16 (bz 20 119) rfl rfl (by kernel_rfl) ?_
  refine PTz 3 13 (bz 20 127) rfl rfl (by kernel_rfl) hHeld ?_
  refine PTz 7 17 (bz 20 255) rfl rfl (by kernel_rfl) hHeld ?_
  refine PYz 8 18 (bz 20 511) rfl rfl (by kernel_rfl) ?_
  refine PYz 9 19 (bz 20 1023) rfl rfl (by kernel_rfl) ?_
  refine pure_ (i := 10) (N := some 20) (v := undef) (a' := ?_) (bz 20 2047) rfl rfl (by kernel_rfl) (fun _ _ _ h => h) (Or.inr ⟨by rfl, rfl⟩) ?_ ?_
  rotate_left
  ·simp only [PUz]
   rfl
  refine pure_ (i := 11) (N := some 21) (v := undef) (a' := ?_) (bz 20 4095) rfl rfl (by kernel_rfl) (fun _ _ _ h => h) (Or.inr ⟨by rfl, rfl⟩) ?_ ?_
  rotate_left
  ·simp only [PUz]
   rfl
  refine pure_ (i := 12) (N := some 22) (v := undef) (a' := ?_) (bz 20 8191) rfl rfl (by kernel_rfl) (fun _ _ _ h => h) (Or.inr ⟨by rfl, rfl⟩) ?_ ?_
  rotate_left
  ·simp only [PUz]
   rfl
  refine pure_ (i := 13) (N := some 23) (v := undef) (a' := ?_) (bz 20 16383) rfl rfl (by kernel_rfl) (fun _ _ _ h => h) (Or.inr ⟨by rfl, rfl⟩) ?_ ?_
  rotate_left
  ·simp only [PUz]
   rfl
  refine pure_ (i := 14) (N := some 24) (v := undef) (a' := ?_) (bz 20 32767) rfl rfl (by kernel_rfl) (fun _ _ _ h => h) (Or.inr ⟨by rfl, rfl⟩) ?_ ?_
  rotate_left
  ·simp only [PUz]
   rfl
  refine pure_ (i := 15) (N := some 25) (v := undef) (a' := ?_) (bz 20 65535) rfl rfl (by kernel_rfl) (fun _ _ _ h => h) (Or.inr ⟨by rfl, rfl⟩) ?_ ?_
  rotate_left
  ·simp only [PUz]
   rfl
  refine pure_ (i := 16) (N := some 26) (v := undef) (a' := ?_) (bz 20 131071) rfl rfl (by kernel_rfl) (fun _ _ _ h => h) (Or.inr ⟨by rfl, rfl⟩) ?_ ?_
  rotate_left
  ·simp only [PUz]
   rfl
  refine PYz 17 27 (bz 20 262143) rfl rfl (by kernel_rfl) ?_
  refine PYz 18 2 (bz 20 524287) rfl rfl (by kernel_rfl) ?_
  refine PYz 19 3 (bz 20 1048575) rfl rfl (by kernel_rfl) ?_
  refine done_ (by kernel_rfl) ?_
  
  try go_wp2
  go_ret2
  exact ⟨_, rfl, HSd.out.2.1, HSd.out.2.2⟩
 | false =>
  rw [if_neg (by simp)] at H
  obtain ⟨x, hx, H⟩ := Option.bind_eq_some_iff.1 H
  have HX := Aside0.mk hx
  clear hx
  obtain ⟨rfl, rfl⟩ := Prod.mk.inj (Option.some.inj H)
  have HSd := Aside0.mk (Qr.ST.drew HS.out)
  clear HS H
  refine start_ (n := 20) (S := fun w' => w'.cell? ⟨g, 2, none⟩ = some (.slice A l1.length c) ∧ w'.cell? ⟨g, 3, none⟩ = some (.bool false)) (ds := []) (bz 20 0) (by kernel_rfl) rfl (by kernel_rfl) ⟨HSd.out.cells.2.2.1, HSd.out.cells.2.2.2.1⟩ (fun hHeld => ?_)
  generalize w2.drew = w3 at HSd hHeld ⊢
  refine PYz 0 10 (bz 20 1) rfl rfl (by kernel_rfl) ?_
  refine PYz 1 11 (bz 20 3) rfl rfl (by kernel_rfl) ?_
  refine PYz 2 12 (bz 20 7) rfl rfl (by kernel_rfl) ?_
  refine PYz 4 14 (bz 20 23) rfl rfl (by kernel_rfl) ?_
  refine PYz 5 15 (bz 20 55) rfl rfl (by kernel_rfl) ?_
  refine PYz 6 16 (bz 20 119) rfl rfl (by kernel_rfl) ?_
  refine PTz 3 13 (bz 20 127) rfl rfl (by kernel_rfl) hHeld ?_
  refine PTz 7 17 (bz 20 255) rfl rfl (by kernel_rfl) hHeld ?_
  refine PYz 8 18 (bz 20 511) rfl rfl (by kernel_rfl) ?_
  refine PYz 9 19 (bz 20 1023) rfl rfl (by kernel_rfl) ?_
  refine PYz 10 20 (bz 20 2047) rfl rfl (by kernel_rfl) ?_
  refine PYz 11 21 (bz 20 4095) rfl rfl (by kernel_rfl) ?_
  refine PYz 12 22 (bz 20 8191) rfl rfl (by kernel_rfl) ?_
  refine PYz 15 25 (bz 20 40959) rfl rfl (by kernel_rfl) ?_
  refine PTz 13 23 (bz 20 49151) rfl rfl (by kernel_rfl) hHeld ?_
  refine one_ (i := 14) (N := some 24) (bz 20 65535) rfl rfl (by kernel_rfl) (by decide) (fun K hK => ?_)
  refine goes_ Tryz.func8 (by kernel_rfl) rfl #[.slice A l1.length c] (by rfl) rfl rfl (by simp only [List.map_toArray, List.map_cons, List.map_nil]; rfl) ?_
  with_reducible refine (Gz.calls k A c l1 x _ (Qr.ST.reads HSd.out).2 (Qr.ST.reads HSd.out).1 HX.out).mono ?_
  rintro e w4 ⟨rfl, hb⟩
  refine ⟨_, rfl, ?_⟩
  have HSe := Aside0.mk (Qr.ST.plain HSd.out hb)
  clear hb HSd
  refine hK.out _ _ ⟨HSe.out.cells.2.2.1, HSe.out.cells.2.2.2.1⟩ (fun hHeld => ?_)
  clear hK K
  refine norm_ (a' := ?_) ?_ ?_
  rotate_left
  ·show Act.put _ (some 24) _ = _
   simp only [PUz]
   rfl
  refine PYz 16 26 (bz 20 131071) rfl rfl (by kernel_rfl) ?_
  refine PYz 17 27 (bz 20 262143) rfl rfl (by kernel_rfl) ?_
  refine PYz 18 2 (bz 20 524287) rfl rfl (by kernel_rfl) ?_
  refine PYz 19 3 (bz 20 1048575) rfl rfl (by kernel_rfl) ?_
  refine done_ (by kernel_rfl) ?_
  
  try go_wp2
  go_ret2
  exact ⟨_, rfl, HSe.out.2.1, HSe.out.2.2⟩
end Go.Proofs.YtmkeigielncpjaaGreatDoor.PFnFilter
