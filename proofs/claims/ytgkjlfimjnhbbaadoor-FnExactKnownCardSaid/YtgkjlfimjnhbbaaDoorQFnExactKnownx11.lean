-- Laid by this session's own program out of the translation; Lean checks it.
import Derived.Test.YtgkjlfimjnhbbaaDoorQFnExactKnownx0
import Derived.Test.YtgkjlfimjnhbbaaDoorQFnExactKnownx1
import Derived.Test.YtgkjlfimjnhbbaaDoorQFnExactKnownx5
import Derived.Test.YtgkjlfimjnhbbaaDoorQFnExactKnownx9
import Derived.Test.YtgkjlfimjnhbbaaDoorQFnExactKnownx10
namespace Go.Proofs.YtgkjlfimjnhbbaaDoor.PFnExactKnown
open Go.RowKit Go.Proofs.YtgkjlfimjnhbbaaDoorW.PrintWords Go.Proofs.YtgkjlfimjnhbbaaDoorW.PrintLast Go.Proofs.YtgkjlfimjnhbbaaDoorW.PrintMore
attribute [local go_sem] max2_int min2_int max_two min_two max_three min_three max_four min_four   -- for this text's walks alone
set_option linter.unusedVariables false
set_option linter.unusedSimpArgs false
def laws_heldStringS.l0 : Nat → List ByteArray → Int → Int → Option (Int)
 | 0, _, _, _ => none
 | k + 1, x0, x1, x5 => if x5 < (x0.length : Int) then (if 0 ≤ x5 then ((laws_markText.f k x1).bind fun t276 => (if (rdOf ByteArray.empty x0 x5).toList = t276.toList then (laws_heldStringS.l0 k x0 (wrap64 (x1 + 1)) (wrap64 (x5 + 1))) else (some (-1)))) else (none)) else (some x1)
def laws_heldStringS.f (k : Nat) (l0 : List ByteArray) (a1 : Int) : Option (Int) := laws_heldStringS.l0 k l0 a1 0
theorem laws_heldStringS.mono_l : ∀ k, (∀ y0 y1 y2, LeO (laws_heldStringS.l0 k y0 y1 y2) (laws_heldStringS.l0 (k + 1) y0 y1 y2))
 | 0 => fun _ _ _ r h => by simp [laws_heldStringS.l0] at h
 | k + 1 => by
  have ih0 := laws_heldStringS.mono_l k
  ·intro y0 y1 y2
   unfold laws_heldStringS.l0
   repeat' first
   | (with_reducible exact ih0 _ _ _)
   | (with_reducible exact laws_markText.mono _ _)
   | (with_reducible exact LeO.refl _)
   | (with_reducible exact LeO.none _)
   | (with_reducible refine LeO.ite ?_ ?_)
   | (with_reducible refine LeO.bind ?_ (fun _ => ?_))
   | exact ih0 _ _ _
   | exact laws_markText.mono _ _
   | exact LeO.none _
   | refine LeO.ite ?_ ?_
   | refine LeO.bind ?_ (fun _ => ?_)
theorem laws_heldStringS.mono : ∀ a0 a1 k, LeO (laws_heldStringS.f k a0 a1) (laws_heldStringS.f (k + 1) a0 a1) := by
 intro a0 a1 k
 have ih0 := laws_heldStringS.mono_l k
 unfold laws_heldStringS.f
 repeat' first
   | (with_reducible exact ih0 _ _ _)
   | (with_reducible exact laws_markText.mono _ _)
   | (with_reducible exact LeO.refl _)
   | (with_reducible exact LeO.none _)
   | (with_reducible refine LeO.ite ?_ ?_)
   | (with_reducible refine LeO.bind ?_ (fun _ => ?_))
   | exact ih0 _ _ _
   | exact laws_markText.mono _ _
   | exact LeO.none _
   | refine LeO.ite ?_ ?_
   | refine LeO.bind ?_ (fun _ => ?_)
set_option maxHeartbeats 8000000 in
set_option maxRecDepth 100000 in
theorem laws_heldStringS.calls (k : Nat) (A0 : Option Addr) (c0 : Nat) (l0 : List ByteArray) (a1 : Int) (r : Int) (w : World) (hr0 : Kd.C Kd.string w A0 l0.length l0) (hc0 : l0.length ≤ c0) (h : laws_heldStringS.f k l0 a1 = some r) :
  Calls Tryd.prog 29 #[.slice A0 l0.length c0, .int .i64 a1] w fun e w' => e = .returned (.int .i64 r) ∧ Below w.heap.size w w' := by
 have HR0 := Aside0.mk hr0
 have HC0 := Aside0.mk hc0
 clear hr0 hc0
 have HB := Aside0.mk (Below.refl w.heap.size w)
 have H : (laws_heldStringS.l0 k l0 a1 0) = some r := h
 clear h
 have H' := Aside0.mk H
 clear H
 go_enter Tryd.func29, Tryd.ntmps29
 go_wp2
 go_loopg [1, 5] k (fun kq v1 v5 w' => ∃ (x1_1 : Int) (x5_1 : Int), v1 = .int .i64 x1_1 ∧ v5 = .int .i64 x5_1 ∧ Aside0 (laws_heldStringS.l0 kq l0 x1_1 x5_1 = some r) ∧ Aside0 (kq ≤ k) ∧ Aside0 (Below w.heap.size w w'))
 case atStart => exact ⟨(a1), (0), EZc, EZc, H', ⟨Nat.le_refl _⟩, ⟨HBa⟩⟩
 case round =>
  clear H'
  try clear c2
  try clear p2
  obtain ⟨x1_1, x5_1, rfl, rfl, HA, HK1, HB⟩ := hrel
  cases gk with
  | zero => exact absurd HA.out (by simp [laws_heldStringS.l0])
  | succ k1 =>
   have H := HA.out
   clear HA
   simp only [laws_heldStringS.l0] at H
   by_cases c3 : x5_1 < (l0.length : Int)
   ·rw [if_pos c3] at H
    have c3b0 : decide (x5_1 < (l0.length : Int)) = true := decide_eq_true c3
    clear c3
    by_cases c4 : 0 ≤ x5_1
    ·rw [if_pos c4] at H
     have c4b0 : decide (0 ≤ x5_1) = true := decide_eq_true c4
     clear c4
     replace H := Option.bind_eq_some_iff.mp H
     obtain ⟨t276, A50, H⟩ := H
     replace H : (if (rdOf ByteArray.empty l0 x5_1).toList = t276.toList then (laws_heldStringS.l0 k1 l0 (wrap64 (x1_1 + 1)) (wrap64 (x5_1 + 1))) else (some (-1))) = some r := H
     have A5 := Aside0.mk A50
     clear A50
     by_cases c6 : (rdOf ByteArray.empty l0 x5_1).toList = t276.toList
     ·rw [if_pos c6] at H
      have c6b0 : ((rdOf ByteArray.empty l0 x5_1).toList == t276.toList) = true := beq_iff_eq.mpr c6
      have c6b1 : ((rdOf ByteArray.empty l0 x5_1).toList != t276.toList) = false := bne_eq_false_iff_eq.mpr c6
      clear c6
      have H' := Aside0.mk H
      clear H
      try go_wp2
      have n0_ := Aside0.mk (below_drew1 HB.out)
      clear HB
      have HB := n0_
      clear n0_
      have p275 : 0 ≤ (x5_1 : Int) := ODz
      have q275 : x5_1 < (l0.length : Int) := ODz
      obtain ⟨ad275, e275, hx275_0⟩ := Kd.at_string HR0.out x5_1 p275 q275
      have hw275_0 := hx275_0
      cases e275
      replace hx275_0 := (HB.out.cell (World.block_lt_of_cell? w _ hx275_0)).trans hx275_0
      replace p275 := eq_true p275
      replace q275 := eq_true q275
      refine start_ (n := 7) (S := fun w' => w'.cell? (ad275.add (x5_1).toNat) = some (.string (rdOf ByteArray.empty l0 x5_1))) (ds := []) #[false, false, false, false, false, false, false] (by kernel_rfl) rfl rfl (((HB.out.cell (World.block_lt_of_cell? w _ hw275_0)).trans hw275_0)) (fun hHeld => ?_)
      generalize wr.drew = w7 at HB hx275_0 hHeld ⊢
      refine pure_ (i := 0) (N := some 12) (v := ?_) (a' := ?_) #[true, false, false, false, false, false, false] rfl rfl (by kernel_rfl) (fun _ _ _ h => h) (Or.inl ⟨by rfl, ?_⟩) ?_ ?_
      rotate_left
      ·intro w'
       go_simp
       with_reducible rfl
      rotate_left
      ·simp only [Act.put, List.setIfInBounds_toArray, List.set_cons_zero, List.set_cons_succ, i64_w, i32_w]
       rfl
      refine pure_ (i := 1) (N := some 13) (v := ?_) (a' := ?_) #[true, true, false, false, false, false, false] rfl rfl (by kernel_rfl) (fun _ _ _ h => h) (Or.inl ⟨by rfl, ?_⟩) ?_ ?_
      rotate_left
      ·intro w'
       go_simp
       with_reducible rfl
      rotate_left
      ·simp only [Act.put, List.setIfInBounds_toArray, List.set_cons_zero, List.set_cons_succ, i64_w, i32_w]
       rfl
      refine pure_ (i := 2) (N := some 14) (v := ?_) (a' := ?_) #[true, true, true, false, false, false, false] rfl rfl (by kernel_rfl) (fun _ _ _ h => h) (Or.inl ⟨by rfl, ?_⟩) ?_ ?_
      rotate_left
      ·intro w'
       go_simp
       with_reducible rfl
      rotate_left
      ·simp only [Act.put, List.setIfInBounds_toArray, List.set_cons_zero, List.set_cons_succ, i64_w, i32_w]
       rfl
      refine pure_ (i := 4) (N := some 16) (v := ?_) (a' := ?_) #[true, true, true, false, true, false, false] rfl rfl (by kernel_rfl) (fun _ _ _ h => h) (Or.inl ⟨by rfl, ?_⟩) ?_ ?_
      rotate_left
      ·intro w'
       go_simp
       with_reducible rfl
      rotate_left
      ·simp only [Act.put, List.setIfInBounds_toArray, List.set_cons_zero, List.set_cons_succ, i64_w, i32_w]
       rfl
      refine take_ (i := 3) (N := some 15) (v := ?_) (a' := ?_) #[true, true, true, true, true, false, false] rfl rfl (by kernel_rfl) (fun _ _ _ h => h) (Or.inl ⟨by rfl, ?_⟩) hHeld ?_ ?_
      rotate_left
      ·intro w' s0
       go_simp
       with_reducible rfl
      rotate_left
      ·simp only [Act.put, List.setIfInBounds_toArray, List.set_cons_zero, List.set_cons_succ, i64_w, i32_w]
       rfl
      refine one_ (i := 5) (N := some 17) #[true, true, true, true, true, true, false] rfl rfl (by kernel_rfl) (by decide) (fun K hK => ?_)
      refine goes_ Tryd.func62 (by kernel_rfl) rfl #[.int .i64 x1_1] (by rfl) rfl rfl MPz ?_
      with_reducible refine (laws_markText.calls k1 x1_1 t276 _ A5.out).mono ?_
      rintro e w8 ⟨rfl, hb⟩
      refine ⟨_, rfl, ?_⟩
      have n0_ := Aside0.mk (below_step HBa hb)
      clear HB
      have HB := n0_
      clear n0_
      (try clear hb)
      (try clear hb2)
      (try clear hk)
      (try clear hi)
      refine hK.out _ _ (((HB.out.cell (World.block_lt_of_cell? w _ hw275_0)).trans hw275_0)) (fun hHeld => ?_)
      clear hK K
      refine norm_ (a' := ?_) ?_ ?_
      rotate_left
      ·show Act.put _ (some 17) _ = _
       simp only [Act.put, List.setIfInBounds_toArray, List.set_cons_zero, List.set_cons_succ, i64_w, i32_w]
       rfl
      refine pure_ (i := 6) (N := some 18) (v := ?_) (a' := ?_) #[true, true, true, true, true, true, true] rfl rfl (by kernel_rfl) (fun _ _ _ h => h) (Or.inl ⟨by rfl, ?_⟩) ?_ ?_
      rotate_left
      ·intro w'
       go_simp
       with_reducible rfl
      rotate_left
      ·simp only [Act.put, List.setIfInBounds_toArray, List.set_cons_zero, List.set_cons_succ, i64_w, i32_w]
       rfl
      refine done_ (by kernel_rfl) ?_
      try go_wp2
      go_roundg k1
      case measure => have := HK1.out; omega
      case rel => exact ⟨(wrap64 (x1_1 + 1)), (wrap64 (x5_1 + 1)), EZc, EZc, H', ⟨by have := HK1.out; omega⟩, ⟨HBa⟩⟩
     ·rw [if_neg c6] at H
      have c6b0 : ((rdOf ByteArray.empty l0 x5_1).toList == t276.toList) = false := beq_eq_false_iff_ne.mpr c6
      have c6b1 : ((rdOf ByteArray.empty l0 x5_1).toList != t276.toList) = true := bne_iff_ne.mpr c6
      obtain rfl := Option.some.inj H
      try go_wp2
      have n0_ := Aside0.mk (below_drew1 HB.out)
      clear HB
      have HB := n0_
      clear n0_
      have p275 : 0 ≤ (x5_1 : Int) := ODz
      have q275 : x5_1 < (l0.length : Int) := ODz
      obtain ⟨ad275, e275, hx275_0⟩ := Kd.at_string HR0.out x5_1 p275 q275
      have hw275_0 := hx275_0
      cases e275
      replace hx275_0 := (HB.out.cell (World.block_lt_of_cell? w _ hx275_0)).trans hx275_0
      replace p275 := eq_true p275
      replace q275 := eq_true q275
      refine start_ (n := 7) (S := fun w' => w'.cell? (ad275.add (x5_1).toNat) = some (.string (rdOf ByteArray.empty l0 x5_1))) (ds := []) #[false, false, false, false, false, false, false] (by kernel_rfl) rfl rfl (((HB.out.cell (World.block_lt_of_cell? w _ hw275_0)).trans hw275_0)) (fun hHeld => ?_)
      generalize wr.drew = w9 at HB hx275_0 hHeld ⊢
      refine pure_ (i := 0) (N := some 12) (v := ?_) (a' := ?_) #[true, false, false, false, false, false, false] rfl rfl (by kernel_rfl) (fun _ _ _ h => h) (Or.inl ⟨by rfl, ?_⟩) ?_ ?_
      rotate_left
      ·intro w'
       go_simp
       with_reducible rfl
      rotate_left
      ·simp only [Act.put, List.setIfInBounds_toArray, List.set_cons_zero, List.set_cons_succ, i64_w, i32_w]
       rfl
      refine pure_ (i := 1) (N := some 13) (v := ?_) (a' := ?_) #[true, true, false, false, false, false, false] rfl rfl (by kernel_rfl) (fun _ _ _ h => h) (Or.inl ⟨by rfl, ?_⟩) ?_ ?_
      rotate_left
      ·intro w'
       go_simp
       with_reducible rfl
      rotate_left
      ·simp only [Act.put, List.setIfInBounds_toArray, List.set_cons_zero, List.set_cons_succ, i64_w, i32_w]
       rfl
      refine pure_ (i := 2) (N := some 14) (v := ?_) (a' := ?_) #[true, true, true, false, false, false, false] rfl rfl (by kernel_rfl) (fun _ _ _ h => h) (Or.inl ⟨by rfl, ?_⟩) ?_ ?_
      rotate_left
      ·intro w'
       go_simp
       with_reducible rfl
      rotate_left
      ·simp only [Act.put, List.setIfInBounds_toArray, List.set_cons_zero, List.set_cons_succ, i64_w, i32_w]
       rfl
      refine pure_ (i := 4) (N := some 16) (v := ?_) (a' := ?_) #[true, true, true, false, true, false, false] rfl rfl (by kernel_rfl) (fun _ _ _ h => h) (Or.inl ⟨by rfl, ?_⟩) ?_ ?_
      rotate_left
      ·intro w'
       go_simp
       with_reducible rfl
      rotate_left
      ·simp only [Act.put, List.setIfInBounds_toArray, List.set_cons_zero, List.set_cons_succ, i64_w, i32_w]
       rfl
      refine take_ (i := 3) (N := some 15) (v := ?_) (a' := ?_) #[true, true, true, true, true, false, false] rfl rfl (by kernel_rfl) (fun _ _ _ h => h) (Or.inl ⟨by rfl, ?_⟩) hHeld ?_ ?_
      rotate_left
      ·intro w' s0
       go_simp
       with_reducible rfl
      rotate_left
      ·simp only [Act.put, List.setIfInBounds_toArray, List.set_cons_zero, List.set_cons_succ, i64_w, i32_w]
       rfl
      refine one_ (i := 5) (N := some 17) #[true, true, true, true, true, true, false] rfl rfl (by kernel_rfl) (by decide) (fun K hK => ?_)
      refine goes_ Tryd.func62 (by kernel_rfl) rfl #[.int .i64 x1_1] (by rfl) rfl rfl MPz ?_
      with_reducible refine (laws_markText.calls k1 x1_1 t276 _ A5.out).mono ?_
      rintro e w10 ⟨rfl, hb⟩
      refine ⟨_, rfl, ?_⟩
      have n0_ := Aside0.mk (below_step HBa hb)
      clear HB
      have HB := n0_
      clear n0_
      (try clear hb)
      (try clear hb2)
      (try clear hk)
      (try clear hi)
      refine hK.out _ _ (((HB.out.cell (World.block_lt_of_cell? w _ hw275_0)).trans hw275_0)) (fun hHeld => ?_)
      clear hK K
      refine norm_ (a' := ?_) ?_ ?_
      rotate_left
      ·show Act.put _ (some 17) _ = _
       simp only [Act.put, List.setIfInBounds_toArray, List.set_cons_zero, List.set_cons_succ, i64_w, i32_w]
       rfl
      refine pure_ (i := 6) (N := some 18) (v := ?_) (a' := ?_) #[true, true, true, true, true, true, true] rfl rfl (by kernel_rfl) (fun _ _ _ h => h) (Or.inl ⟨by rfl, ?_⟩) ?_ ?_
      rotate_left
      ·intro w'
       go_simp
       with_reducible rfl
      rotate_left
      ·simp only [Act.put, List.setIfInBounds_toArray, List.set_cons_zero, List.set_cons_succ, i64_w, i32_w]
       rfl
      refine done_ (by kernel_rfl) ?_
      try go_wp2
      go_ret
      exact ⟨EZa, HBa⟩
    ·rw [if_neg c4] at H
     exact absurd H (by simp)
   ·rw [if_neg c3] at H
    have c3b0 : decide (x5_1 < (l0.length : Int)) = false := decide_eq_false c3
    clear c3
    obtain rfl := Option.some.inj H
    go_wp2
    go_ret
    exact ⟨EZa, HBa⟩
def laws_FnExactKnown.Sh (lo hi : Nat) (w w' : World) : Prop := w'.os = w.os ∧ w'.tape = w.tape ∧ w'.output = w.output ∧ w.heap.size ≤ w'.heap.size ∧ (∀ b, b < w.heap.size → (b < lo ∨ hi ≤ b) → w'.heap[b]? = w.heap[b]?) ∧
 ∀ (b : Nat) (cur : Array Value) (e : TypeId), lo ≤ b → b < hi → w.heap[b]? = some (.cells cur e (0, 0)) → ∃ cur' : Array Value, w'.heap[b]? = some (.cells cur' e (0, 0)) ∧ ∀ j : Nat, cur'[j]? = cur[j]? ∨ ((∃ s, cur[j]? = some (.string s)) ∧ ∃ s', cur'[j]? = some (.string s'))
theorem laws_FnExactKnown.Sh_refl (lo hi : Nat) (w : World) : laws_FnExactKnown.Sh lo hi w w := ⟨rfl, rfl, rfl, Nat.le_refl _, fun _ _ _ => rfl, fun b cur e _ _ h => ⟨cur, h, fun _ => .inl rfl⟩⟩
theorem laws_FnExactKnown.Sh_below {lo hi : Nat} {w w1 w2 : World} (h : laws_FnExactKnown.Sh lo hi w w1) (hb : Below w1.heap.size w1 w2) : laws_FnExactKnown.Sh lo hi w w2 := by
 obtain ⟨h1, h2, h3, h4, h5, h6⟩ := h
 refine ⟨hb.os.trans h1, hb.tape.trans h2, hb.output.trans h3, Nat.le_trans h4 hb.size, fun b hlt ho => (hb.block b (by omega)).trans (h5 b hlt ho), fun b cur e hlo hhi hc => ?_⟩
 obtain ⟨cur', hc', hj⟩ := h6 b cur e hlo hhi hc
 exact ⟨cur', (hb.block b (blk_lt hc')).trans hc', hj⟩
theorem laws_FnExactKnown.Sh_set {lo hi : Nat} {w w1 : World} (h : laws_FnExactKnown.Sh lo hi w w1) {g j : Nat} {cur : Array Value} {e : TypeId} {s t : ByteArray} (hlo : lo ≤ g) (hhi : g < hi) (hc : w.heap[g]? = some (.cells cur e (0, 0))) (hs : cur[j]? = some (.string s)) : laws_FnExactKnown.Sh lo hi w (w1.setCell ⟨g, j, none⟩ (.string t)) := by
 obtain ⟨h1, h2, h3, h4, h5, h6⟩ := h
 refine ⟨h1, h2, h3, by simpa [World.setCell] using h4, fun b hlt ho => (Below.heap_setCell w1 ⟨g, j, none⟩ _ b (by rintro rfl; (try dsimp only at ho); omega)).trans (h5 b hlt ho), fun b cur2 e2 hlo2 hhi2 hc2 => ?_⟩
 obtain ⟨cur', hc', hj⟩ := h6 b cur2 e2 hlo2 hhi2 hc2
 by_cases hbg : b = g
 ·subst hbg
  rw [hc] at hc2
  cases hc2
  refine ⟨cur'.setIfInBounds j (.string t), blk_set hc' j _, fun q => ?_⟩
  rw [Array.getElem?_setIfInBounds]
  by_cases hq : j = q
  ·subst hq
   right
   refine ⟨⟨s, hs⟩, t, ?_⟩
   have hlt : j < cur'.size := by
    rcases hj j with e1 | ⟨_, s', e1⟩
    ·rw [hs] at e1; exact (Array.getElem?_eq_some_iff.1 e1).1
    ·exact (Array.getElem?_eq_some_iff.1 e1).1
   rw [if_pos rfl, if_pos hlt]
  ·rw [if_neg hq]; exact hj q
 ·exact ⟨cur', blk_far hc' (p := ⟨g, j, none⟩) hbg _, hj⟩
theorem laws_FnExactKnown.Sh_str {lo hi : Nat} {w w1 : World} (h : laws_FnExactKnown.Sh lo hi w w1) {g j : Nat} {cur : Array Value} {e : TypeId} {s : ByteArray} (hlo : lo ≤ g) (hhi : g < hi) (hc : w.heap[g]? = some (.cells cur e (0, 0))) (hs : cur[j]? = some (.string s)) : ∃ s', w1.cell? ⟨g, j, none⟩ = some (.string s') ∧ w1.frozen? ⟨g, j, none⟩ = false := by
 obtain ⟨cur', hc', hj⟩ := h.2.2.2.2.2 g cur e hlo hhi hc
 rcases hj j with e1 | ⟨_, s', e1⟩
 ·exact ⟨s, (blk_cell hc' j).trans (e1.trans hs), blk_frozen hc' j⟩
 ·exact ⟨s', (blk_cell hc' j).trans e1, blk_frozen hc' j⟩
theorem laws_FnExactKnown.Sh_same {lo hi : Nat} {w w1 : World} (h : laws_FnExactKnown.Sh lo hi w w1) {g j : Nat} {cur : Array Value} {e : TypeId} {A : Option Addr} {n c : Nat} (hlo : lo ≤ g) (hhi : g < hi) (hc : w.heap[g]? = some (.cells cur e (0, 0))) (hs : cur[j]? = some (.slice A n c)) : w1.cell? ⟨g, j, none⟩ = some (.slice A n c) := by
 obtain ⟨cur', hc', hj⟩ := h.2.2.2.2.2 g cur e hlo hhi hc
 rcases hj j with e1 | ⟨⟨s, e1⟩, _⟩
 ·exact (blk_cell hc' j).trans (e1.trans hs)
 ·rw [hs] at e1; cases e1
theorem laws_FnExactKnown.Sh_under {lo hi B : Nat} {w w1 : World} (h : laws_FnExactKnown.Sh lo hi w w1) (hB : B ≤ lo) (hw : B ≤ w.heap.size) : Below B w w1 := ⟨h.1, h.2.1, h.2.2.1, h.2.2.2.1, fun b hb => h.2.2.2.2.1 b (by omega) (.inl (by omega))⟩
def laws_FnExactKnown.SlOK (lo hi : Nat) (w : World) (u : Value) (n : Nat) : Prop := n ≤ 9223372036854775807 ∧ ∃ A c, u = .slice A n c ∧ (0 < n → ∃ g, A = some ⟨g, 0, none⟩ ∧ lo ≤ g ∧ g < hi ∧ ∃ cur : Array Value, w.heap[g]? = some (.cells cur 9 (0, 0)) ∧ ∀ j, j < n → ∃ s, cur[j]? = some (.string s))
theorem laws_FnExactKnown.SlOK_of {lo hi : Nat} {w : World} {ok : Nat → Prop} {u : Value} {xs : List ByteArray} (h : Kd.R Kd.string 9 w lo ok u xs) (hhi : w.heap.size ≤ hi) : laws_FnExactKnown.SlOK lo hi w u xs.length := by
 obtain ⟨A, c, rfl⟩ := Kd.R_slice h
 have hm := (Kd.R_reads' h).2.2.2.1
 refine ⟨hm, A, c, rfl, fun hp => ?_⟩
 obtain ⟨g, cap, e, hb, hl, _⟩ := Kd.R_form h hp
 have ho := Kd.own_of_R h
 injection e with e1 e2 e3
 subst e1
 rcases ho.2 with ⟨e4, _⟩ | ⟨g', cap', cur, e4, _, hc, _, _, _, ht⟩
 ·cases e4
 ·injection e4 with e5
  injection e5 with e5
  injection e5 with e5
  subst e5
  refine ⟨g, rfl, hb, by omega, cur, hc, fun j hj => ?_⟩
  have h1 : (cur.toList.take (xs.length * 1))[j]? = (encs Value.string xs)[j]? := by rw [ht]
  rw [List.getElem?_take, if_pos (by omega), Array.getElem?_toList] at h1
  exact ⟨xs[j], by rw [h1]; simp [encs, List.getElem?_eq_getElem hj]⟩
def laws_FnExactKnown.mS (k : Nat) : Nat → Int → Option Int
 | 0, a => some a
 | n + 1, a => (laws_markText.f k a).bind fun _ => laws_FnExactKnown.mS k n (wrap64 (a + 1))
theorem laws_FnExactKnown.mono_mS (k : Nat) : ∀ (n : Nat) (a : Int), LeO (laws_FnExactKnown.mS k n a) (laws_FnExactKnown.mS (k + 1) n a)
 | 0, _ => LeO.refl _
 | n + 1, a => LeO.bind (laws_markText.mono _ _) (fun _ => laws_FnExactKnown.mono_mS k n _)
set_option maxHeartbeats 8000000 in
set_option maxRecDepth 100000 in
theorem laws_FnExactKnown.markS (k lo hi : Nat) (u : Value) (n : Nat) (a r : Int) (w w1 : World) (hu : laws_FnExactKnown.SlOK lo hi w u n) (hs : laws_FnExactKnown.Sh lo hi w w1) (h : laws_FnExactKnown.mS k n a = some r) :
  Calls Tryd.prog 28 #[u, .int .i64 a] w1 fun e w' => e = .returned (.int .i64 r) ∧ laws_FnExactKnown.Sh lo hi w w' := by
 obtain ⟨hm, A, c, rfl, hu⟩ := hu
 have HM := Aside0.mk hm
 have HU := Aside0.mk hu
 have HS := Aside0.mk hs
 have H' := Aside0.mk h
 clear hm hu hs h
 go_enter Tryd.func28, Tryd.ntmps28
 go_wp2
 go_loopg [1, 5] n (fun kq v1 v5 w' => ∃ (j : Nat) (b : Int), v5 = .int .i64 (j : Int) ∧ v1 = .int .i64 b ∧ Aside0 (laws_FnExactKnown.mS k (n - j) b = some r) ∧ Aside0 (j ≤ n) ∧ Aside0 (n - j ≤ kq) ∧ Aside0 (laws_FnExactKnown.Sh lo hi w w'))
 case atStart => exact ⟨0, a, rfl, rfl, H', ⟨Nat.zero_le _⟩, ⟨by omega⟩, HS⟩
 case round =>
  clear H' HS
  obtain ⟨j, b, rfl, rfl, HA, HJ, HK, HS⟩ := hrel
  by_cases c1 : (j : Int) < (n : Int)
  ·have c1b0 : decide ((j : Int) < (n : Int)) = true := decide_eq_true c1
   have c1b1 : decide (j < n) = true := decide_eq_true (by omega)
   have hj : j < n := by omega
   obtain ⟨g, rfl, hlo, hhi, cur, hcur, hstr⟩ := HU.out (by omega)
   obtain ⟨s, hsj⟩ := hstr j hj
   have H := HA.out
   rw [show n - j = (n - (j + 1)) + 1 by omega] at H
   simp only [laws_FnExactKnown.mS] at H
   obtain ⟨t, At0, H⟩ := Option.bind_eq_some_iff.1 H
   have At := Aside0.mk At0
   have HN := Aside0.mk H
   have HX := Aside0.mk (And.intro hlo (And.intro hhi (And.intro hcur hsj)))
   have HJ2 := Aside0.mk hj
   clear At0 H HA hlo hhi hcur hsj hstr hj
   have p1 : 0 ≤ (j : Int) := by omega
   have c1i := eq_true c1
   clear c1
   go_wp2_with (go_at_call 62; (with_reducible refine (laws_markText.calls k b t _ At.out).mono ?_); rintro e w5 ⟨rfl, hb⟩; have n0_ := Aside0.mk (laws_FnExactKnown.Sh_below HS.out hb); clear HS; have HS := n0_; clear n0_ hb; obtain ⟨s5, hx5, hf5⟩ := laws_FnExactKnown.Sh_str HS.out HX.out.1 HX.out.2.1 HX.out.2.2.1 HX.out.2.2.2)
   go_roundg (n - (j + 1))
   case measure => have := HK.out; have := HJ2.out; omega
   case rel => exact ⟨j + 1, _, by have := HJ2.out; have := HM.out; first | rfl | go_num | (congr 1; unfold wrap64; omega), rfl, HN, ⟨HJ2.out⟩, ⟨Nat.le_refl _⟩, ⟨laws_FnExactKnown.Sh_set HS.out HX.out.1 HX.out.2.1 HX.out.2.2.1 HX.out.2.2.2⟩⟩
  ·have c1b0 : decide ((j : Int) < (n : Int)) = false := decide_eq_false c1
   have c1b1 : decide (j < n) = false := decide_eq_false (by omega)
   have H := HA.out
   rw [show n - j = 0 by omega] at H
   simp only [laws_FnExactKnown.mS] at H
   obtain rfl := Option.some.inj H
   clear c1
   go_wp2
   go_ret
   exact ⟨rfl, HS.out⟩
def laws_FnExactKnown.ClsOK (lo hi : Nat) (w : World) (v : Value) (l : List (S62)) : Prop := l.length ≤ 9223372036854775807 ∧ ∃ A c, v = .slice A l.length c ∧ (0 < l.length → ∃ g, A = some ⟨g, 0, none⟩ ∧ lo ≤ g ∧ g < hi ∧ ∃ cur : Array Value, w.heap[g]? = some (.cells cur 62 (0, 0)) ∧
 ∀ (j : Nat) (x : S62), l[j]? = some x → ∃ s u1 u2 u3, cur[j * 4]? = some (.string s) ∧ cur[j * 4 + 1]? = some u1 ∧ cur[j * 4 + 2]? = some u2 ∧ cur[j * 4 + 3]? = some u3 ∧ laws_FnExactKnown.SlOK lo hi w u1 x.f1.length ∧ laws_FnExactKnown.SlOK lo hi w u2 x.f2.length ∧ laws_FnExactKnown.SlOK lo hi w u3 x.f3.length)
theorem laws_FnExactKnown.ClsOK_of {lo hi : Nat} {w : World} {ok : Nat → Prop} {v : Value} {l : List (S62)} (h : Kd.R k62 62 w lo ok v l) (hhi : w.heap.size ≤ hi) : laws_FnExactKnown.ClsOK lo hi w v l := by
 obtain ⟨A, c, rfl⟩ := Kd.R_slice h
 have hm := (Kd.R_reads' h).2.2.2.1
 refine ⟨hm, A, c, rfl, fun hp => ?_⟩
 obtain ⟨g, cap, e, hb, hl, _⟩ := Kd.R_form h hp
 injection e with e1 e2 e3
 subst e1
 obtain ⟨_, inner, ho, hr⟩ := h
 rcases ho.2 with ⟨e4, _⟩ | ⟨g', cap', cur, e4, _, hc, _, _, _, ht⟩
 ·cases e4
 ·injection e4 with e5
  injection e5 with e5
  injection e5 with e5
  subst e5
  refine ⟨g, rfl, hb, by omega, cur, hc, fun j x hx => ?_⟩
  have hjl : j < l.length := (List.getElem?_eq_some_iff.1 hx).1
  have hM := hr.2 j x hx
  obtain ⟨v1, v2, v3, e6, g1, g2, g3⟩ := k62_openM hM
  have hcell : ∀ (q : Nat) (z : Value), q < 4 → ([Value.string x.f0, v1, v2, v3] : List Value)[q]? = some z → cur[j * 4 + q]? = some z := fun q z hq hz => by
   have h2 : ((inner.drop (j * 4)).take 4)[q]? = some z := by
    have e7 : (inner.drop (j * 4)).take 4 = [Value.string x.f0, v1, v2, v3] := e6
    rw [e7]; exact hz
   rw [List.getElem?_take, if_pos hq, List.getElem?_drop, ← ht, List.getElem?_take, if_pos (by show j * 4 + q < l.length * 4; omega), Array.getElem?_toList] at h2
   exact h2
  exact ⟨x.f0, v1, v2, v3, hcell 0 _ (by omega) rfl, hcell 1 _ (by omega) rfl, hcell 2 _ (by omega) rfl, hcell 3 _ (by omega) rfl, laws_FnExactKnown.SlOK_of g1 hhi, laws_FnExactKnown.SlOK_of g2 hhi, laws_FnExactKnown.SlOK_of g3 hhi⟩
def laws_FnExactKnown.mC (k : Nat) : List (S62) → Int → Option Int
 | [], a => some a
 | x :: xs, a => (laws_markText.f k a).bind fun _ => (laws_FnExactKnown.mS k x.f1.length (wrap64 (a + 1))).bind fun b => (laws_FnExactKnown.mS k x.f2.length b).bind fun b => (laws_FnExactKnown.mS k x.f3.length b).bind fun b => laws_FnExactKnown.mC k xs b
theorem laws_FnExactKnown.mono_mC (k : Nat) : ∀ (l : List (S62)) (a : Int), LeO (laws_FnExactKnown.mC k l a) (laws_FnExactKnown.mC (k + 1) l a)
 | [], _ => LeO.refl _
 | x :: xs, a => LeO.bind (laws_markText.mono _ _) (fun _ => LeO.bind (laws_FnExactKnown.mono_mS k _ _) (fun _ => LeO.bind (laws_FnExactKnown.mono_mS k _ _) (fun _ => LeO.bind (laws_FnExactKnown.mono_mS k _ _) (fun _ => laws_FnExactKnown.mono_mC k xs _))))
set_option maxHeartbeats 8000000 in
set_option maxRecDepth 100000 in
theorem laws_FnExactKnown.markC (k lo hi : Nat) (v : Value) (l : List (S62)) (a r : Int) (w : World) (hu : laws_FnExactKnown.ClsOK lo hi w v l) (h : laws_FnExactKnown.mC k l a = some r) :
  Calls Tryd.prog 27 #[v, .int .i64 a] w fun e w' => e = .returned (.int .i64 r) ∧ laws_FnExactKnown.Sh lo hi w w' := by
 have hu62 := Tryd.underlying62
 obtain ⟨hm, A, c, rfl, hu⟩ := hu
 have HM := Aside0.mk hm
 have HU := Aside0.mk hu
 have HS := Aside0.mk (laws_FnExactKnown.Sh_refl lo hi w)
 have H' := Aside0.mk h
 clear hm hu h
 go_enter Tryd.func27, Tryd.ntmps27
 go_wp2
 go_loopg [1, 5] l.length (fun kq v1 v5 w' => ∃ (j : Nat) (b : Int), v5 = .int .i64 (j : Int) ∧ v1 = .int .i64 b ∧ Aside0 (laws_FnExactKnown.mC k (l.drop j) b = some r) ∧ Aside0 (j ≤ l.length) ∧ Aside0 (l.length - j ≤ kq) ∧ Aside0 (laws_FnExactKnown.Sh lo hi w w'))
 case atStart => exact ⟨0, a, rfl, rfl, H', ⟨Nat.zero_le _⟩, ⟨by omega⟩, HS⟩
 case round =>
  clear H' HS
  obtain ⟨j, b, rfl, rfl, HA, HJ, HK, HS⟩ := hrel
  by_cases c1 : (j : Int) < (l.length : Int)
  ·have c1b0 : decide ((j : Int) < (l.length : Int)) = true := decide_eq_true c1
   have c1b1 : decide (j < l.length) = true := decide_eq_true (by omega)
   have hj : j < l.length := by omega
   obtain ⟨g, rfl, hlo, hhi, cur, hcur, hall⟩ := HU.out (by omega)
   obtain ⟨s, u1, u2, u3, hs0, hs1, hs2, hs3, g1, g2, g3⟩ := hall j _ (List.getElem?_eq_getElem hj)
   obtain ⟨q1_, A1, n1, e1, q2_⟩ := id g1
   obtain ⟨q3_, A2, n2, e2, q4_⟩ := id g2
   obtain ⟨q5_, A3, n3, e3, q6_⟩ := id g3
   subst e1 e2 e3
   clear q1_ q2_ q3_ q4_ q5_ q6_
   have H := HA.out
   rw [List.drop_eq_getElem_cons hj] at H
   simp only [laws_FnExactKnown.mC] at H
   obtain ⟨t, At0, Ha⟩ := Option.bind_eq_some_iff.1 H
   obtain ⟨b1, B10, Hb⟩ := Option.bind_eq_some_iff.1 Ha
   obtain ⟨b2, B20, Hc⟩ := Option.bind_eq_some_iff.1 Hb
   obtain ⟨b3, B30, Hd⟩ := Option.bind_eq_some_iff.1 Hc
   clear H Ha Hb Hc
   generalize l[j] = x at At0 B10 B20 B30 Hd g1 g2 g3 hs1 hs2 hs3
   have At := Aside0.mk At0
   have B1 := Aside0.mk B10
   have B2 := Aside0.mk B20
   have B3 := Aside0.mk B30
   have HN := Aside0.mk Hd
   have HX := Aside0.mk (And.intro hlo (And.intro hhi (And.intro hcur hs0)))
   have X1 := Aside0.mk hs1
   have X2 := Aside0.mk hs2
   have X3 := Aside0.mk hs3
   have G1 := Aside0.mk g1
   have G2 := Aside0.mk g2
   have G3 := Aside0.mk g3
   have HJ2 := Aside0.mk hj
   clear At0 B10 B20 B30 Hd HA hlo hhi hcur hall hs0 hs1 hs2 hs3 g1 g2 g3 hj
   have p1 : 0 ≤ (j : Int) := by omega
   have c1i := eq_true c1
   clear c1
   go_upto_region 5 with (go_at_call 62; (with_reducible refine (laws_markText.calls k b t _ At.out).mono ?_); rintro e w5 ⟨rfl, hb⟩; have n0_ := Aside0.mk (laws_FnExactKnown.Sh_below HS.out hb); clear HS; have HS := n0_; clear n0_ hb; obtain ⟨s5, hx5, hf5⟩ := laws_FnExactKnown.Sh_str HS.out HX.out.1 HX.out.2.1 HX.out.2.2.1 HX.out.2.2.2)
   have n0_ : Aside0 (laws_FnExactKnown.Sh lo hi w (w5.setCell ⟨g, j * 4, none⟩ (.string t))) := ⟨laws_FnExactKnown.Sh_set HS.out HX.out.1 HX.out.2.1 HX.out.2.2.1 HX.out.2.2.2⟩
   clear HS hx5 hf5
   generalize w5.setCell ⟨g, j * 4, none⟩ (.string t) = w6 at n0_ ⊢
   have HS := n0_
   clear n0_
   have hy1 : w6.cell? ⟨g, j * 4 + 1, none⟩ = some (.slice A1 x.f1.length n1) := laws_FnExactKnown.Sh_same HS.out HX.out.1 HX.out.2.1 HX.out.2.2.1 X1.out
   go_upto_region 7 with (go_at_call 28; (with_reducible refine (laws_FnExactKnown.markS k lo hi _ x.f1.length _ b1 w _ G1.out HS.out B1.out).mono ?_); rintro e w7 ⟨rfl, hs⟩; have n0_ := Aside0.mk hs; clear HS; have HS := n0_; clear n0_ hs; have hy2 : w7.cell? ⟨g, j * 4 + 2, none⟩ = some (.slice A2 x.f2.length n2) := laws_FnExactKnown.Sh_same HS.out HX.out.1 HX.out.2.1 HX.out.2.2.1 X2.out)
   go_upto_region 8 with (go_at_call 28; (with_reducible refine (laws_FnExactKnown.markS k lo hi _ x.f2.length _ b2 w _ G2.out HS.out B2.out).mono ?_); rintro e w8 ⟨rfl, hs⟩; have n0_ := Aside0.mk hs; clear HS; have HS := n0_; clear n0_ hs; have hy3 : w8.cell? ⟨g, j * 4 + 3, none⟩ = some (.slice A3 x.f3.length n3) := laws_FnExactKnown.Sh_same HS.out HX.out.1 HX.out.2.1 HX.out.2.2.1 X3.out)
   go_wp2_with (go_at_call 28; (with_reducible refine (laws_FnExactKnown.markS k lo hi _ x.f3.length _ b3 w _ G3.out HS.out B3.out).mono ?_); rintro e w9 ⟨rfl, hs⟩; have n0_ := Aside0.mk hs; clear HS; have HS := n0_; clear n0_ hs)
   go_roundg (l.length - (j + 1))
   case measure => have := HK.out; have := HJ2.out; omega
   case rel => exact ⟨j + 1, _, by have := HJ2.out; have := HM.out; first | rfl | go_num | (congr 1; unfold wrap64; omega), rfl, HN, ⟨HJ2.out⟩, ⟨Nat.le_refl _⟩, HS⟩
  ·have c1b0 : decide ((j : Int) < (l.length : Int)) = false := decide_eq_false c1
   have c1b1 : decide (j < l.length) = false := decide_eq_false (by omega)
   have H := HA.out
   rw [List.drop_of_length_le (by omega)] at H
   simp only [laws_FnExactKnown.mC] at H
   obtain rfl := Option.some.inj H
   clear c1
   go_wp2
   go_ret
   exact ⟨rfl, HS.out⟩
theorem laws_FnExactKnown.SlOK_move {lo hi : Nat} {w w1 : World} {u : Value} {n : Nat} (h : laws_FnExactKnown.SlOK lo hi w u n) (hb : ∀ b, b < hi → w1.heap[b]? = w.heap[b]?) : laws_FnExactKnown.SlOK lo hi w1 u n := by
 obtain ⟨hm, A, c, rfl, hu⟩ := h
 refine ⟨hm, A, c, rfl, fun hp => ?_⟩
 obtain ⟨g, e, hlo, hhi, cur, hc, hs⟩ := hu hp
 exact ⟨g, e, hlo, hhi, cur, (hb g hhi).trans hc, hs⟩
theorem laws_FnExactKnown.ClsOK_below {lo hi : Nat} {w w1 : World} {v : Value} {l : List (S62)} (h : laws_FnExactKnown.ClsOK lo hi w v l ∧ hi ≤ w.heap.size) (hb : Below w.heap.size w w1) : laws_FnExactKnown.ClsOK lo hi w1 v l ∧ hi ≤ w1.heap.size := by
 obtain ⟨⟨hm, A, c, rfl, hu⟩, hh⟩ := h
 have hb2 : ∀ b, b < hi → w1.heap[b]? = w.heap[b]? := fun b hlt => hb.block b (by omega)
 refine ⟨⟨hm, A, c, rfl, fun hp => ?_⟩, Nat.le_trans hh hb.size⟩
 obtain ⟨g, e, hlo, hhi, cur, hc, hs⟩ := hu hp
 refine ⟨g, e, hlo, hhi, cur, (hb2 g hhi).trans hc, fun j x hx => ?_⟩
 obtain ⟨s, u1, u2, u3, c0, c1, c2, c3, g1, g2, g3⟩ := hs j x hx
 exact ⟨s, u1, u2, u3, c0, c1, c2, c3, laws_FnExactKnown.SlOK_move g1 hb2, laws_FnExactKnown.SlOK_move g2 hb2, laws_FnExactKnown.SlOK_move g3 hb2⟩
def laws_FnExactKnown.f (k : Nat) (l0 : List (S74)) : Option (Bool) := (laws_szClassS.f k l0 1048576).bind fun t => if t < 0 then some true else
 (laws_toClassS.f k l0).bind fun m => (spec_Known.f k m).bind fun s => (impl_Known.f k m).bind fun g => (laws_eqStringS.f k g s).bind fun e1 => if e1 = true then (laws_eqClassS.f k m m).bind fun e2 => if e2 = true then
 (laws_FnExactKnown.mC k m 1).bind fun kk => if 0 ≤ kk then (laws_markStringS.f k g 1).bind fun mk => (laws_heldStringS.f k mk.2 1).bind fun q => if 0 ≤ q then (if q = mk.1 then some true else none) else none else none else none else none
set_option maxHeartbeats 8000000 in
set_option maxRecDepth 100000 in
theorem laws_FnExactKnown.calls (k : Nat) (A0 : Option Addr) (c0 : Nat) (l0 : List (S74)) (r : Bool) (w : World) (hr0 : Kd.C k74 w A0 l0.length l0) (hc0 : l0.length ≤ c0) (h : laws_FnExactKnown.f k l0 = some r) :
  Calls Tryd.prog 6 #[.slice A0 l0.length c0] w fun e w' => e = .returned (.bool r) ∧ Below w.heap.size w w' := by
 have HR0 := Aside0.mk hr0
 have HC0 := Aside0.mk hc0
 clear hr0 hc0
 have HB := Aside0.mk (Below.refl w.heap.size w)
 unfold laws_FnExactKnown.f at h
 obtain ⟨t, A10, h⟩ := Option.bind_eq_some_iff.1 h
 have A1 := Aside0.mk A10
 clear A10
 by_cases ct : t < 0
 ·rw [if_pos ct] at h
  obtain rfl := Option.some.inj h
  have ctb : decide (t < 0) = true := decide_eq_true ct
  clear ct h
  go_enter Tryd.func6, Tryd.ntmps6
  go_wp2_with (go_at_call 14; (with_reducible refine (laws_szClassS.calls k _ _ l0 1048576 t _ (Kd.C_below HR0.out HB.out) HC0.out A1.out).mono ?_); rintro e w2 ⟨rfl, hb⟩; have n0_ := Aside0.mk (below_step HB.out hb); clear hb HB; have HB := n0_; clear n0_)
  go_ret
  exact ⟨rfl, HB.out⟩
 rw [if_neg ct] at h
 have ctb : decide (t < 0) = false := decide_eq_false ct
 clear ct
 obtain ⟨m, AT0, h⟩ := Option.bind_eq_some_iff.1 h
 have AT := Aside0.mk AT0
 clear AT0
 obtain ⟨s, AS0, h⟩ := Option.bind_eq_some_iff.1 h
 have AS := Aside0.mk AS0
 clear AS0
 obtain ⟨g, AG0, h⟩ := Option.bind_eq_some_iff.1 h
 have AG := Aside0.mk AG0
 clear AG0
 obtain ⟨e1, AE0, h⟩ := Option.bind_eq_some_iff.1 h
 have AE := Aside0.mk AE0
 clear AE0
 by_cases ce1 : e1 = true
 case neg => rw [if_neg ce1] at h; cases h
 subst ce1
 rw [if_pos rfl] at h
 obtain ⟨e2, AC0, h⟩ := Option.bind_eq_some_iff.1 h
 have AC := Aside0.mk AC0
 clear AC0
 by_cases ce2 : e2 = true
 case neg => rw [if_neg ce2] at h; cases h
 subst ce2
 rw [if_pos rfl] at h
 obtain ⟨kk, AM0, h⟩ := Option.bind_eq_some_iff.1 h
 have AM := Aside0.mk AM0
 clear AM0
 by_cases ck : 0 ≤ kk
 case neg => rw [if_neg ck] at h; cases h
 rw [if_pos ck] at h
 obtain ⟨mk, AK00, h⟩ := Option.bind_eq_some_iff.1 h
 have AK0 := Aside0.mk AK00
 clear AK00
 obtain ⟨mk1, mk2⟩ := mk
 have AK := AK0
 clear AK0
 obtain ⟨q, AQ0, h⟩ := Option.bind_eq_some_iff.1 h
 have AQ := Aside0.mk AQ0
 clear AQ0
 by_cases cq : 0 ≤ q
 case neg => rw [if_neg cq] at h; cases h
 rw [if_pos cq] at h
 by_cases ce : q = mk1
 case neg => rw [if_neg ce] at h; cases h
 subst ce
 rw [if_pos rfl] at h
 obtain rfl := Option.some.inj h
 have ckb : decide (kk < 0) = false := decide_eq_false (by omega)
 have cqb : decide (q < 0) = false := decide_eq_false (by omega)
 clear h ck cq
 go_enter Tryd.func6, Tryd.ntmps6
 go_upto_region 6 with (first | (go_at_call 14; (with_reducible refine (laws_szClassS.calls k _ _ l0 1048576 t _ (Kd.C_below HR0.out HB.out) HC0.out A1.out).mono ?_); rintro e w2 ⟨rfl, hb⟩; have n0_ := Aside0.mk (below_step HB.out hb); clear hb HB; have HB := n0_; clear n0_) | (go_at_call 16; (with_reducible refine (laws_toClassS.calls k _ _ l0 m _ (Kd.C_below HR0.out HB.out) HC0.out AT.out).mono ?_); rintro e w3 ⟨v3, rfl, ho, hb⟩; obtain ⟨Ax3, cx3, rfl⟩ := Kd.R_slice (Kd.S_R ho); have HX3 := Aside0.mk (Kd.R_reads' (Kd.S_R ho)); have n0_ := Aside0.mk (below_step HB.out hb); clear hb HB; have HB := n0_; clear n0_; clear ho) | (go_at_call 24; (with_reducible refine (spec_Known.calls k _ _ m s _ HX3.out.2.2 HX3.out.2.1 AS.out).mono ?_); rintro e w4 ⟨v4, rfl, ho, hb⟩; obtain ⟨Aw, cw, rfl⟩ := Kd.R_slice ho; have HW := Aside0.mk (Kd.R_mono (ok' := fun b => b < w4.heap.size) (Kd.R_bound (Kd.R_lower ho (below_size HB.out))) (fun b hk => hk.2.2.1)); have n0_ := Aside0.mk (below_step HB.out hb); clear hb HB; have HB := n0_; clear n0_; clear ho HX3))
 have LB := Aside0.mk (below_size HB.out)
 go_upto_region 7 with (go_at_call 16; (with_reducible refine (laws_toClassS.calls k _ _ l0 m _ (Kd.C_below HR0.out HB.out) HC0.out AT.out).mono ?_); rintro e w5 ⟨v5, rfl, ho, hb⟩; obtain ⟨Ax5, cx5, rfl⟩ := Kd.R_slice (Kd.S_R ho); have HX5 := Aside0.mk (Kd.R_reads' (Kd.S_R ho)); have KX := Aside0.mk (And.intro (laws_FnExactKnown.ClsOK_of (Kd.S_R ho) (Nat.le_refl _)) (Nat.le_refl w5.heap.size)); have LX := Aside0.mk hb.size; have n0_ := Aside0.mk (below_step HB.out hb); have n1_ := Aside0.mk (Kd.R_below HW.out hb); clear hb HB HW; have HB := n0_; have HW := n1_; clear n0_ n1_; clear ho)
 have HXC := Aside0.mk HX5.out.2.2
 have HXc := Aside0.mk HX5.out.2.1
 clear HX5
 go_upto_region 8 with (go_at_call 25; (with_reducible refine (impl_Known.calls k _ _ m g _ HXC.out HXc.out AG.out).mono ?_); rintro e w6 ⟨vg, rfl, ho, hb⟩; obtain ⟨Avg, cvg, rfl⟩ := Kd.R_slice ho; have HG := Aside0.mk (Kd.R_mono (ok' := fun b => w5.heap.size ≤ b) (Kd.R_lower (Kd.R_bound ho) (below_size HB.out)) (fun b hk => hk.2.1)); have n0_ := Aside0.mk (below_step HB.out hb); have n1_ := Aside0.mk (Kd.R_below HW.out hb); have n2_ := Aside0.mk (laws_FnExactKnown.ClsOK_below KX.out hb); have n3_ := Aside0.mk (Kd.C_below HXC.out hb); clear hb HB HW KX HXC; have HB := n0_; have HW := n1_; have KX := n2_; have HXC := n3_; clear n0_ n1_ n2_ n3_; clear ho)
 go_upto_region 10 with (go_at_call 26; (with_reducible refine (laws_eqStringS.calls k _ _ g _ _ s true _ (Kd.R_reads' HG.out).2.2 (Kd.R_reads' HG.out).2.1 (Kd.R_reads' HW.out).2.2 (Kd.R_reads' HW.out).2.1 AE.out).mono ?_); rintro e w7 ⟨rfl, hd⟩; have hb := hd.below; clear hd; have n0_ := Aside0.mk (below_step HB.out hb); have n1_ := Aside0.mk (Kd.R_below HW.out hb); have n2_ := Aside0.mk (laws_FnExactKnown.ClsOK_below KX.out hb); have n3_ := Aside0.mk (Kd.C_below HXC.out hb); have n4_ := Aside0.mk (Kd.R_below HG.out hb); clear hb HB HW KX HXC HG; have HB := n0_; have HW := n1_; have KX := n2_; have HXC := n3_; have HG := n4_; clear n0_ n1_ n2_ n3_ n4_)
 go_upto_region 12 with (first | (go_at_call 16; (with_reducible refine (laws_toClassS.calls k _ _ l0 m _ (Kd.C_below HR0.out HB.out) HC0.out AT.out).mono ?_); rintro e w8 ⟨v8, rfl, ho, hb⟩; obtain ⟨Ax8, cx8, rfl⟩ := Kd.R_slice (Kd.S_R ho); have HX8 := Aside0.mk (Kd.R_reads' (Kd.S_R ho)); have n0_ := Aside0.mk (below_step HB.out hb); have n1_ := Aside0.mk (Kd.R_below HW.out hb); have n2_ := Aside0.mk (laws_FnExactKnown.ClsOK_below KX.out hb); have n3_ := Aside0.mk (Kd.C_below HXC.out hb); have n4_ := Aside0.mk (Kd.R_below HG.out hb); clear hb HB HW KX HXC HG; have HB := n0_; have HW := n1_; have KX := n2_; have HXC := n3_; have HG := n4_; clear n0_ n1_ n2_ n3_ n4_; clear ho) | (go_at_call 18; (with_reducible refine (laws_eqClassS.calls k _ _ m _ _ m true _ HXC.out HXc.out HX8.out.2.2 HX8.out.2.1 AC.out).mono ?_); rintro e w9 ⟨rfl, hb⟩; have n0_ := Aside0.mk (below_step HB.out hb); have n1_ := Aside0.mk (Kd.R_below HW.out hb); have n2_ := Aside0.mk (laws_FnExactKnown.ClsOK_below KX.out hb); have n3_ := Aside0.mk (Kd.C_below HXC.out hb); have n4_ := Aside0.mk (Kd.R_below HG.out hb); clear hb HB HW KX HXC HG; have HB := n0_; have HW := n1_; have KX := n2_; have HXC := n3_; have HG := n4_; clear n0_ n1_ n2_ n3_ n4_; clear HX8))
 go_upto_region 14 with (go_at_call 27; (with_reducible refine (laws_FnExactKnown.markC k w4.heap.size w5.heap.size _ m 1 kk _ KX.out.1 AM.out).mono ?_); rintro e w10 ⟨rfl, hs⟩; have n0_ := Aside0.mk (below_weaken HB.out LB.out (laws_FnExactKnown.Sh_under hs (Nat.le_refl _) (Nat.le_trans LX.out KX.out.2))); have n1_ := Aside0.mk (Kd.R_step HW.out (fun b hok hlt => hs.2.2.2.2.1 b hlt (.inl hok))); have n2_ := Aside0.mk (Kd.R_step HG.out (fun b hok hlt => hs.2.2.2.2.1 b hlt (.inr hok))); clear hs HB HW HG KX HXC; have HB := n0_; have HW := n1_; have HG := n2_; clear n0_ n1_ n2_)
 go_upto_region 16 with (go_at_call 26; (with_reducible refine (laws_eqStringS.calls k _ _ g _ _ s true _ (Kd.R_reads' HG.out).2.2 (Kd.R_reads' HG.out).2.1 (Kd.R_reads' HW.out).2.2 (Kd.R_reads' HW.out).2.1 AE.out).mono ?_); rintro e w11 ⟨rfl, hd⟩; have hb := hd.below; clear hd; have n0_ := Aside0.mk (below_step HB.out hb); have n1_ := Aside0.mk (Kd.R_below HW.out hb); have n2_ := Aside0.mk (Kd.R_below HG.out hb); clear hb HB HW HG; have HB := n0_; have HW := n1_; have HG := n2_; clear n0_ n1_ n2_)
 go_upto_region 18 with (go_at_call 28; (with_reducible refine (laws_markStringS.calls k (fun b => w5.heap.size ≤ b) _ g 1 q mk2 w _ HB.out HG.out AK.out).mono ?_); rintro e w12 ⟨rfl, ho, hb, hk⟩; have n0_ := Aside0.mk hb; have n1_ := Aside0.mk (Kd.R_kept HW.out hk (fun b h1 h2 => by have := LX.out; (try dsimp only at h1 h2); omega)); have n2_ := Aside0.mk (Kd.R_reads' ho); clear ho hb hk HB HW HG; have HB := n0_; have HW := n1_; have HG := n2_; clear n0_ n1_ n2_)
 have HGC := Aside0.mk (show Kd.C Kd.string w12 _ mk2.length mk2 from HG.out.2.2)
 have HGc := Aside0.mk HG.out.2.1
 have HGn := HG.out.1
 have HELD : Aside0 (∀ W : World, Kd.C Kd.string W Avg mk2.length mk2 → Calls Tryd.prog 29 #[.slice Avg g.length cvg, .int .i64 1] W fun e w' => e = .returned (.int .i64 q) ∧ Below W.heap.size W w') := ⟨fun W hW => by have h_ := HGc.out; rw [HGn] at h_ ⊢; exact laws_heldStringS.calls k _ _ mk2 1 q W hW h_ AQ.out⟩
 clear HG HGn
 go_upto_region 20 with (go_at_call 29; (with_reducible refine (HELD.out _ HGC.out).mono ?_); rintro e w13 ⟨rfl, hb⟩; have n0_ := Aside0.mk (below_step HB.out hb); have n1_ := Aside0.mk (Kd.R_below HW.out hb); have n2_ := Aside0.mk (Kd.C_below HGC.out hb); clear hb HB HW HGC; have HB := n0_; have HW := n1_; have HGC := n2_; clear n0_ n1_ n2_)
 go_upto_region 25 with (first | (go_at_call 16; (with_reducible refine (laws_toClassS.calls k _ _ l0 m _ (Kd.C_below HR0.out HB.out) HC0.out AT.out).mono ?_); rintro e w14 ⟨v14, rfl, ho, hb⟩; obtain ⟨Ax14, cx14, rfl⟩ := Kd.R_slice (Kd.S_R ho); have HX14 := Aside0.mk (Kd.R_reads' (Kd.S_R ho)); have n0_ := Aside0.mk (below_step HB.out hb); have n1_ := Aside0.mk (Kd.R_below HW.out hb); have n2_ := Aside0.mk (Kd.C_below HGC.out hb); clear hb HB HW HGC; have HB := n0_; have HW := n1_; have HGC := n2_; clear n0_ n1_ n2_; clear ho) | (go_at_call 25; (with_reducible refine (impl_Known.calls k _ _ m g _ HX14.out.2.2 HX14.out.2.1 AG.out).mono ?_); rintro e w15 ⟨vh, rfl, ho, hb⟩; obtain ⟨Avh, cvh, rfl⟩ := Kd.R_slice ho; have HH := Aside0.mk (Kd.R_lower ho (below_size HB.out)); have n0_ := Aside0.mk (below_step HB.out hb); have n1_ := Aside0.mk (Kd.R_below HW.out hb); have n2_ := Aside0.mk (Kd.C_below HGC.out hb); clear hb HB HW HGC; have HB := n0_; have HW := n1_; have HGC := n2_; clear n0_ n1_ n2_; clear ho))
 go_upto_region 27 with (go_at_call 26; (with_reducible refine (laws_eqStringS.calls k _ _ g _ _ s true _ (Kd.R_reads' HH.out).2.2 (Kd.R_reads' HH.out).2.1 (Kd.R_reads' HW.out).2.2 (Kd.R_reads' HW.out).2.1 AE.out).mono ?_); rintro e w16 ⟨rfl, hd⟩; have hb := hd.below; clear hd; have n0_ := Aside0.mk (below_step HB.out hb); have n1_ := Aside0.mk (Kd.R_below HW.out hb); have n2_ := Aside0.mk (Kd.C_below HGC.out hb); have n3_ := Aside0.mk (Kd.R_below HH.out hb); clear hb HB HW HGC HH; have HB := n0_; have HW := n1_; have HGC := n2_; have HH := n3_; clear n0_ n1_ n2_ n3_)
 go_wp2_with (go_at_call 29; (with_reducible refine (HELD.out _ HGC.out).mono ?_); rintro e w17 ⟨rfl, hb⟩; have n0_ := Aside0.mk (below_step HB.out hb); have n1_ := Aside0.mk (Kd.R_below HW.out hb); have n2_ := Aside0.mk (Kd.C_below HGC.out hb); clear hb HB HW HGC; have HB := n0_; have HW := n1_; have HGC := n2_; clear n0_ n1_ n2_)
 go_ret
 exact ⟨rfl, HB.out⟩
def ok74 (x : S74) : Prop := x.f0.size ≤ 140737488351232 ∧ (x.f1.length * 16 ≤ 140737488351232 ∧ ∀ y_ ∈ x.f1, y_.size ≤ 140737488351232) ∧ (x.f2.length * 16 ≤ 140737488351232 ∧ ∀ y_ ∈ x.f2, y_.size ≤ 140737488351232) ∧ (x.f3.length * 16 ≤ 140737488351232 ∧ ∀ y_ ∈ x.f3, y_.size ≤ 140737488351232)
def laws_FnExactKnown.Pure : Prop := ∀ (l0 : List (S74)), (l0.length * 88 ≤ 140737488351232 ∧ ∀ y_ ∈ l0, ok74 y_) → ∃ k, laws_FnExactKnown.f k l0 = some true
end Go.Proofs.YtgkjlfimjnhbbaaDoor.PFnExactKnown
