-- Laid by this session's own program out of the translation; Lean checks it.
import Derived.Test.YtdlbcamnimdfjaaGreatDoorQFnExactTreeNewx0
import Derived.Test.YtdlbcamnimdfjaaGreatDoorQFnExactTreeNewx1
import Derived.Test.YtdlbcamnimdfjaaGreatDoorQFnExactTreeNewx5
import Derived.Test.YtdlbcamnimdfjaaGreatDoorQFnExactTreeNewx6
import Derived.Test.YtdlbcamnimdfjaaGreatDoorQFnExactTreeNewx10
import Derived.Test.YtdlbcamnimdfjaaGreatDoorQFnExactTreeNewx12
import Derived.Test.YtdlbcamnimdfjaaGreatDoorQFnExactTreeNewx16
namespace Go.Proofs.YtdlbcamnimdfjaaGreatDoor.PFnExactTreeNew
open Go.RowKit Go.Proofs.YtdlbcamnimdfjaaGreatDoorW.PrintWords Go.Proofs.YtdlbcamnimdfjaaGreatDoorW.PrintLast Go.Proofs.YtdlbcamnimdfjaaGreatDoorW.PrintMore
attribute [local go_sem] max2_int min2_int max_two min_two max_three min_three max_four min_four   -- for this text's walks alone
set_option linter.unusedVariables false
set_option linter.unusedSimpArgs false
def laws_FnExactTreeNew.Sh (lo hi : Nat) (w w' : World) : Prop := w'.os = w.os ∧ w'.tape = w.tape ∧ w'.output = w.output ∧ w.heap.size ≤ w'.heap.size ∧ (∀ b, b < w.heap.size → (b < lo ∨ hi ≤ b) → w'.heap[b]? = w.heap[b]?) ∧
 ∀ (b : Nat) (cur : Array Value) (e : TypeId), lo ≤ b → b < hi → w.heap[b]? = some (.cells cur e (0, 0)) → ∃ cur' : Array Value, w'.heap[b]? = some (.cells cur' e (0, 0)) ∧ ∀ j : Nat, cur'[j]? = cur[j]? ∨ ((∃ s, cur[j]? = some (.string s)) ∧ ∃ s', cur'[j]? = some (.string s'))
theorem laws_FnExactTreeNew.Sh_refl (lo hi : Nat) (w : World) : laws_FnExactTreeNew.Sh lo hi w w := ⟨rfl, rfl, rfl, Nat.le_refl _, fun _ _ _ => rfl, fun b cur e _ _ h => ⟨cur, h, fun _ => .inl rfl⟩⟩
theorem laws_FnExactTreeNew.Sh_below {lo hi : Nat} {w w1 w2 : World} (h : laws_FnExactTreeNew.Sh lo hi w w1) (hb : Below w1.heap.size w1 w2) : laws_FnExactTreeNew.Sh lo hi w w2 := by
 obtain ⟨h1, h2, h3, h4, h5, h6⟩ := h
 refine ⟨hb.os.trans h1, hb.tape.trans h2, hb.output.trans h3, Nat.le_trans h4 hb.size, fun b hlt ho => (hb.block b (by omega)).trans (h5 b hlt ho), fun b cur e hlo hhi hc => ?_⟩
 obtain ⟨cur', hc', hj⟩ := h6 b cur e hlo hhi hc
 exact ⟨cur', (hb.block b (blk_lt hc')).trans hc', hj⟩
theorem laws_FnExactTreeNew.Sh_set {lo hi : Nat} {w w1 : World} (h : laws_FnExactTreeNew.Sh lo hi w w1) {g j : Nat} {cur : Array Value} {e : TypeId} {s t : ByteArray} (hlo : lo ≤ g) (hhi : g < hi) (hc : w.heap[g]? = some (.cells cur e (0, 0))) (hs : cur[j]? = some (.string s)) : laws_FnExactTreeNew.Sh lo hi w (w1.setCell ⟨g, j, none⟩ (.string t)) := by
 obtain ⟨h1, h2, h3, h4, h5, h6⟩ := h
 refine ⟨h1, h2, h3, by simpa [World.setCell] using h4, fun b hlt ho => (Below.heap_setCell w1 ⟨g, j, none⟩ _ b (by rintro rfl; (try dsimp only at ho); omega)).trans (h5 b hlt ho), fun b cur2 e2 hlo2 hhi2 hc2 => ?_⟩
 obtain ⟨cur', hc', hj⟩ := h6 b cur2 e2 hlo2 hhi2 hc2
 by_cases hbg : b = g
 ·subst hbg
  rw [hc] at hc2
  cases hc2
  refine ⟨cur'.setIfInBounds j (.string t), blk_set hc' j _, fun q => ?_⟩
  rw [Array.getElem?_setIfInBounds]
  by_cases hq : j = q
  ·subst hq
   right
   refine ⟨⟨s, hs⟩, t, ?_⟩
   have hlt : j < cur'.size := by
    rcases hj j with e1 | ⟨_, s', e1⟩
    ·rw [hs] at e1; exact (Array.getElem?_eq_some_iff.1 e1).1
    ·exact (Array.getElem?_eq_some_iff.1 e1).1
   rw [if_pos rfl, if_pos hlt]
  ·rw [if_neg hq]; exact hj q
 ·exact ⟨cur', blk_far hc' (p := ⟨g, j, none⟩) hbg _, hj⟩
theorem laws_FnExactTreeNew.Sh_str {lo hi : Nat} {w w1 : World} (h : laws_FnExactTreeNew.Sh lo hi w w1) {g j : Nat} {cur : Array Value} {e : TypeId} {s : ByteArray} (hlo : lo ≤ g) (hhi : g < hi) (hc : w.heap[g]? = some (.cells cur e (0, 0))) (hs : cur[j]? = some (.string s)) : ∃ s', w1.cell? ⟨g, j, none⟩ = some (.string s') ∧ w1.frozen? ⟨g, j, none⟩ = false := by
 obtain ⟨cur', hc', hj⟩ := h.2.2.2.2.2 g cur e hlo hhi hc
 rcases hj j with e1 | ⟨_, s', e1⟩
 ·exact ⟨s, (blk_cell hc' j).trans (e1.trans hs), blk_frozen hc' j⟩
 ·exact ⟨s', (blk_cell hc' j).trans e1, blk_frozen hc' j⟩
theorem laws_FnExactTreeNew.Sh_same {lo hi : Nat} {w w1 : World} (h : laws_FnExactTreeNew.Sh lo hi w w1) {g j : Nat} {cur : Array Value} {e : TypeId} {A : Option Addr} {n c : Nat} (hlo : lo ≤ g) (hhi : g < hi) (hc : w.heap[g]? = some (.cells cur e (0, 0))) (hs : cur[j]? = some (.slice A n c)) : w1.cell? ⟨g, j, none⟩ = some (.slice A n c) := by
 obtain ⟨cur', hc', hj⟩ := h.2.2.2.2.2 g cur e hlo hhi hc
 rcases hj j with e1 | ⟨⟨s, e1⟩, _⟩
 ·exact (blk_cell hc' j).trans (e1.trans hs)
 ·rw [hs] at e1; cases e1
theorem laws_FnExactTreeNew.Sh_under {lo hi B : Nat} {w w1 : World} (h : laws_FnExactTreeNew.Sh lo hi w w1) (hB : B ≤ lo) (hw : B ≤ w.heap.size) : Below B w w1 := ⟨h.1, h.2.1, h.2.2.1, h.2.2.2.1, fun b hb => h.2.2.2.2.1 b (by omega) (.inl (by omega))⟩
def laws_FnExactTreeNew.SlOK (lo hi : Nat) (w : World) (u : Value) (n : Nat) : Prop := n ≤ 9223372036854775807 ∧ ∃ A c, u = .slice A n c ∧ (0 < n → ∃ g, A = some ⟨g, 0, none⟩ ∧ lo ≤ g ∧ g < hi ∧ ∃ cur : Array Value, w.heap[g]? = some (.cells cur 9 (0, 0)) ∧ ∀ j, j < n → ∃ s, cur[j]? = some (.string s))
theorem laws_FnExactTreeNew.SlOK_of {lo hi : Nat} {w : World} {ok : Nat → Prop} {u : Value} {xs : List ByteArray} (h : Kd.R Kd.string 9 w lo ok u xs) (hhi : w.heap.size ≤ hi) : laws_FnExactTreeNew.SlOK lo hi w u xs.length := by
 obtain ⟨A, c, rfl⟩ := Kd.R_slice h
 have hm := (Kd.R_reads' h).2.2.2.1
 refine ⟨hm, A, c, rfl, fun hp => ?_⟩
 obtain ⟨g, cap, e, hb, hl, _⟩ := Kd.R_form h hp
 have ho := Kd.own_of_R h
 injection e with e1 e2 e3
 subst e1
 rcases ho.2 with ⟨e4, _⟩ | ⟨g', cap', cur, e4, _, hc, _, _, _, ht⟩
 ·cases e4
 ·injection e4 with e5
  injection e5 with e5
  injection e5 with e5
  subst e5
  refine ⟨g, rfl, hb, by omega, cur, hc, fun j hj => ?_⟩
  have h1 : (cur.toList.take (xs.length * 1))[j]? = (encs Value.string xs)[j]? := by rw [ht]
  rw [List.getElem?_take, if_pos (by omega), Array.getElem?_toList] at h1
  exact ⟨xs[j], by rw [h1]; simp [encs, List.getElem?_eq_getElem hj]⟩
def laws_FnExactTreeNew.mS (k : Nat) : Nat → Int → Option Int
 | 0, a => some a
 | n + 1, a => (laws_markText.f k a).bind fun _ => laws_FnExactTreeNew.mS k n (wrap64 (a + 1))
theorem laws_FnExactTreeNew.mono_mS (k : Nat) : ∀ (n : Nat) (a : Int), LeO (laws_FnExactTreeNew.mS k n a) (laws_FnExactTreeNew.mS (k + 1) n a)
 | 0, _ => LeO.refl _
 | n + 1, a => LeO.bind (laws_markText.mono _ _) (fun _ => laws_FnExactTreeNew.mono_mS k n _)
set_option maxHeartbeats 8000000 in
set_option maxRecDepth 100000 in
theorem laws_FnExactTreeNew.markS (k lo hi : Nat) (u : Value) (n : Nat) (a r : Int) (w w1 : World) (hu : laws_FnExactTreeNew.SlOK lo hi w u n) (hs : laws_FnExactTreeNew.Sh lo hi w w1) (h : laws_FnExactTreeNew.mS k n a = some r) :
  Calls Tryz.prog 28 #[u, .int .i64 a] w1 fun e w' => e = .returned (.int .i64 r) ∧ laws_FnExactTreeNew.Sh lo hi w w' := by
 obtain ⟨hm, A, c, rfl, hu⟩ := hu
 have HM := Aside0.mk hm
 have HU := Aside0.mk hu
 have HS := Aside0.mk hs
 have H' := Aside0.mk h
 clear hm hu hs h
 go_enter Tryz.func28, Tryz.ntmps28
 go_wp2
 go_loopg [1, 5] n (fun kq v1 v5 w' => ∃ (j : Nat) (b : Int), v5 = .int .i64 (j : Int) ∧ v1 = .int .i64 b ∧ Aside0 (laws_FnExactTreeNew.mS k (n - j) b = some r) ∧ Aside0 (j ≤ n) ∧ Aside0 (n - j ≤ kq) ∧ Aside0 (laws_FnExactTreeNew.Sh lo hi w w'))
 case atStart => exact ⟨0, a, rfl, rfl, H', ⟨Nat.zero_le _⟩, ⟨by omega⟩, HS⟩
 case round =>
  clear H' HS
  obtain ⟨j, b, rfl, rfl, HA, HJ, HK, HS⟩ := hrel
  by_cases c1 : (j : Int) < (n : Int)
  ·have c1b0 : decide ((j : Int) < (n : Int)) = true := decide_eq_true c1
   have c1b1 : decide (j < n) = true := decide_eq_true (by omega)
   have hj : j < n := by omega
   obtain ⟨g, rfl, hlo, hhi, cur, hcur, hstr⟩ := HU.out (by omega)
   obtain ⟨s, hsj⟩ := hstr j hj
   have H := HA.out
   rw [show n - j = (n - (j + 1)) + 1 by omega] at H
   simp only [laws_FnExactTreeNew.mS] at H
   obtain ⟨t, At0, H⟩ := Option.bind_eq_some_iff.1 H
   have At := Aside0.mk At0
   have HN := Aside0.mk H
   have HX := Aside0.mk (And.intro hlo (And.intro hhi (And.intro hcur hsj)))
   have HJ2 := Aside0.mk hj
   clear At0 H HA hlo hhi hcur hsj hstr hj
   have p1 : 0 ≤ (j : Int) := by omega
   have c1i := eq_true c1
   clear c1
   go_wp2_with (go_at_call 27; (with_reducible refine (laws_markText.calls k b t _ At.out).mono ?_); rintro e w5 ⟨rfl, hb⟩; have n0_ := Aside0.mk (laws_FnExactTreeNew.Sh_below HS.out hb); clear HS; have HS := n0_; clear n0_ hb; obtain ⟨s5, hx5, hf5⟩ := laws_FnExactTreeNew.Sh_str HS.out HX.out.1 HX.out.2.1 HX.out.2.2.1 HX.out.2.2.2)
   go_roundg (n - (j + 1))
   case measure => have := HK.out; have := HJ2.out; omega
   case rel => exact ⟨j + 1, _, by have := HJ2.out; have := HM.out; first | rfl | go_num | (congr 1; unfold wrap64; omega), rfl, HN, ⟨HJ2.out⟩, ⟨Nat.le_refl _⟩, ⟨laws_FnExactTreeNew.Sh_set HS.out HX.out.1 HX.out.2.1 HX.out.2.2.1 HX.out.2.2.2⟩⟩
  ·have c1b0 : decide ((j : Int) < (n : Int)) = false := decide_eq_false c1
   have c1b1 : decide (j < n) = false := decide_eq_false (by omega)
   have H := HA.out
   rw [show n - j = 0 by omega] at H
   simp only [laws_FnExactTreeNew.mS] at H
   obtain rfl := Option.some.inj H
   clear c1
   go_wp2
   go_ret
   exact ⟨rfl, HS.out⟩
def laws_FnExactTreeNew.ClsOK (lo hi : Nat) (w : World) (v : Value) (l : List (S48)) : Prop := l.length ≤ 9223372036854775807 ∧ ∃ A c, v = .slice A l.length c ∧ (0 < l.length → ∃ g, A = some ⟨g, 0, none⟩ ∧ lo ≤ g ∧ g < hi ∧ ∃ cur : Array Value, w.heap[g]? = some (.cells cur 48 (0, 0)) ∧
 ∀ (j : Nat) (x : S48), l[j]? = some x → ∃ s u1 u2 u3, cur[j * 4]? = some (.string s) ∧ cur[j * 4 + 1]? = some u1 ∧ cur[j * 4 + 2]? = some u2 ∧ cur[j * 4 + 3]? = some u3 ∧ laws_FnExactTreeNew.SlOK lo hi w u1 x.f1.length ∧ laws_FnExactTreeNew.SlOK lo hi w u2 x.f2.length ∧ laws_FnExactTreeNew.SlOK lo hi w u3 x.f3.length)
theorem laws_FnExactTreeNew.ClsOK_of {lo hi : Nat} {w : World} {ok : Nat → Prop} {v : Value} {l : List (S48)} (h : Kd.R k48 48 w lo ok v l) (hhi : w.heap.size ≤ hi) : laws_FnExactTreeNew.ClsOK lo hi w v l := by
 obtain ⟨A, c, rfl⟩ := Kd.R_slice h
 have hm := (Kd.R_reads' h).2.2.2.1
 refine ⟨hm, A, c, rfl, fun hp => ?_⟩
 obtain ⟨g, cap, e, hb, hl, _⟩ := Kd.R_form h hp
 injection e with e1 e2 e3
 subst e1
 obtain ⟨_, inner, ho, hr⟩ := h
 rcases ho.2 with ⟨e4, _⟩ | ⟨g', cap', cur, e4, _, hc, _, _, _, ht⟩
 ·cases e4
 ·injection e4 with e5
  injection e5 with e5
  injection e5 with e5
  subst e5
  refine ⟨g, rfl, hb, by omega, cur, hc, fun j x hx => ?_⟩
  have hjl : j < l.length := (List.getElem?_eq_some_iff.1 hx).1
  have hM := hr.2 j x hx
  obtain ⟨v1, v2, v3, e6, g1, g2, g3⟩ := k48_openM hM
  have hcell : ∀ (q : Nat) (z : Value), q < 4 → ([Value.string x.f0, v1, v2, v3] : List Value)[q]? = some z → cur[j * 4 + q]? = some z := fun q z hq hz => by
   have h2 : ((inner.drop (j * 4)).take 4)[q]? = some z := by
    have e7 : (inner.drop (j * 4)).take 4 = [Value.string x.f0, v1, v2, v3] := e6
    rw [e7]; exact hz
   rw [List.getElem?_take, if_pos hq, List.getElem?_drop, ← ht, List.getElem?_take, if_pos (by show j * 4 + q < l.length * 4; omega), Array.getElem?_toList] at h2
   exact h2
  exact ⟨x.f0, v1, v2, v3, hcell 0 _ (by omega) rfl, hcell 1 _ (by omega) rfl, hcell 2 _ (by omega) rfl, hcell 3 _ (by omega) rfl, laws_FnExactTreeNew.SlOK_of g1 hhi, laws_FnExactTreeNew.SlOK_of g2 hhi, laws_FnExactTreeNew.SlOK_of g3 hhi⟩
def laws_FnExactTreeNew.mC (k : Nat) : List (S48) → Int → Option Int
 | [], a => some a
 | x :: xs, a => (laws_markText.f k a).bind fun _ => (laws_FnExactTreeNew.mS k x.f1.length (wrap64 (a + 1))).bind fun b => (laws_FnExactTreeNew.mS k x.f2.length b).bind fun b => (laws_FnExactTreeNew.mS k x.f3.length b).bind fun b => laws_FnExactTreeNew.mC k xs b
theorem laws_FnExactTreeNew.mono_mC (k : Nat) : ∀ (l : List (S48)) (a : Int), LeO (laws_FnExactTreeNew.mC k l a) (laws_FnExactTreeNew.mC (k + 1) l a)
 | [], _ => LeO.refl _
 | x :: xs, a => LeO.bind (laws_markText.mono _ _) (fun _ => LeO.bind (laws_FnExactTreeNew.mono_mS k _ _) (fun _ => LeO.bind (laws_FnExactTreeNew.mono_mS k _ _) (fun _ => LeO.bind (laws_FnExactTreeNew.mono_mS k _ _) (fun _ => laws_FnExactTreeNew.mono_mC k xs _))))
set_option maxHeartbeats 8000000 in
set_option maxRecDepth 100000 in
theorem laws_FnExactTreeNew.markC (k lo hi : Nat) (v : Value) (l : List (S48)) (a r : Int) (w : World) (hu : laws_FnExactTreeNew.ClsOK lo hi w v l) (h : laws_FnExactTreeNew.mC k l a = some r) :
  Calls Tryz.prog 11 #[v, .int .i64 a] w fun e w' => e = .returned (.int .i64 r) ∧ laws_FnExactTreeNew.Sh lo hi w w' := by
 have hu62 := Tryz.underlying48
 obtain ⟨hm, A, c, rfl, hu⟩ := hu
 have HM := Aside0.mk hm
 have HU := Aside0.mk hu
 have HS := Aside0.mk (laws_FnExactTreeNew.Sh_refl lo hi w)
 have H' := Aside0.mk h
 clear hm hu h
 go_enter Tryz.func11, Tryz.ntmps11
 go_wp2
 go_loopg [1, 5] l.length (fun kq v1 v5 w' => ∃ (j : Nat) (b : Int), v5 = .int .i64 (j : Int) ∧ v1 = .int .i64 b ∧ Aside0 (laws_FnExactTreeNew.mC k (l.drop j) b = some r) ∧ Aside0 (j ≤ l.length) ∧ Aside0 (l.length - j ≤ kq) ∧ Aside0 (laws_FnExactTreeNew.Sh lo hi w w'))
 case atStart => exact ⟨0, a, rfl, rfl, H', ⟨Nat.zero_le _⟩, ⟨by omega⟩, HS⟩
 case round =>
  clear H' HS
  obtain ⟨j, b, rfl, rfl, HA, HJ, HK, HS⟩ := hrel
  by_cases c1 : (j : Int) < (l.length : Int)
  ·have c1b0 : decide ((j : Int) < (l.length : Int)) = true := decide_eq_true c1
   have c1b1 : decide (j < l.length) = true := decide_eq_true (by omega)
   have hj : j < l.length := by omega
   obtain ⟨g, rfl, hlo, hhi, cur, hcur, hall⟩ := HU.out (by omega)
   obtain ⟨s, u1, u2, u3, hs0, hs1, hs2, hs3, g1, g2, g3⟩ := hall j _ (List.getElem?_eq_getElem hj)
   obtain ⟨q1_, A1, n1, e1, q2_⟩ := id g1
   obtain ⟨q3_, A2, n2, e2, q4_⟩ := id g2
   obtain ⟨q5_, A3, n3, e3, q6_⟩ := id g3
   subst e1 e2 e3
   clear q1_ q2_ q3_ q4_ q5_ q6_
   have H := HA.out
   rw [List.drop_eq_getElem_cons hj] at H
   simp only [laws_FnExactTreeNew.mC] at H
   obtain ⟨t, At0, Ha⟩ := Option.bind_eq_some_iff.1 H
   obtain ⟨b1, B10, Hb⟩ := Option.bind_eq_some_iff.1 Ha
   obtain ⟨b2, B20, Hc⟩ := Option.bind_eq_some_iff.1 Hb
   obtain ⟨b3, B30, Hd⟩ := Option.bind_eq_some_iff.1 Hc
   clear H Ha Hb Hc
   generalize l[j] = x at At0 B10 B20 B30 Hd g1 g2 g3 hs1 hs2 hs3
   have At := Aside0.mk At0
   have B1 := Aside0.mk B10
   have B2 := Aside0.mk B20
   have B3 := Aside0.mk B30
   have HN := Aside0.mk Hd
   have HX := Aside0.mk (And.intro hlo (And.intro hhi (And.intro hcur hs0)))
   have X1 := Aside0.mk hs1
   have X2 := Aside0.mk hs2
   have X3 := Aside0.mk hs3
   have G1 := Aside0.mk g1
   have G2 := Aside0.mk g2
   have G3 := Aside0.mk g3
   have HJ2 := Aside0.mk hj
   clear At0 B10 B20 B30 Hd HA hlo hhi hcur hall hs0 hs1 hs2 hs3 g1 g2 g3 hj
   have p1 : 0 ≤ (j : Int) := by omega
   have c1i := eq_true c1
   clear c1
   go_upto_region 5 with (go_at_call 27; (with_reducible refine (laws_markText.calls k b t _ At.out).mono ?_); rintro e w5 ⟨rfl, hb⟩; have n0_ := Aside0.mk (laws_FnExactTreeNew.Sh_below HS.out hb); clear HS; have HS := n0_; clear n0_ hb; obtain ⟨s5, hx5, hf5⟩ := laws_FnExactTreeNew.Sh_str HS.out HX.out.1 HX.out.2.1 HX.out.2.2.1 HX.out.2.2.2)
   have n0_ : Aside0 (laws_FnExactTreeNew.Sh lo hi w (w5.setCell ⟨g, j * 4, none⟩ (.string t))) := ⟨laws_FnExactTreeNew.Sh_set HS.out HX.out.1 HX.out.2.1 HX.out.2.2.1 HX.out.2.2.2⟩
   clear HS hx5 hf5
   generalize w5.setCell ⟨g, j * 4, none⟩ (.string t) = w6 at n0_ ⊢
   have HS := n0_
   clear n0_
   have hy1 : w6.cell? ⟨g, j * 4 + 1, none⟩ = some (.slice A1 x.f1.length n1) := laws_FnExactTreeNew.Sh_same HS.out HX.out.1 HX.out.2.1 HX.out.2.2.1 X1.out
   go_upto_region 7 with (go_at_call 28; (with_reducible refine (laws_FnExactTreeNew.markS k lo hi _ x.f1.length _ b1 w _ G1.out HS.out B1.out).mono ?_); rintro e w7 ⟨rfl, hs⟩; have n0_ := Aside0.mk hs; clear HS; have HS := n0_; clear n0_ hs; have hy2 : w7.cell? ⟨g, j * 4 + 2, none⟩ = some (.slice A2 x.f2.length n2) := laws_FnExactTreeNew.Sh_same HS.out HX.out.1 HX.out.2.1 HX.out.2.2.1 X2.out)
   go_upto_region 8 with (go_at_call 28; (with_reducible refine (laws_FnExactTreeNew.markS k lo hi _ x.f2.length _ b2 w _ G2.out HS.out B2.out).mono ?_); rintro e w8 ⟨rfl, hs⟩; have n0_ := Aside0.mk hs; clear HS; have HS := n0_; clear n0_ hs; have hy3 : w8.cell? ⟨g, j * 4 + 3, none⟩ = some (.slice A3 x.f3.length n3) := laws_FnExactTreeNew.Sh_same HS.out HX.out.1 HX.out.2.1 HX.out.2.2.1 X3.out)
   go_wp2_with (go_at_call 28; (with_reducible refine (laws_FnExactTreeNew.markS k lo hi _ x.f3.length _ b3 w _ G3.out HS.out B3.out).mono ?_); rintro e w9 ⟨rfl, hs⟩; have n0_ := Aside0.mk hs; clear HS; have HS := n0_; clear n0_ hs)
   go_roundg (l.length - (j + 1))
   case measure => have := HK.out; have := HJ2.out; omega
   case rel => exact ⟨j + 1, _, by have := HJ2.out; have := HM.out; first | rfl | go_num | (congr 1; unfold wrap64; omega), rfl, HN, ⟨HJ2.out⟩, ⟨Nat.le_refl _⟩, HS⟩
  ·have c1b0 : decide ((j : Int) < (l.length : Int)) = false := decide_eq_false c1
   have c1b1 : decide (j < l.length) = false := decide_eq_false (by omega)
   have H := HA.out
   rw [List.drop_of_length_le (by omega)] at H
   simp only [laws_FnExactTreeNew.mC] at H
   obtain rfl := Option.some.inj H
   clear c1
   go_wp2
   go_ret
   exact ⟨rfl, HS.out⟩
theorem laws_FnExactTreeNew.SlOK_move {lo hi : Nat} {w w1 : World} {u : Value} {n : Nat} (h : laws_FnExactTreeNew.SlOK lo hi w u n) (hb : ∀ b, b < hi → w1.heap[b]? = w.heap[b]?) : laws_FnExactTreeNew.SlOK lo hi w1 u n := by
 obtain ⟨hm, A, c, rfl, hu⟩ := h
 refine ⟨hm, A, c, rfl, fun hp => ?_⟩
 obtain ⟨g, e, hlo, hhi, cur, hc, hs⟩ := hu hp
 exact ⟨g, e, hlo, hhi, cur, (hb g hhi).trans hc, hs⟩
theorem laws_FnExactTreeNew.ClsOK_below {lo hi : Nat} {w w1 : World} {v : Value} {l : List (S48)} (h : laws_FnExactTreeNew.ClsOK lo hi w v l ∧ hi ≤ w.heap.size) (hb : Below w.heap.size w w1) : laws_FnExactTreeNew.ClsOK lo hi w1 v l ∧ hi ≤ w1.heap.size := by
 obtain ⟨⟨hm, A, c, rfl, hu⟩, hh⟩ := h
 have hb2 : ∀ b, b < hi → w1.heap[b]? = w.heap[b]? := fun b hlt => hb.block b (by omega)
 refine ⟨⟨hm, A, c, rfl, fun hp => ?_⟩, Nat.le_trans hh hb.size⟩
 obtain ⟨g, e, hlo, hhi, cur, hc, hs⟩ := hu hp
 refine ⟨g, e, hlo, hhi, cur, (hb2 g hhi).trans hc, fun j x hx => ?_⟩
 obtain ⟨s, u1, u2, u3, c0, c1, c2, c3, g1, g2, g3⟩ := hs j x hx
 exact ⟨s, u1, u2, u3, c0, c1, c2, c3, laws_FnExactTreeNew.SlOK_move g1 hb2, laws_FnExactTreeNew.SlOK_move g2 hb2, laws_FnExactTreeNew.SlOK_move g3 hb2⟩
theorem laws_FnExactTreeNew.cutw (w : World) (base : Nat) (h : base ≤ w.heap.size) : ∃ w0 : World, w0.heap.size = base ∧ Below base w0 w :=
 ⟨{ w with heap := w.heap.extract 0 base }, by simp [h], ⟨rfl, rfl, rfl, by simp [h], fun k hk => by
  show w.heap[k]? = (w.heap.extract 0 base)[k]?
  rw [Array.getElem?_extract, if_pos (by omega), Nat.zero_add]⟩⟩
theorem laws_FnExactTreeNew.set_mid {α : Type} (x y : α) : ∀ (dn rest : List α), (dn ++ x :: rest).set dn.length y = dn ++ y :: rest
 | [], _ => rfl
 | d :: dn, rest => by rw [List.cons_append, List.length_cons, List.set_cons_succ, laws_FnExactTreeNew.set_mid x y dn rest, List.cons_append]
theorem laws_FnExactTreeNew.below_lower {base B : Nat} {w w1 : World} (hb : base ≤ B) (h : Below B w w1) : Below base w w1 := ⟨h.os, h.tape, h.output, h.size, fun k hk => h.block k (by omega)⟩
theorem laws_FnExactTreeNew.below_chain {base : Nat} {w w1 w2 : World} (h : Below base w w1) (k : Below base w1 w2) : Below base w w2 := h.trans k
theorem laws_FnExactTreeNew.Deep_cell {w : World} {base : Nat} {tg : Nat → Nat × Nat} {g n c : Nat} {xs : List (S48)} (h : impl_copySchema.Deep w base tg (.slice (some ⟨g, 0, none⟩) n c) xs) {j : Nat} {x : S48} (hx : xs[j]? = some x) :
  w.cell? ⟨g, j * 4, none⟩ = some (.string x.f0) ∧ w.frozen? ⟨g, j * 4, none⟩ = false := by
 obtain ⟨h0, rows, hl, hr, he⟩ := h
 obtain ⟨hj, hjx⟩ := List.getElem?_eq_some_iff.1 hx
 obtain ⟨v1, v2, v3, hrow, f1, f2, f3⟩ := he j x hx
 obtain ⟨ad, e, hp⟩ := (Kd.R_reads' hr).2.2.2.2 (by omega)
 cases e
 obtain ⟨cs, hcl, hk, hcc⟩ := hp j _ hrow
 have hk1 : cs = [.string x.f0, v1, v2, v3] := hk.1
 subst hk1
 have h3 := hcc 0 (.string x.f0) rfl
 rw [add_plain, show (Kd.raw 4).sz = 4 from rfl] at h3
 obtain ⟨cells, hc⟩ := Kd.R_typed hr g rfl
 exact ⟨by simpa using h3, blk_frozen hc (j * 4)⟩
theorem laws_FnExactTreeNew.Deep_form {w : World} {base : Nat} {tg : Nat → Nat × Nat} {v : Value} {xs : List (S48)} (h : impl_copySchema.Deep w base tg v xs) (hp : 0 < xs.length) : ∃ g c, v = .slice (some ⟨g, 0, none⟩) xs.length c ∧ base ≤ g := by
 obtain ⟨h0, rows, hl, hr, he⟩ := h
 obtain ⟨g, cap, e, hb, _⟩ := Kd.R_form hr (by omega)
 exact ⟨g, cap, by rw [e, hl], hb⟩
def laws_FnExactTreeNew.mD (k : Nat) : List (S48) → Int → Option (Int × List (S48))
 | [], a => some (a, [])
 | x :: xs, a => (laws_markText.f k a).bind fun t => (laws_markStringS.f k x.f1 (wrap64 (a + 1))).bind fun b1 => (laws_markStringS.f k x.f2 b1.1).bind fun b2 => (laws_markStringS.f k x.f3 b2.1).bind fun b3 => (laws_FnExactTreeNew.mD k xs b3.1).bind fun q => some (q.1, ⟨t, b1.2, b2.2, b3.2⟩ :: q.2)
theorem laws_FnExactTreeNew.mono_mD (k : Nat) : ∀ (l : List (S48)) (a : Int), LeO (laws_FnExactTreeNew.mD k l a) (laws_FnExactTreeNew.mD (k + 1) l a)
 | [], _ => LeO.refl _
 | x :: xs, a => LeO.bind (laws_markText.mono _ _) (fun _ => LeO.bind (laws_markStringS.mono _ _ _) (fun _ => LeO.bind (laws_markStringS.mono _ _ _) (fun _ => LeO.bind (laws_markStringS.mono _ _ _) (fun _ => LeO.bind (laws_FnExactTreeNew.mono_mD k xs _) (fun _ => LeO.refl _)))))
set_option maxHeartbeats 8000000 in
set_option maxRecDepth 100000 in
theorem laws_FnExactTreeNew.markD0 (k hi : Nat) (tg : Nat → Nat × Nat) (v : Value) (l : List (S48)) (a r : Int) (m : List (S48)) (w0 w : World) (hB : Below w0.heap.size w0 w) (ht : ∀ b, hi ≤ b → tg b = (0, 0)) (hv : ∀ b, v.ownBlock = some b → b < hi) (hd : impl_copySchema.Deep w w0.heap.size tg v l) (h : laws_FnExactTreeNew.mD k l a = some (r, m)) :
  Calls Tryz.prog 11 #[v, .int .i64 a] w fun e w' => e = .returned (.int .i64 r) ∧ impl_copySchema.Deep w' w0.heap.size tg v m ∧ Below w0.heap.size w0 w' ∧ Kept w w' (fun b => b < hi) := by
 have hu62 := Tryz.underlying48
 obtain ⟨A, c, rfl, hlc_, hC_⟩ := impl_copySchema.Deep_C hd
 have HM := Aside0.mk (show l.length ≤ 9223372036854775807 from hC_.2.1)
 clear hlc_ hC_
 have HD := Aside0.mk hd
 have HB := Aside0.mk hB
 have HS := Aside0.mk (Kept.refl w (fun b => b < hi))
 have HT := Aside0.mk ht
 have HV := Aside0.mk hv
 have H' := Aside0.mk h
 clear hd h hB ht hv
 go_enter Tryz.func11, Tryz.ntmps11
 go_wp2
 go_loopg [1, 5] l.length (fun kq v1 v5 w' => ∃ (dn rest ms : List (S48)) (b : Int), v5 = .int .i64 (dn.length : Int) ∧ v1 = .int .i64 b ∧ Aside0 (laws_FnExactTreeNew.mD k rest b = some (r, ms)) ∧ Aside0 (m = dn ++ ms) ∧ Aside0 (dn.length + rest.length = l.length) ∧ Aside0 (rest.length ≤ kq) ∧ Aside0 (impl_copySchema.Deep w' w0.heap.size tg (.slice A l.length c) (dn ++ rest)) ∧ Aside0 (Below w0.heap.size w0 w') ∧ Aside0 (Kept w w' (fun b => b < hi)))
 case atStart => exact ⟨[], l, m, a, rfl, rfl, H', ⟨rfl⟩, ⟨by simp⟩, ⟨Nat.le_refl _⟩, HD, HB, HS⟩
 case round =>
  clear H' HD HB HS
  obtain ⟨dn, rest, ms, b, rfl, rfl, HA, HE, HL, HK, HD, HB, HS⟩ := hrel
  cases rest with
  | cons x rest =>
   have hjl : dn.length < l.length := by have h1 := HL.out; simp only [List.length_cons] at h1; omega
   have c1 : (dn.length : Int) < (l.length : Int) := by omega
   have c1b0 : decide ((dn.length : Int) < (l.length : Int)) = true := decide_eq_true c1
   have c1b1 : decide (dn.length < l.length) = true := decide_eq_true hjl
   obtain ⟨g, ca_, e_, hg_⟩ := laws_FnExactTreeNew.Deep_form HD.out (by rw [List.length_append]; have h1 := HL.out; omega)
   have hg := Aside0.mk hg_
   clear hg_
   injection e_ with e1_ e2_ e3_
   subst e1_
   have hgh := Aside0.mk (HV.out g rfl)
   clear e2_ e3_
   have H := HA.out
   simp only [laws_FnExactTreeNew.mD] at H
   obtain ⟨t, At0, Ha⟩ := Option.bind_eq_some_iff.1 H
   obtain ⟨⟨b1, y1⟩, B10, Hb⟩ := Option.bind_eq_some_iff.1 Ha
   obtain ⟨⟨b2, y2⟩, B20, Hc⟩ := Option.bind_eq_some_iff.1 Hb
   obtain ⟨⟨b3, y3⟩, B30, Hd⟩ := Option.bind_eq_some_iff.1 Hc
   obtain ⟨⟨r2, ms2⟩, Hq0, He⟩ := Option.bind_eq_some_iff.1 Hd
   simp only [Option.some.injEq, Prod.mk.injEq] at He
   obtain ⟨rfl, rfl⟩ := He
   clear H Ha Hb Hc Hd HA
   have At := Aside0.mk At0
   have B1 := Aside0.mk B10
   have B2 := Aside0.mk B20
   have B3 := Aside0.mk B30
   have HN := Aside0.mk Hq0
   have HJ2 := Aside0.mk hjl
   clear At0 B10 B20 B30 Hq0 hjl
   have p1 : 0 ≤ (dn.length : Int) := by omega
   have c1i := eq_true c1
   clear c1
   have hmid : ∀ (x : S48), (dn ++ x :: rest)[dn.length]? = some x := fun x => by simp
   have HX := Aside0.mk hmid
   clear hmid
   obtain ⟨j, hj⟩ : ∃ j, j = dn.length := ⟨_, rfl⟩
   have HJ := Aside0.mk hj
   rw [← hj] at c1b0 c1b1 p1 c1i ⊢
   clear hj
   go_upto_region 5 with (go_at_call 27; (with_reducible refine (laws_markText.calls k b t _ At.out).mono ?_); rintro e w5 ⟨rfl, hb⟩; have n0_ := Aside0.mk (impl_copySchema.Deep_below HD.out hb); have n1_ := Aside0.mk (below_step HB.out hb); have n2_ := Aside0.mk (Kept.below HS.out hb); clear HD HB HS hb; have HD := n0_; have HB := n1_; have HS := n2_; clear n0_ n1_ n2_; obtain ⟨hx5, hf5⟩ := laws_FnExactTreeNew.Deep_cell HD.out (HX.out x); rw [← HJ.out] at hx5 hf5)
   have n0_ : Aside0 (impl_copySchema.Deep (w5.setCell ⟨g, j * 4, none⟩ (.string t)) w0.heap.size tg (.slice (some ⟨g, 0, none⟩) l.length c) (dn ++ (⟨t, x.f1, x.f2, x.f3⟩ : S48) :: rest)) := ⟨by
    have h1 := impl_copySchema.Deep_name HD.out (HX.out x) t
    rw [laws_FnExactTreeNew.set_mid] at h1
    rw [HJ.out]
    exact h1⟩
   have n1_ : Aside0 (Below w0.heap.size w0 (w5.setCell ⟨g, j * 4, none⟩ (.string t))) := ⟨below_set HB.out hg.out⟩
   have n2_ : Aside0 (Kept w (w5.setCell ⟨g, j * 4, none⟩ (.string t)) (fun b => b < hi)) := ⟨Kept.setCell HS.out (.inl hgh.out) _⟩
   clear HD HB HS hx5 hf5
   generalize w5.setCell ⟨g, j * 4, none⟩ (.string t) = w6 at n0_ n1_ n2_ ⊢
   have HD := n0_
   have HB := n1_
   have HS := n2_
   clear n0_ n1_ n2_
   obtain ⟨u1, g1, q1, s1⟩ := impl_copySchema.Deep_list1 HD.out (HX.out _)
   obtain ⟨A1, n1, eu1⟩ := Kd.R_slice g1
   subst eu1
   have G1 := Aside0.mk g1
   have Q1 := Aside0.mk q1
   have hy1 : w6.cell? ⟨g, j * 4 + 1, none⟩ = some (.slice A1 x.f1.length n1) := by rw [HJ.out]; exact s1 _ _ _ rfl
   clear g1 q1 s1
   go_upto_region 7 with (go_at_call 28; (with_reducible refine (laws_markStringS.calls k (fun b => tg b = (dn.length + 1, 1)) _ x.f1 _ b1 y1 w0 _ HB.out G1.out B1.out).mono ?_); rintro e w7 ⟨rfl, hm, hb, hk⟩; obtain ⟨am_, cm_, em_⟩ := Kd.R_slice hm; injection em_ with em1_ em2_ em3_; have n0_ := Aside0.mk (Q1.out _ y1 hk hm em2_.symm); have n1_ := Aside0.mk hb; have n2_ := Aside0.mk (Kept.then_ HS.out hk (fun b hq => .inl (Nat.lt_of_not_le (fun h9 => by have h8 := HT.out b h9; rw [hq] at h8; simp at h8)))); rw [laws_FnExactTreeNew.set_mid] at n0_; clear HD HB HS G1 Q1 hb hm hk em1_ em2_ em3_ am_ cm_ hy1; have HD := n0_; have HB := n1_; have HS := n2_; clear n0_ n1_ n2_; obtain ⟨u2, g2, q2, s2⟩ := impl_copySchema.Deep_list2 HD.out (HX.out _); obtain ⟨A2, n2, eu2⟩ := Kd.R_slice g2; subst eu2; have G2 := Aside0.mk g2; have Q2 := Aside0.mk q2; have hy2 : w7.cell? ⟨g, j * 4 + 2, none⟩ = some (.slice A2 x.f2.length n2) := (by rw [HJ.out]; exact s2 _ _ _ rfl); clear g2 q2 s2)
   go_upto_region 8 with (go_at_call 28; (with_reducible refine (laws_markStringS.calls k (fun b => tg b = (dn.length + 1, 2)) _ x.f2 _ b2 y2 w0 _ HB.out G2.out B2.out).mono ?_); rintro e w8 ⟨rfl, hm, hb, hk⟩; obtain ⟨am_, cm_, em_⟩ := Kd.R_slice hm; injection em_ with em1_ em2_ em3_; have n0_ := Aside0.mk (Q2.out _ y2 hk hm em2_.symm); have n1_ := Aside0.mk hb; have n2_ := Aside0.mk (Kept.then_ HS.out hk (fun b hq => .inl (Nat.lt_of_not_le (fun h9 => by have h8 := HT.out b h9; rw [hq] at h8; simp at h8)))); rw [laws_FnExactTreeNew.set_mid] at n0_; clear HD HB HS G2 Q2 hb hm hk em1_ em2_ em3_ am_ cm_ hy2; have HD := n0_; have HB := n1_; have HS := n2_; clear n0_ n1_ n2_; obtain ⟨u3, g3, q3, s3⟩ := impl_copySchema.Deep_list3 HD.out (HX.out _); obtain ⟨A3, n3, eu3⟩ := Kd.R_slice g3; subst eu3; have G3 := Aside0.mk g3; have Q3 := Aside0.mk q3; have hy3 : w8.cell? ⟨g, j * 4 + 3, none⟩ = some (.slice A3 x.f3.length n3) := (by rw [HJ.out]; exact s3 _ _ _ rfl); clear g3 q3 s3)
   go_wp2_with (go_at_call 28; (with_reducible refine (laws_markStringS.calls k (fun b => tg b = (dn.length + 1, 3)) _ x.f3 _ b3 y3 w0 _ HB.out G3.out B3.out).mono ?_); rintro e w9 ⟨rfl, hm, hb, hk⟩; obtain ⟨am_, cm_, em_⟩ := Kd.R_slice hm; injection em_ with em1_ em2_ em3_; have n0_ := Aside0.mk (Q3.out _ y3 hk hm em2_.symm); have n1_ := Aside0.mk hb; have n2_ := Aside0.mk (Kept.then_ HS.out hk (fun b hq => .inl (Nat.lt_of_not_le (fun h9 => by have h8 := HT.out b h9; rw [hq] at h8; simp at h8)))); rw [laws_FnExactTreeNew.set_mid] at n0_; clear HD HB HS G3 Q3 hb hm hk em1_ em2_ em3_ am_ cm_ hy3; have HD := n0_; have HB := n1_; have HS := n2_; clear n0_ n1_ n2_)
   go_roundg rest.length
   case measure => have := HK.out; simp only [List.length_cons] at this; omega
   case rel => exact ⟨dn ++ [(⟨t, y1, y2, y3⟩ : S48)], rest, ms2, _, by have := HJ.out; have := HJ2.out; have := HM.out; subst j; rw [List.length_append]; first | rfl | go_num | (congr 1; unfold wrap64; simp; omega), rfl, HN, ⟨by rw [HE.out]; simp⟩, ⟨by have h1 := HL.out; simp only [List.length_cons] at h1; simp; omega⟩, ⟨Nat.le_refl _⟩, ⟨by have h1 := HD.out; simpa using h1⟩, HB, HS⟩
  | nil =>
   have h1 : dn.length = l.length := by have h2 := HL.out; simpa using h2
   have c1b0 : decide ((dn.length : Int) < (l.length : Int)) = false := decide_eq_false (by omega)
   have c1b1 : decide (dn.length < l.length) = false := decide_eq_false (by omega)
   have H := HA.out
   simp only [laws_FnExactTreeNew.mD, Option.some.injEq, Prod.mk.injEq] at H
   obtain ⟨rfl, rfl⟩ := H
   go_wp2
   go_ret
   exact ⟨rfl, by rw [HE.out]; exact HD.out, HB.out, HS.out⟩
theorem laws_FnExactTreeNew.markD (k base hi : Nat) (tg : Nat → Nat × Nat) (v : Value) (l : List (S48)) (a r : Int) (m : List (S48)) (w : World) (hb : base ≤ w.heap.size) (ht : ∀ b, hi ≤ b → tg b = (0, 0)) (hv : ∀ b, v.ownBlock = some b → b < hi) (hd : impl_copySchema.Deep w base tg v l) (h : laws_FnExactTreeNew.mD k l a = some (r, m)) :
  Calls Tryz.prog 11 #[v, .int .i64 a] w fun e w' => e = .returned (.int .i64 r) ∧ impl_copySchema.Deep w' base tg v m ∧ Below base w w' ∧ Kept w w' (fun b => b < hi) := by
 obtain ⟨w0, rfl, hB⟩ := laws_FnExactTreeNew.cutw w base hb
 exact (laws_FnExactTreeNew.markD0 k hi tg v l a r m w0 w hB ht hv hd h).mono (by rintro e w' ⟨h1, h2, h3, h4⟩; exact ⟨h1, h2, ⟨h3.os.trans hB.os.symm, h3.tape.trans hB.tape.symm, h3.output.trans hB.output.symm, h4.1, fun q hq => (h3.block q hq).trans (hB.block q hq).symm⟩, h4⟩)
theorem laws_FnExactTreeNew.markE (c : Nat) (a : Int) (w : World) : Calls Tryz.prog 29 #[.slice none 0 c, .int .i64 a] w fun e w' => e = .returned (.int .i64 a) ∧ Below w.heap.size w w' := by
 go_enter Tryz.func29, Tryz.ntmps29
 go_wp2
 go_loopg [1, 5] 1 (fun kq v1 v5 w' => v5 = .int .i64 0 ∧ v1 = .int .i64 a ∧ Aside0 (Below w.heap.size w w'))
 case atStart => exact ⟨rfl, rfl, ⟨Below.refl _ _⟩⟩
 case round =>
  obtain ⟨rfl, rfl, HB⟩ := hrel
  go_wp2
  go_ret
  exact ⟨rfl, HB.out⟩
set_option maxHeartbeats 8000000 in
set_option maxRecDepth 100000 in
theorem laws_FnExactTreeNew.markT (k base hi : Nat) (tg : Nat → Nat × Nat) (A : Option Addr) (c : Nat) (l : List (S48)) (n : Nat) (a r : Int) (m : List (S48)) (w : World) (hb : base ≤ w.heap.size) (hh : hi ≤ w.heap.size) (ht : ∀ b, hi ≤ b → tg b = (0, 0)) (hv : ∀ b, (Value.slice A n c).ownBlock = some b → b < hi) (hd : impl_copySchema.Deep w base tg (.slice A n c) l) (h : laws_FnExactTreeNew.mD k l a = some (r, m)) :
  Calls Tryz.prog 12 #[.agg #[.slice A n c, .slice none 0 0], .int .i64 a] w fun e w' => e = .returned (.int .i64 r) ∧ impl_copySchema.Deep w' base tg (.slice A n c) m ∧ Below base w w' ∧ Kept w w' (fun b => b < hi) := by
 have hu := Tryz.underlying27
 have HT := Aside0.mk ht
 have HV := Aside0.mk hv
 have HH := Aside0.mk hh
 have HD := Aside0.mk hd
 have HA := Aside0.mk h
 have HB0 := Aside0.mk hb
 clear hd h hb hh ht hv
 go_enter Tryz.func12, Tryz.ntmps12
 go_wp2_with (first | ((with_reducible refine gate_dst (N := 2) rfl ?_); refine box_event ?hg (N := 2) ?hd (cs := #[.slice A n c, .slice none 0 0]) (t := 27) ?hr ?_; (case hd => rfl); (case hg => rfl); (case hr => first | (go_simp; done) | (go_simp; rfl)); intro g hg w2 hbox hb; have BK := Aside0.mk hbox; have GE := Aside0.mk (show w.heap.size ≤ g by rw [hg]; exact Nat.le_refl _); have n0_ := Aside0.mk (impl_copySchema.Deep_below HD.out hb); have SZ := Aside0.mk hb.size; have n1_ := Aside0.mk (laws_FnExactTreeNew.below_lower HB0.out hb); have KP := Aside0.mk (Kept.of_below hb (fun b => b < hi)); clear HD hb hbox hg; have HD := n0_; have HB := n1_; clear n0_ n1_; have hq0 : w2.cell? ⟨g, 0, none⟩ = some (.slice A n c) := (blk_cell BK.out 0).trans rfl; have hf0 := blk_frozen BK.out 0; have hq1 : w2.cell? ⟨g, 1, none⟩ = some (.slice none 0 0) := (blk_cell BK.out 1).trans rfl; have hf1 := blk_frozen BK.out 1) | (go_at_call 11; (with_reducible refine (laws_FnExactTreeNew.markD k base hi tg _ l a r m _ (Nat.le_trans HB0.out SZ.out) HT.out HV.out HD.out HA.out).mono ?_); rintro e w3 ⟨rfl, hd3, hb3, hk3⟩; have n0_ := Aside0.mk hd3; have n1_ := Aside0.mk (laws_FnExactTreeNew.below_chain HB.out hb3); have n2_ := Aside0.mk (blk_kept BK.out hk3 (by have := GE.out; have := HH.out; (try dsimp only); omega)); have n3_ := Aside0.mk (Kept.then_ KP.out hk3 (fun b hq => .inl hq)); clear hd3 hb3 hk3 HD HB BK KP hq0 hq1 hf0 hf1; have HD := n0_; have HB := n1_; have BK := n2_; have KP := n3_; clear n0_ n1_ n2_ n3_; have hq1 : w3.cell? ⟨g, 1, none⟩ = some (.slice none 0 0) := (blk_cell BK.out 1).trans rfl; have hf1 := blk_frozen BK.out 1) | (go_at_call 29; (with_reducible refine (laws_FnExactTreeNew.markE 0 r _).mono ?_); rintro e w4 ⟨rfl, hb⟩; have n0_ := Aside0.mk (impl_copySchema.Deep_below HD.out hb); have n1_ := Aside0.mk (laws_FnExactTreeNew.below_chain HB.out (laws_FnExactTreeNew.below_lower (Nat.le_trans HB0.out KP.out.1) hb)); have n2_ := Aside0.mk (Kept.below KP.out hb); clear HD HB KP hb; have HD := n0_; have HB := n1_; have KP := n2_; clear n0_ n1_ n2_))
 go_ret
 exact ⟨rfl, HD.out, HB.out, KP.out⟩
theorem laws_FnExactTreeNew.Deep_other {w w1 : World} {base g t : Nat} {cells : Array Value} {tg : Nat → Nat × Nat} {v : Value} {xs : List (S48)} (h : impl_copySchema.Deep w base tg v xs) (hb : w.heap[g]? = some (.cells cells t (0, 0))) (h1 : 48 ≠ t) (h2 : 9 ≠ t) (hz : w.heap.size ≤ w1.heap.size) (hm : ∀ k, k ≠ g → w1.heap[k]? = w.heap[k]?) : impl_copySchema.Deep w1 base tg v xs := by
 obtain ⟨h0, rows, hl, hr, he⟩ := h
 have mv : ∀ {ok : Nat → Prop} {u : Value} {l : List ByteArray}, Kd.R Kd.string 9 w base ok u l → Kd.R Kd.string 9 w1 base ok u l := fun hx => Kd.R_mono (Kd.R_step (Kd.R_types hx hb (fun q hq => by rw [List.mem_singleton.1 hq]; exact h2)) (fun k hk _ => hm k hk.2)) (fun _ hk => hk.1)
 refine ⟨fun k hk => h0 k (Nat.le_trans hz hk), rows, hl, Kd.R_mono (Kd.R_step (Kd.R_types hr hb (fun q hq => by rw [List.mem_singleton.1 hq]; exact h1)) (fun k hk _ => hm k hk.2)) (fun _ hk => hk.1), fun j x hx => ?_⟩
 obtain ⟨u1, u2, u3, e, g1, g2, g3⟩ := he j x hx
 exact ⟨u1, u2, u3, e, mv g1, mv g2, mv g3⟩
theorem laws_FnExactTreeNew.Deep_reads {w : World} {base n c : Nat} {A : Option Addr} {tg : Nat → Nat × Nat} {xs : List (S48)} (h : impl_copySchema.Deep w base tg (.slice A n c) xs) : n = xs.length ∧ xs.length ≤ c ∧ Kd.C k48 w A xs.length xs := by
 obtain ⟨A1, c1, e, h1, h2⟩ := impl_copySchema.Deep_C h
 injection e with e1 e2 e3
 subst e1 e3
 exact ⟨e2, h1, h2⟩
theorem laws_FnExactTreeNew.Deep_lt {w : World} {base : Nat} {tg : Nat → Nat × Nat} {v : Value} {xs : List (S48)} (h : impl_copySchema.Deep w base tg v xs) : ∀ b, v.ownBlock = some b → b < w.heap.size := by
 obtain ⟨_, rows, _, hr, _⟩ := h
 exact Kd.R_lt hr
theorem laws_FnExactTreeNew.eqT (k : Nat) {base n c n1 c1 n2 c2 : Nat} {A A1 A2 : Option Addr} {tg : Nat → Nat × Nat} {g s1 : List (S48)} {s2 : List (S73)} {b1 b2 : Nat} {o1 o2 : Nat → Prop} (r : Bool) (W : World) (hd : impl_copySchema.Deep W base tg (.slice A n c) g) (h1 : Kd.R k48 48 W b1 o1 (.slice A1 n1 c1) s1) (h2 : Kd.R k73 73 W b2 o2 (.slice A2 n2 c2) s2) (h : laws_eqTree.f k g [] s1 s2 = some r) :
  Calls Tryz.prog 9 #[.agg #[.slice A n c, .slice none 0 0], .agg #[.slice A1 n1 c1, .slice A2 n2 c2]] W fun e w' => e = .returned (.bool r) ∧ Below W.heap.size W w' := by
 obtain ⟨rfl, hc, hC⟩ := laws_FnExactTreeNew.Deep_reads hd
 obtain ⟨rfl, hc1, hC1⟩ := Kd.R_reads' h1
 obtain ⟨rfl, hc2, hC2⟩ := Kd.R_reads' h2
 exact laws_eqTree.calls k A c g none 0 [] A1 c1 s1 A2 c2 s2 r W hC hc (Kd.C_nil _ _) (Nat.le_refl _) hC1 hc1 hC2 hc2 h
theorem laws_FnExactTreeNew.heldT (k : Nat) {base n c : Nat} {A : Option Addr} {tg : Nat → Nat × Nat} {g : List (S48)} (a r : Int) (W : World) (hd : impl_copySchema.Deep W base tg (.slice A n c) g) (h : laws_heldTree.f k g [] a = some r) :
  Calls Tryz.prog 13 #[.agg #[.slice A n c, .slice none 0 0], .int .i64 a] W fun e w' => e = .returned (.int .i64 r) ∧ Below W.heap.size W w' := by
 obtain ⟨rfl, hc, hC⟩ := laws_FnExactTreeNew.Deep_reads hd
 exact laws_heldTree.calls k A c g none 0 [] a r W hC hc (Kd.C_nil _ _) (Nat.le_refl _) h
theorem laws_FnExactTreeNew.ClsOK_keep {lo hi : Nat} {w w1 : World} {v : Value} {l : List (S48)} (h : laws_FnExactTreeNew.ClsOK lo hi w v l ∧ hi ≤ w.heap.size) (hz : w.heap.size ≤ w1.heap.size) (hb2 : ∀ b, b < hi → w1.heap[b]? = w.heap[b]?) : laws_FnExactTreeNew.ClsOK lo hi w1 v l ∧ hi ≤ w1.heap.size := by
 obtain ⟨⟨hm, A, c, rfl, hu⟩, hh⟩ := h
 refine ⟨⟨hm, A, c, rfl, fun hp => ?_⟩, Nat.le_trans hh hz⟩
 obtain ⟨g, e, hlo, hhi, cur, hc, hs⟩ := hu hp
 refine ⟨g, e, hlo, hhi, cur, (hb2 g hhi).trans hc, fun j x hx => ?_⟩
 obtain ⟨s, u1, u2, u3, c0, c1, c2, c3, g1, g2, g3⟩ := hs j x hx
 exact ⟨s, u1, u2, u3, c0, c1, c2, c3, laws_FnExactTreeNew.SlOK_move g1 hb2, laws_FnExactTreeNew.SlOK_move g2 hb2, laws_FnExactTreeNew.SlOK_move g3 hb2⟩
def laws_FnExactTreeNew.g2 (k : Nat) (m : List (S48)) (s1 : List (S48)) (s2 : List (S73)) (g : List (S48)) : Option Bool :=
 (laws_eqTree.f k g [] s1 s2).bind fun e1 => if e1 = true then (laws_eqClassS.f k m m).bind fun e2 => if e2 = true then
 (laws_FnExactTreeNew.mC k m 1).bind fun kk => if 0 ≤ kk then (laws_FnExactTreeNew.mD k g 1).bind fun mk => (laws_heldTree.f k mk.2 [] 1).bind fun q => if 0 ≤ q then (if q = mk.1 then some true else none) else none else none else none else none
def laws_FnExactTreeNew.f (k : Nat) (l0 : List (S45)) : Option (Bool) := (laws_szClassS.f k l0 1048576).bind fun t => if t < 0 then some true else
 (laws_toClassS.f k l0).bind fun m => (spec_TreeNew.f k m).bind fun s => (impl_TreeNew.f k m).bind fun g => laws_FnExactTreeNew.g2 k m s.1 s.2 g
set_option maxHeartbeats 8000000 in
set_option maxRecDepth 100000 in
theorem laws_FnExactTreeNew.calls (k : Nat) (A0 : Option Addr) (c0 : Nat) (l0 : List (S45)) (r : Bool) (w : World) (hr0 : Kd.C k45 w A0 l0.length l0) (hc0 : l0.length ≤ c0) (h : laws_FnExactTreeNew.f k l0 = some r) :
  Calls Tryz.prog 3 #[.slice A0 l0.length c0] w fun e w' => e = .returned (.bool r) ∧ Below w.heap.size w w' := by
 have hu := Tryz.underlying27
 have HR0 := Aside0.mk hr0
 have HC0 := Aside0.mk hc0
 clear hr0 hc0
 have HB := Aside0.mk (Below.refl w.heap.size w)
 unfold laws_FnExactTreeNew.f at h
 obtain ⟨t, A10, h⟩ := Option.bind_eq_some_iff.1 h
 have A1 := Aside0.mk A10
 clear A10
 by_cases ct : t < 0
 ·rw [if_pos ct] at h
  obtain rfl := Option.some.inj h
  have ctb : decide (t < 0) = true := decide_eq_true ct
  clear ct h
  go_enter Tryz.func3, Tryz.ntmps3
  go_wp2_with (go_at_call 5; (with_reducible refine (laws_szClassS.calls k _ _ l0 1048576 t _ (Kd.C_below HR0.out HB.out) HC0.out A1.out).mono ?_); rintro e w2 ⟨rfl, hb⟩; have n0_ := Aside0.mk (below_step HB.out hb); clear hb HB; have HB := n0_; clear n0_)
  go_ret
  exact ⟨rfl, HB.out⟩
 rw [if_neg ct] at h
 have ctb : decide (t < 0) = false := decide_eq_false ct
 clear ct
 obtain ⟨m, AT0, h⟩ := Option.bind_eq_some_iff.1 h
 have AT := Aside0.mk AT0
 clear AT0
 obtain ⟨⟨s1, s2⟩, AS0, h⟩ := Option.bind_eq_some_iff.1 h
 have AS := Aside0.mk AS0
 clear AS0
 obtain ⟨g, AG0, h⟩ := Option.bind_eq_some_iff.1 h
 have AG := Aside0.mk AG0
 clear AG0
 unfold laws_FnExactTreeNew.g2 at h
 obtain ⟨e1, AE0, h⟩ := Option.bind_eq_some_iff.1 h
 have AE := Aside0.mk AE0
 clear AE0
 by_cases ce1 : e1 = true
 case neg => rw [if_neg ce1] at h; cases h
 subst ce1
 rw [if_pos rfl] at h
 obtain ⟨e2, AC0, h⟩ := Option.bind_eq_some_iff.1 h
 have AC := Aside0.mk AC0
 clear AC0
 by_cases ce2 : e2 = true
 case neg => rw [if_neg ce2] at h; cases h
 subst ce2
 rw [if_pos rfl] at h
 obtain ⟨kk, AM0, h⟩ := Option.bind_eq_some_iff.1 h
 have AM := Aside0.mk AM0
 clear AM0
 by_cases ck : 0 ≤ kk
 case neg => rw [if_neg ck] at h; cases h
 rw [if_pos ck] at h
 obtain ⟨⟨mk1, dm⟩, AK0, h⟩ := Option.bind_eq_some_iff.1 h
 have AK := Aside0.mk AK0
 clear AK0
 obtain ⟨q, AQ0, h⟩ := Option.bind_eq_some_iff.1 h
 have AQ := Aside0.mk AQ0
 clear AQ0
 by_cases cq : 0 ≤ q
 case neg => rw [if_neg cq] at h; cases h
 rw [if_pos cq] at h
 by_cases ce : q = mk1
 case neg => rw [if_neg ce] at h; cases h
 subst ce
 rw [if_pos rfl] at h
 obtain rfl := Option.some.inj h
 have ckb : decide (kk < 0) = false := decide_eq_false (by omega)
 have cqb : decide (q < 0) = false := decide_eq_false (by omega)
 clear h ck cq
 dsimp only at AE AC AM AK AQ
 go_enter Tryz.func3, Tryz.ntmps3
 go_upto_region 6 with (first | (go_at_call 5; (with_reducible refine (laws_szClassS.calls k _ _ l0 1048576 t _ (Kd.C_below HR0.out HB.out) HC0.out A1.out).mono ?_); rintro e w2 ⟨rfl, hb⟩; have n0_ := Aside0.mk (below_step HB.out hb); clear hb HB; have HB := n0_; clear n0_) | (go_at_call 7; (with_reducible refine (laws_toClassS.calls k _ _ l0 m _ (Kd.C_below HR0.out HB.out) HC0.out AT.out).mono ?_); rintro e w3 ⟨v3, rfl, ho, hb⟩; obtain ⟨Ax3, cx3, rfl⟩ := Kd.R_slice (Kd.S_R ho); have HX3 := Aside0.mk (Kd.R_reads' (Kd.S_R ho)); have n0_ := Aside0.mk (below_step HB.out hb); clear hb HB; have HB := n0_; clear n0_; clear ho) | (go_at_call 6; (with_reducible refine (spec_TreeNew.calls k _ _ m s1 s2 _ HX3.out.2.2 HX3.out.2.1 AS.out).mono ?_); rintro e w4 ⟨u1_, u2_, rfl, ho1, ho2, hb⟩; have Hs1 := Aside0.mk (Kd.R_mono (ok' := fun b => b < w4.heap.size) (Kd.R_lower (Kd.R_bound (Kd.S_R ho1)) (below_size HB.out)) (fun b hk => hk.2.2.1)); have Hs2 := Aside0.mk (Kd.R_mono (ok' := fun b => b < w4.heap.size) (Kd.R_lower (Kd.R_bound ho2) (below_size HB.out)) (fun b hk => hk.2.2.1)); clear HX3; have n0_ := Aside0.mk (below_step HB.out hb); clear hb HB; have HB := n0_; clear n0_; clear ho1 ho2; obtain ⟨Asa, csa, e1_⟩ := Kd.R_slice Hs1.out; subst e1_; obtain ⟨Asb, csb, e2_⟩ := Kd.R_slice Hs2.out; subst e2_; obtain ⟨n1, hn1⟩ : ∃ n, n = s1.length := ⟨_, rfl⟩; obtain ⟨n2, hn2⟩ : ∃ n, n = s2.length := ⟨_, rfl⟩; rw [← hn1] at Hs1; rw [← hn2] at Hs2; rw [← hn1, ← hn2]; clear hn1 hn2) | ((with_reducible refine gate_dst (N := 4) rfl ?_); refine box_event ?hg (N := 4) ?hd (cs := #[.slice none 0 0, .slice none 0 0]) (t := 27) ?hr ?_; (case hd => rfl); (case hg => rfl); (case hr => first | (go_simp; done) | (go_simp; rfl)); intro g4 hg w5 hbox hb; have nbk_ := Aside0.mk hbox; have GEg4 := Aside0.mk (show w.heap.size ≤ g4 by rw [hg]; exact below_size HB.out); have n0_ := Aside0.mk (below_step HB.out hb); have n1_ := Aside0.mk (Kd.R_below Hs1.out hb); have n2_ := Aside0.mk (Kd.R_below Hs2.out hb); clear hb HB Hs1 Hs2; have HB := n0_; have Hs1 := n1_; have Hs2 := n2_; clear n0_ n1_ n2_; have BKg4 := nbk_; clear nbk_ hbox hg; have hqg40 : w5.cell? ⟨g4, 0, none⟩ = some (.slice none 0 0) := (blk_cell BKg4.out 0).trans rfl; have hfg40 := blk_frozen BKg4.out 0; have hqg41 : w5.cell? ⟨g4, 1, none⟩ = some (.slice none 0 0) := (blk_cell BKg4.out 1).trans rfl; have hfg41 := blk_frozen BKg4.out 1))
 clear hqg40 hfg40 hqg41 hfg41
 have n0_ : Aside0 (Below w.heap.size w (World.setCell (World.setCell w5 ⟨g4, 0, none⟩ (.slice Asa n1 csa)) ⟨g4, 1, none⟩ (.slice Asb n2 csb))) := ⟨by repeat (first | (with_reducible first | exact HB.out | refine below_set ?_ GEg4.out) | exact HB.out)⟩
 have n1_ : Aside0 ((World.heap (World.setCell (World.setCell w5 ⟨g4, 0, none⟩ (.slice Asa n1 csa)) ⟨g4, 1, none⟩ (.slice Asb n2 csb)))[g4]? = some (.cells #[.slice Asa n1 csa, .slice Asb n2 csb] 27 (0, 0))) := ⟨by refine blk_put (cs := #[.slice Asa n1 csa, .slice none 0 0]) ?_ 1 _ rfl; refine blk_put (cs := #[.slice none 0 0, .slice none 0 0]) ?_ 0 _ rfl; exact BKg4.out⟩
 have n2_ := Aside0.mk (Kd.R_mono (Kd.R_far (p := ⟨g4, 1, none⟩) (Kd.R_far (p := ⟨g4, 0, none⟩) (Kd.R_types Hs1.out BKg4.out (by decide)) (fun _ hk => hk.2) (.slice Asa n1 csa)) (fun _ hk => hk.2) (.slice Asb n2 csb)) (fun _ hk => hk.1))
 have n3_ := Aside0.mk (Kd.R_mono (Kd.R_far (p := ⟨g4, 1, none⟩) (Kd.R_far (p := ⟨g4, 0, none⟩) (Kd.R_types Hs2.out BKg4.out (by decide)) (fun _ hk => hk.2) (.slice Asa n1 csa)) (fun _ hk => hk.2) (.slice Asb n2 csb)) (fun _ hk => hk.1))
 clear HB BKg4 Hs1 Hs2
 have HB := n0_
 have BKg4 := n1_
 have Hs1 := n2_
 have Hs2 := n3_
 clear n0_ n1_ n2_ n3_
 generalize World.setCell (World.setCell w5 _ _) _ _ = w6 at HB BKg4 Hs1 Hs2 ⊢
 have L6 := Aside0.mk (blk_lt BKg4.out)
 have LB := Aside0.mk (below_size HB.out)
 have n0_ := Aside0.mk (Kd.R_mono (ok' := fun b => b < w6.heap.size) (Kd.R_bound Hs1.out) (fun b hk => hk.2.2.1))
 clear Hs1
 have Hs1 := n0_
 clear n0_
 have n0_ := Aside0.mk (Kd.R_mono (ok' := fun b => b < w6.heap.size) (Kd.R_bound Hs2.out) (fun b hk => hk.2.2.1))
 clear Hs2
 have Hs2 := n0_
 clear n0_
 go_upto_region 7 with (go_at_call 7; (with_reducible refine (laws_toClassS.calls k _ _ l0 m _ (Kd.C_below HR0.out HB.out) HC0.out AT.out).mono ?_); rintro e w7 ⟨v7, rfl, ho, hb⟩; obtain ⟨Ax7, cx7, rfl⟩ := Kd.R_slice (Kd.S_R ho); have HX7 := Aside0.mk (Kd.R_reads' (Kd.S_R ho)); have KX := Aside0.mk (And.intro (laws_FnExactTreeNew.ClsOK_of (Kd.S_R ho) (Nat.le_refl _)) (Nat.le_refl w7.heap.size)); have HX := Aside0.mk (Kd.R_mono (ok' := fun b => b < w7.heap.size) (Kd.R_bound (Kd.S_R ho)) (fun b hk => hk.2.2.1)); have LX := Aside0.mk hb.size; have n0_ := Aside0.mk (below_step HB.out hb); have n1_ := Aside0.mk (blk_below BKg4.out hb); have n2_ := Aside0.mk (Kd.R_below Hs1.out hb); have n3_ := Aside0.mk (Kd.R_below Hs2.out hb); clear hb HB BKg4 Hs1 Hs2; have HB := n0_; have BKg4 := n1_; have Hs1 := n2_; have Hs2 := n3_; clear n0_ n1_ n2_ n3_; clear ho)
 clear HX7
 obtain ⟨K1, hK1⟩ : ∃ K1, K1 = w6.heap.size := ⟨_, rfl⟩
 obtain ⟨K2, hK2⟩ : ∃ K2, K2 = w7.heap.size := ⟨_, rfl⟩
 have n0_ : Aside0 (laws_FnExactTreeNew.ClsOK K1 K2 w7 (.slice Ax7 m.length cx7) m ∧ K2 ≤ w7.heap.size) := ⟨by rw [hK1, hK2]; exact KX.out⟩
 have n1_ := Aside0.mk (Kd.R_mono (ok' := fun b => b < K2) HX.out (fun b hk => by rw [hK2]; exact hk))
 have n2_ : Aside0 (g4 < K1) := ⟨by rw [hK1]; exact L6.out⟩
 have n3_ : Aside0 (w.heap.size ≤ K1) := ⟨by rw [hK1]; exact LB.out⟩
 have n4_ : Aside0 (K1 ≤ K2) := ⟨by rw [hK1, hK2]; exact LX.out⟩
 have LK := Aside0.mk (Nat.le_of_eq hK2)
 have n5_ := Aside0.mk (Kd.R_mono (ok' := fun b => b < K1) Hs1.out (fun b hk => by rw [hK1]; exact hk))
 have n6_ := Aside0.mk (Kd.R_mono (ok' := fun b => b < K1) Hs2.out (fun b hk => by rw [hK1]; exact hk))
 clear KX HX L6 LB LX hK1 hK2 Hs1 Hs2
 have KX := n0_
 have HX := n1_
 have L6 := n2_
 have LB := n3_
 have LX := n4_
 have Hs1 := n5_
 have Hs2 := n6_
 clear n0_ n1_ n2_ n3_ n4_ n5_ n6_
 go_upto_region 8 with (first | (go_at_call 8; (with_reducible refine (impl_TreeNew.deep k _ _ m g _ (Kd.R_reads' HX.out).2.2 (Kd.R_reads' HX.out).2.1 AG.out).mono ?_); rintro e w8 ⟨u1_, rfl, ⟨tgg, hd_⟩, hb⟩; have HTg := Aside0.mk hd_.1; have HVg := Aside0.mk (laws_FnExactTreeNew.Deep_lt hd_); have HG := Aside0.mk (impl_copySchema.Deep_lower hd_ LK.out); have LZ := Aside0.mk hb.size; have n0_ := Aside0.mk (below_step HB.out hb); have n1_ := Aside0.mk (blk_below BKg4.out hb); have n2_ := Aside0.mk (Kd.R_below Hs1.out hb); have n3_ := Aside0.mk (Kd.R_below Hs2.out hb); have n4_ := Aside0.mk (laws_FnExactTreeNew.ClsOK_below KX.out hb); have n5_ := Aside0.mk (Kd.R_below HX.out hb); clear hb HB BKg4 Hs1 Hs2 KX HX; have HB := n0_; have BKg4 := n1_; have Hs1 := n2_; have Hs2 := n3_; have KX := n4_; have HX := n5_; clear n0_ n1_ n2_ n3_ n4_ n5_; clear hd_; obtain ⟨Ag, cg, e1_, e2_, e3_⟩ := impl_copySchema.Deep_C HG.out; clear e2_ e3_; subst e1_; obtain ⟨ng, hn_⟩ : ∃ n, n = g.length := ⟨_, rfl⟩; rw [← hn_] at HG HVg; rw [← hn_]; clear hn_) | ((with_reducible refine gate_dst (N := 6) rfl ?_); refine box_event ?hg (N := 6) ?hd (cs := #[.slice none 0 0, .slice none 0 0]) (t := 27) ?hr ?_; (case hd => rfl); (case hg => rfl); (case hr => first | (go_simp; done) | (go_simp; rfl)); intro g6 hg w9 hbox hb; have nbk_ := Aside0.mk hbox; have GEg6 := Aside0.mk (show w.heap.size ≤ g6 by rw [hg]; exact below_size HB.out); have NEg4g6 := Aside0.mk (show g4 ≠ g6 by rw [hg]; exact Nat.ne_of_lt (blk_lt BKg4.out)); have NKg6 := Aside0.mk (show K2 ≤ g6 by rw [hg]; exact KX.out.2); have NZg6 := Aside0.mk (show w8.heap.size ≤ g6 by rw [hg]; exact Nat.le_refl _); have LW := Aside0.mk hb.size; have n0_ := Aside0.mk (below_step HB.out hb); have n1_ := Aside0.mk (blk_below BKg4.out hb); have n2_ := Aside0.mk (Kd.R_below Hs1.out hb); have n3_ := Aside0.mk (Kd.R_below Hs2.out hb); have n4_ := Aside0.mk (laws_FnExactTreeNew.ClsOK_below KX.out hb); have n5_ := Aside0.mk (Kd.R_below HX.out hb); have n6_ := Aside0.mk (impl_copySchema.Deep_below HG.out hb); clear hb HB BKg4 Hs1 Hs2 KX HX HG; have HB := n0_; have BKg4 := n1_; have Hs1 := n2_; have Hs2 := n3_; have KX := n4_; have HX := n5_; have HG := n6_; clear n0_ n1_ n2_ n3_ n4_ n5_ n6_; have BKg6 := nbk_; clear nbk_ hbox hg; have hqg60 : w9.cell? ⟨g6, 0, none⟩ = some (.slice none 0 0) := (blk_cell BKg6.out 0).trans rfl; have hfg60 := blk_frozen BKg6.out 0; have hqg61 : w9.cell? ⟨g6, 1, none⟩ = some (.slice none 0 0) := (blk_cell BKg6.out 1).trans rfl; have hfg61 := blk_frozen BKg6.out 1))
 obtain ⟨K3, hK3⟩ : ∃ K3, K3 = w8.heap.size := ⟨_, rfl⟩
 rw [← hK3] at HTg HVg NZg6 LW
 have n0_ : Aside0 (K2 ≤ K3) := ⟨by rw [hK3]; exact Nat.le_trans LK.out LZ.out⟩
 clear hK3 LZ
 have LZ := n0_
 clear n0_
 clear hqg60 hfg60 hqg61 hfg61
 have n0_ : Aside0 (Below w.heap.size w (World.setCell (World.setCell w9 ⟨g6, 0, none⟩ (.slice Ag ng cg)) ⟨g6, 1, none⟩ (.slice none 0 0))) := ⟨by repeat (first | (with_reducible first | exact HB.out | refine below_set ?_ GEg6.out) | exact HB.out)⟩
 have n1_ : Aside0 ((World.heap (World.setCell (World.setCell w9 ⟨g6, 0, none⟩ (.slice Ag ng cg)) ⟨g6, 1, none⟩ (.slice none 0 0)))[g4]? = some (.cells #[.slice Asa n1 csa, .slice Asb n2 csb] 27 (0, 0))) := ⟨by refine blk_far ?_ NEg4g6.out _; refine blk_far ?_ NEg4g6.out _; exact BKg4.out⟩
 have n2_ : Aside0 (laws_FnExactTreeNew.ClsOK K1 K2 (World.setCell (World.setCell w9 ⟨g6, 0, none⟩ (.slice Ag ng cg)) ⟨g6, 1, none⟩ (.slice none 0 0)) (.slice Ax7 m.length cx7) m ∧ K2 ≤ (World.heap (World.setCell (World.setCell w9 ⟨g6, 0, none⟩ (.slice Ag ng cg)) ⟨g6, 1, none⟩ (.slice none 0 0))).size) := ⟨laws_FnExactTreeNew.ClsOK_keep KX.out (by simp [World.setCell]) (fun b hb => by have hne : b ≠ g6 := (by have := NKg6.out; omega); exact (Below.heap_setCell _ ⟨g6, 1, none⟩ _ b hne).trans (Below.heap_setCell _ ⟨g6, 0, none⟩ _ b hne))⟩
 have n3_ : Aside0 ((World.heap (World.setCell (World.setCell w9 ⟨g6, 0, none⟩ (.slice Ag ng cg)) ⟨g6, 1, none⟩ (.slice none 0 0)))[g6]? = some (.cells #[.slice Ag ng cg, .slice none 0 0] 27 (0, 0))) := ⟨by refine blk_put (cs := #[.slice Ag ng cg, .slice none 0 0]) ?_ 1 _ rfl; refine blk_put (cs := #[.slice none 0 0, .slice none 0 0]) ?_ 0 _ rfl; exact BKg6.out⟩
 have n4_ := Aside0.mk (Kd.R_mono (Kd.R_far (p := ⟨g6, 1, none⟩) (Kd.R_far (p := ⟨g6, 0, none⟩) (Kd.R_types Hs1.out BKg6.out (by decide)) (fun _ hk => hk.2) (.slice Ag ng cg)) (fun _ hk => hk.2) (.slice none 0 0)) (fun _ hk => hk.1))
 have n5_ := Aside0.mk (Kd.R_mono (Kd.R_far (p := ⟨g6, 1, none⟩) (Kd.R_far (p := ⟨g6, 0, none⟩) (Kd.R_types Hs2.out BKg6.out (by decide)) (fun _ hk => hk.2) (.slice Ag ng cg)) (fun _ hk => hk.2) (.slice none 0 0)) (fun _ hk => hk.1))
 have n6_ := Aside0.mk (Kd.R_far (p := ⟨g6, 1, none⟩) (Kd.R_far (p := ⟨g6, 0, none⟩) HX.out (fun b hk => by have := NKg6.out; show b ≠ g6; (try dsimp only at hk); omega) (.slice Ag ng cg)) (fun b hk => by have := NKg6.out; show b ≠ g6; (try dsimp only at hk); omega) (.slice none 0 0))
 have n7_ := Aside0.mk (laws_FnExactTreeNew.Deep_other (w1 := (World.setCell (World.setCell w9 ⟨g6, 0, none⟩ (.slice Ag ng cg)) ⟨g6, 1, none⟩ (.slice none 0 0))) HG.out BKg6.out (by decide) (by decide) (by simp [World.setCell]) (fun b hb => (Below.heap_setCell _ ⟨g6, 1, none⟩ _ b hb).trans (Below.heap_setCell _ ⟨g6, 0, none⟩ _ b hb)))
 clear HB BKg4 KX BKg6 Hs1 Hs2 HX HG
 have HB := n0_
 have BKg4 := n1_
 have KX := n2_
 have BKg6 := n3_
 have Hs1 := n4_
 have Hs2 := n5_
 have HX := n6_
 have HG := n7_
 clear n0_ n1_ n2_ n3_ n4_ n5_ n6_ n7_
 generalize World.setCell (World.setCell w9 _ _) _ _ = w10 at HB BKg4 KX BKg6 Hs1 Hs2 HX HG ⊢
 have hqg60 : w10.cell? ⟨g6, 0, none⟩ = some (.slice Ag ng cg) := (blk_cell BKg6.out 0).trans rfl
 have hfg60 := blk_frozen BKg6.out 0
 have hqg61 : w10.cell? ⟨g6, 1, none⟩ = some (.slice none 0 0) := (blk_cell BKg6.out 1).trans rfl
 have hfg61 := blk_frozen BKg6.out 1
 have hqg40 : w10.cell? ⟨g4, 0, none⟩ = some (.slice Asa n1 csa) := (blk_cell BKg4.out 0).trans rfl
 have hfg40 := blk_frozen BKg4.out 0
 have hqg41 : w10.cell? ⟨g4, 1, none⟩ = some (.slice Asb n2 csb) := (blk_cell BKg4.out 1).trans rfl
 have hfg41 := blk_frozen BKg4.out 1
 go_upto_region 10 with (go_at_call 9; (with_reducible refine (laws_FnExactTreeNew.eqT k true _ HG.out Hs1.out Hs2.out AE.out).mono ?_); rintro e w11 ⟨rfl, hb⟩; have n0_ := Aside0.mk (below_step HB.out hb); have n1_ := Aside0.mk (blk_below BKg4.out hb); have n2_ := Aside0.mk (laws_FnExactTreeNew.ClsOK_below KX.out hb); have n3_ := Aside0.mk (blk_below BKg6.out hb); have n4_ := Aside0.mk (Kd.R_below Hs1.out hb); have n5_ := Aside0.mk (Kd.R_below Hs2.out hb); have n6_ := Aside0.mk (Kd.R_below HX.out hb); have n7_ := Aside0.mk (impl_copySchema.Deep_below HG.out hb); clear hb HB BKg4 KX BKg6 Hs1 Hs2 HX HG; have HB := n0_; have BKg4 := n1_; have KX := n2_; have BKg6 := n3_; have Hs1 := n4_; have Hs2 := n5_; have HX := n6_; have HG := n7_; clear n0_ n1_ n2_ n3_ n4_ n5_ n6_ n7_)
 clear hqg60 hfg60 hqg61 hfg61 hqg40 hfg40 hqg41 hfg41
 go_upto_region 13 with (first | (go_at_call 7; (with_reducible refine (laws_toClassS.calls k _ _ l0 m _ (Kd.C_below HR0.out HB.out) HC0.out AT.out).mono ?_); rintro e w12 ⟨v12, rfl, ho, hb⟩; obtain ⟨Ax12, cx12, rfl⟩ := Kd.R_slice (Kd.S_R ho); have HX12 := Aside0.mk (Kd.R_reads' (Kd.S_R ho)); have n0_ := Aside0.mk (below_step HB.out hb); have n1_ := Aside0.mk (blk_below BKg4.out hb); have n2_ := Aside0.mk (laws_FnExactTreeNew.ClsOK_below KX.out hb); have n3_ := Aside0.mk (blk_below BKg6.out hb); have n4_ := Aside0.mk (Kd.R_below Hs1.out hb); have n5_ := Aside0.mk (Kd.R_below Hs2.out hb); have n6_ := Aside0.mk (Kd.R_below HX.out hb); have n7_ := Aside0.mk (impl_copySchema.Deep_below HG.out hb); clear hb HB BKg4 KX BKg6 Hs1 Hs2 HX HG; have HB := n0_; have BKg4 := n1_; have KX := n2_; have BKg6 := n3_; have Hs1 := n4_; have Hs2 := n5_; have HX := n6_; have HG := n7_; clear n0_ n1_ n2_ n3_ n4_ n5_ n6_ n7_; clear ho) | (go_at_call 10; (with_reducible refine (laws_eqClassS.calls k _ _ m _ _ m true _ (Kd.R_reads' HX.out).2.2 (Kd.R_reads' HX.out).2.1 HX12.out.2.2 HX12.out.2.1 AC.out).mono ?_); rintro e w13 ⟨rfl, hb⟩; clear HX12; have n0_ := Aside0.mk (below_step HB.out hb); have n1_ := Aside0.mk (blk_below BKg4.out hb); have n2_ := Aside0.mk (laws_FnExactTreeNew.ClsOK_below KX.out hb); have n3_ := Aside0.mk (blk_below BKg6.out hb); have n4_ := Aside0.mk (Kd.R_below Hs1.out hb); have n5_ := Aside0.mk (Kd.R_below Hs2.out hb); have n6_ := Aside0.mk (Kd.R_below HX.out hb); have n7_ := Aside0.mk (impl_copySchema.Deep_below HG.out hb); clear hb HB BKg4 KX BKg6 Hs1 Hs2 HX HG; have HB := n0_; have BKg4 := n1_; have KX := n2_; have BKg6 := n3_; have Hs1 := n4_; have Hs2 := n5_; have HX := n6_; have HG := n7_; clear n0_ n1_ n2_ n3_ n4_ n5_ n6_ n7_))
 go_upto_region 14 with (go_at_call 11; (with_reducible refine (laws_FnExactTreeNew.markC k K1 K2 _ m 1 kk _ KX.out.1 AM.out).mono ?_); rintro e w14 ⟨rfl, hs⟩; have n0_ := Aside0.mk (below_weaken HB.out LB.out (laws_FnExactTreeNew.Sh_under hs (Nat.le_refl _) (Nat.le_trans LX.out KX.out.2))); have n1_ := Aside0.mk ((hs.2.2.2.2.1 g4 (blk_lt BKg4.out) (.inl L6.out)).trans BKg4.out); have n2_ := Aside0.mk ((hs.2.2.2.2.1 g6 (blk_lt BKg6.out) (.inr NKg6.out)).trans BKg6.out); have n3_ := Aside0.mk (Kd.R_step Hs1.out (fun b hok hlt => hs.2.2.2.2.1 b hlt (.inl hok))); have n4_ := Aside0.mk (Kd.R_step Hs2.out (fun b hok hlt => hs.2.2.2.2.1 b hlt (.inl hok))); have n5_ := Aside0.mk (impl_copySchema.Deep_step HG.out hs.2.2.2.1 (fun b hb hlt => hs.2.2.2.2.1 b hlt (.inr hb))); clear hs KX HX HB BKg4 BKg6 Hs1 Hs2 HG; have HB := n0_; have BKg4 := n1_; have BKg6 := n2_; have Hs1 := n3_; have Hs2 := n4_; have HG := n5_; clear n0_ n1_ n2_ n3_ n4_ n5_)
 have hqg60 : w14.cell? ⟨g6, 0, none⟩ = some (.slice Ag ng cg) := (blk_cell BKg6.out 0).trans rfl
 have hfg60 := blk_frozen BKg6.out 0
 have hqg61 : w14.cell? ⟨g6, 1, none⟩ = some (.slice none 0 0) := (blk_cell BKg6.out 1).trans rfl
 have hfg61 := blk_frozen BKg6.out 1
 have hqg40 : w14.cell? ⟨g4, 0, none⟩ = some (.slice Asa n1 csa) := (blk_cell BKg4.out 0).trans rfl
 have hfg40 := blk_frozen BKg4.out 0
 have hqg41 : w14.cell? ⟨g4, 1, none⟩ = some (.slice Asb n2 csb) := (blk_cell BKg4.out 1).trans rfl
 have hfg41 := blk_frozen BKg4.out 1
 go_upto_region 17 with (go_at_call 9; (with_reducible refine (laws_FnExactTreeNew.eqT k true _ HG.out Hs1.out Hs2.out AE.out).mono ?_); rintro e w15 ⟨rfl, hb⟩; have n0_ := Aside0.mk (below_step HB.out hb); have n1_ := Aside0.mk (blk_below BKg4.out hb); have n2_ := Aside0.mk (blk_below BKg6.out hb); have n3_ := Aside0.mk (Kd.R_below Hs1.out hb); have n4_ := Aside0.mk (Kd.R_below Hs2.out hb); have n5_ := Aside0.mk (impl_copySchema.Deep_below HG.out hb); clear hb HB BKg4 BKg6 Hs1 Hs2 HG; have HB := n0_; have BKg4 := n1_; have BKg6 := n2_; have Hs1 := n3_; have Hs2 := n4_; have HG := n5_; clear n0_ n1_ n2_ n3_ n4_ n5_)
 clear hqg60 hfg60 hqg61 hfg61 hqg40 hfg40 hqg41 hfg41
 have hqg60 : w15.cell? ⟨g6, 0, none⟩ = some (.slice Ag ng cg) := (blk_cell BKg6.out 0).trans rfl
 have hfg60 := blk_frozen BKg6.out 0
 have hqg61 : w15.cell? ⟨g6, 1, none⟩ = some (.slice none 0 0) := (blk_cell BKg6.out 1).trans rfl
 have hfg61 := blk_frozen BKg6.out 1
 go_upto_region 19 with (go_at_call 12; (with_reducible refine (laws_FnExactTreeNew.markT k K2 K3 tgg Ag cg g ng 1 q dm _ (by have h1 := NKg6.out; have h2 := blk_lt BKg6.out; omega) (by have h1 := NZg6.out; have h2 := blk_lt BKg6.out; omega) HTg.out HVg.out HG.out AK.out).mono ?_); rintro e w16 ⟨rfl, hd, hb, hk⟩; have n0_ := Aside0.mk (below_weaken HB.out (Nat.le_trans LB.out LX.out) hb); have n1_ := Aside0.mk ((hb.block g4 (by have h1 := L6.out; have h2 := LX.out; omega)).trans BKg4.out); have n2_ := Aside0.mk (blk_kept BKg6.out hk (by have h1 := NZg6.out; (try dsimp only); omega)); have n3_ := Aside0.mk (Kd.R_step Hs1.out (fun b hok _ => hb.block b (by have h2 := LX.out; (try dsimp only at hok); omega))); have n4_ := Aside0.mk (Kd.R_step Hs2.out (fun b hok _ => hb.block b (by have h2 := LX.out; (try dsimp only at hok); omega))); have n5_ := Aside0.mk hd; clear hb hk hd HB BKg4 BKg6 Hs1 Hs2 HG; have HB := n0_; have BKg4 := n1_; have BKg6 := n2_; have Hs1 := n3_; have Hs2 := n4_; have HG := n5_; clear n0_ n1_ n2_ n3_ n4_ n5_)
 clear hqg60 hfg60 hqg61 hfg61
 have hqg60 : w16.cell? ⟨g6, 0, none⟩ = some (.slice Ag ng cg) := (blk_cell BKg6.out 0).trans rfl
 have hfg60 := blk_frozen BKg6.out 0
 have hqg61 : w16.cell? ⟨g6, 1, none⟩ = some (.slice none 0 0) := (blk_cell BKg6.out 1).trans rfl
 have hfg61 := blk_frozen BKg6.out 1
 go_upto_region 24 with (go_at_call 13; (with_reducible refine (laws_FnExactTreeNew.heldT k 1 q _ HG.out AQ.out).mono ?_); rintro e w17 ⟨rfl, hb⟩; have n0_ := Aside0.mk (below_step HB.out hb); have n1_ := Aside0.mk (blk_below BKg4.out hb); have n2_ := Aside0.mk (blk_below BKg6.out hb); have n3_ := Aside0.mk (Kd.R_below Hs1.out hb); have n4_ := Aside0.mk (Kd.R_below Hs2.out hb); have n5_ := Aside0.mk (impl_copySchema.Deep_below HG.out hb); clear hb HB BKg4 BKg6 Hs1 Hs2 HG; have HB := n0_; have BKg4 := n1_; have BKg6 := n2_; have Hs1 := n3_; have Hs2 := n4_; have HG := n5_; clear n0_ n1_ n2_ n3_ n4_ n5_)
 clear hqg60 hfg60 hqg61 hfg61
 go_upto_region 25 with (first | (go_at_call 7; (with_reducible refine (laws_toClassS.calls k _ _ l0 m _ (Kd.C_below HR0.out HB.out) HC0.out AT.out).mono ?_); rintro e w18 ⟨v18, rfl, ho, hb⟩; obtain ⟨Ax18, cx18, rfl⟩ := Kd.R_slice (Kd.S_R ho); have HX18 := Aside0.mk (Kd.R_reads' (Kd.S_R ho)); have n0_ := Aside0.mk (below_step HB.out hb); have n1_ := Aside0.mk (blk_below BKg4.out hb); have n2_ := Aside0.mk (blk_below BKg6.out hb); have n3_ := Aside0.mk (Kd.R_below Hs1.out hb); have n4_ := Aside0.mk (Kd.R_below Hs2.out hb); have n5_ := Aside0.mk (impl_copySchema.Deep_below HG.out hb); clear hb HB BKg4 BKg6 Hs1 Hs2 HG; have HB := n0_; have BKg4 := n1_; have BKg6 := n2_; have Hs1 := n3_; have Hs2 := n4_; have HG := n5_; clear n0_ n1_ n2_ n3_ n4_ n5_; clear ho) | (go_at_call 8; (with_reducible refine (impl_TreeNew.deep k _ _ m g _ HX18.out.2.2 HX18.out.2.1 AG.out).mono ?_); rintro e w19 ⟨u1_, rfl, ⟨tgh, hd_⟩, hb⟩; have HTh := Aside0.mk hd_.1; have HVh := Aside0.mk (laws_FnExactTreeNew.Deep_lt hd_); have HH := Aside0.mk (hd_); clear HX18; have n0_ := Aside0.mk (below_step HB.out hb); have n1_ := Aside0.mk (blk_below BKg4.out hb); have n2_ := Aside0.mk (blk_below BKg6.out hb); have n3_ := Aside0.mk (Kd.R_below Hs1.out hb); have n4_ := Aside0.mk (Kd.R_below Hs2.out hb); have n5_ := Aside0.mk (impl_copySchema.Deep_below HG.out hb); clear hb HB BKg4 BKg6 Hs1 Hs2 HG; have HB := n0_; have BKg4 := n1_; have BKg6 := n2_; have Hs1 := n3_; have Hs2 := n4_; have HG := n5_; clear n0_ n1_ n2_ n3_ n4_ n5_; clear hd_; obtain ⟨Ah, ch, e1_, e2_, e3_⟩ := impl_copySchema.Deep_C HH.out; clear e2_ e3_; subst e1_; obtain ⟨nh, hn_⟩ : ∃ n, n = g.length := ⟨_, rfl⟩; rw [← hn_] at HH HVh; rw [← hn_]; clear hn_) | ((with_reducible refine gate_dst (N := 10) rfl ?_); refine box_event ?hg (N := 10) ?hd (cs := #[.slice none 0 0, .slice none 0 0]) (t := 27) ?hr ?_; (case hd => rfl); (case hg => rfl); (case hr => first | (go_simp; done) | (go_simp; rfl)); intro g10 hg w20 hbox hb; have nbk_ := Aside0.mk hbox; have GEg10 := Aside0.mk (show w.heap.size ≤ g10 by rw [hg]; exact below_size HB.out); have NEg4g10 := Aside0.mk (show g4 ≠ g10 by rw [hg]; exact Nat.ne_of_lt (blk_lt BKg4.out)); have NEg6g10 := Aside0.mk (show g6 ≠ g10 by rw [hg]; exact Nat.ne_of_lt (blk_lt BKg6.out)); have n0_ := Aside0.mk (below_step HB.out hb); have n1_ := Aside0.mk (blk_below BKg4.out hb); have n2_ := Aside0.mk (blk_below BKg6.out hb); have n3_ := Aside0.mk (Kd.R_below Hs1.out hb); have n4_ := Aside0.mk (Kd.R_below Hs2.out hb); have n5_ := Aside0.mk (impl_copySchema.Deep_below HG.out hb); have n6_ := Aside0.mk (impl_copySchema.Deep_below HH.out hb); clear hb HB BKg4 BKg6 Hs1 Hs2 HG HH; have HB := n0_; have BKg4 := n1_; have BKg6 := n2_; have Hs1 := n3_; have Hs2 := n4_; have HG := n5_; have HH := n6_; clear n0_ n1_ n2_ n3_ n4_ n5_ n6_; have BKg10 := nbk_; clear nbk_ hbox hg; have hqg100 : w20.cell? ⟨g10, 0, none⟩ = some (.slice none 0 0) := (blk_cell BKg10.out 0).trans rfl; have hfg100 := blk_frozen BKg10.out 0; have hqg101 : w20.cell? ⟨g10, 1, none⟩ = some (.slice none 0 0) := (blk_cell BKg10.out 1).trans rfl; have hfg101 := blk_frozen BKg10.out 1))
 clear HTh HVh
 clear hqg100 hfg100 hqg101 hfg101
 have n0_ : Aside0 (Below w.heap.size w (World.setCell (World.setCell w20 ⟨g10, 0, none⟩ (.slice Ah nh ch)) ⟨g10, 1, none⟩ (.slice none 0 0))) := ⟨by repeat (first | (with_reducible first | exact HB.out | refine below_set ?_ GEg10.out) | exact HB.out)⟩
 have n1_ : Aside0 ((World.heap (World.setCell (World.setCell w20 ⟨g10, 0, none⟩ (.slice Ah nh ch)) ⟨g10, 1, none⟩ (.slice none 0 0)))[g4]? = some (.cells #[.slice Asa n1 csa, .slice Asb n2 csb] 27 (0, 0))) := ⟨by refine blk_far ?_ NEg4g10.out _; refine blk_far ?_ NEg4g10.out _; exact BKg4.out⟩
 have n2_ : Aside0 ((World.heap (World.setCell (World.setCell w20 ⟨g10, 0, none⟩ (.slice Ah nh ch)) ⟨g10, 1, none⟩ (.slice none 0 0)))[g6]? = some (.cells #[.slice Ag ng cg, .slice none 0 0] 27 (0, 0))) := ⟨by refine blk_far ?_ NEg6g10.out _; refine blk_far ?_ NEg6g10.out _; exact BKg6.out⟩
 have n3_ : Aside0 ((World.heap (World.setCell (World.setCell w20 ⟨g10, 0, none⟩ (.slice Ah nh ch)) ⟨g10, 1, none⟩ (.slice none 0 0)))[g10]? = some (.cells #[.slice Ah nh ch, .slice none 0 0] 27 (0, 0))) := ⟨by refine blk_put (cs := #[.slice Ah nh ch, .slice none 0 0]) ?_ 1 _ rfl; refine blk_put (cs := #[.slice none 0 0, .slice none 0 0]) ?_ 0 _ rfl; exact BKg10.out⟩
 have n4_ := Aside0.mk (Kd.R_mono (Kd.R_far (p := ⟨g10, 1, none⟩) (Kd.R_far (p := ⟨g10, 0, none⟩) (Kd.R_types Hs1.out BKg10.out (by decide)) (fun _ hk => hk.2) (.slice Ah nh ch)) (fun _ hk => hk.2) (.slice none 0 0)) (fun _ hk => hk.1))
 have n5_ := Aside0.mk (Kd.R_mono (Kd.R_far (p := ⟨g10, 1, none⟩) (Kd.R_far (p := ⟨g10, 0, none⟩) (Kd.R_types Hs2.out BKg10.out (by decide)) (fun _ hk => hk.2) (.slice Ah nh ch)) (fun _ hk => hk.2) (.slice none 0 0)) (fun _ hk => hk.1))
 have n6_ := Aside0.mk (laws_FnExactTreeNew.Deep_other (w1 := (World.setCell (World.setCell w20 ⟨g10, 0, none⟩ (.slice Ah nh ch)) ⟨g10, 1, none⟩ (.slice none 0 0))) HG.out BKg10.out (by decide) (by decide) (by simp [World.setCell]) (fun b hb => (Below.heap_setCell _ ⟨g10, 1, none⟩ _ b hb).trans (Below.heap_setCell _ ⟨g10, 0, none⟩ _ b hb)))
 have n7_ := Aside0.mk (laws_FnExactTreeNew.Deep_other (w1 := (World.setCell (World.setCell w20 ⟨g10, 0, none⟩ (.slice Ah nh ch)) ⟨g10, 1, none⟩ (.slice none 0 0))) HH.out BKg10.out (by decide) (by decide) (by simp [World.setCell]) (fun b hb => (Below.heap_setCell _ ⟨g10, 1, none⟩ _ b hb).trans (Below.heap_setCell _ ⟨g10, 0, none⟩ _ b hb)))
 clear HB BKg4 BKg6 BKg10 Hs1 Hs2 HG HH
 have HB := n0_
 have BKg4 := n1_
 have BKg6 := n2_
 have BKg10 := n3_
 have Hs1 := n4_
 have Hs2 := n5_
 have HG := n6_
 have HH := n7_
 clear n0_ n1_ n2_ n3_ n4_ n5_ n6_ n7_
 generalize World.setCell (World.setCell w20 _ _) _ _ = w21 at HB BKg4 BKg6 BKg10 Hs1 Hs2 HG HH ⊢
 have hqg100 : w21.cell? ⟨g10, 0, none⟩ = some (.slice Ah nh ch) := (blk_cell BKg10.out 0).trans rfl
 have hfg100 := blk_frozen BKg10.out 0
 have hqg101 : w21.cell? ⟨g10, 1, none⟩ = some (.slice none 0 0) := (blk_cell BKg10.out 1).trans rfl
 have hfg101 := blk_frozen BKg10.out 1
 have hqg40 : w21.cell? ⟨g4, 0, none⟩ = some (.slice Asa n1 csa) := (blk_cell BKg4.out 0).trans rfl
 have hfg40 := blk_frozen BKg4.out 0
 have hqg41 : w21.cell? ⟨g4, 1, none⟩ = some (.slice Asb n2 csb) := (blk_cell BKg4.out 1).trans rfl
 have hfg41 := blk_frozen BKg4.out 1
 go_upto_region 28 with (go_at_call 9; (with_reducible refine (laws_FnExactTreeNew.eqT k true _ HH.out Hs1.out Hs2.out AE.out).mono ?_); rintro e w22 ⟨rfl, hb⟩; have n0_ := Aside0.mk (below_step HB.out hb); have n1_ := Aside0.mk (blk_below BKg4.out hb); have n2_ := Aside0.mk (blk_below BKg6.out hb); have n3_ := Aside0.mk (blk_below BKg10.out hb); have n4_ := Aside0.mk (Kd.R_below Hs1.out hb); have n5_ := Aside0.mk (Kd.R_below Hs2.out hb); have n6_ := Aside0.mk (impl_copySchema.Deep_below HG.out hb); have n7_ := Aside0.mk (impl_copySchema.Deep_below HH.out hb); clear hb HB BKg4 BKg6 BKg10 Hs1 Hs2 HG HH; have HB := n0_; have BKg4 := n1_; have BKg6 := n2_; have BKg10 := n3_; have Hs1 := n4_; have Hs2 := n5_; have HG := n6_; have HH := n7_; clear n0_ n1_ n2_ n3_ n4_ n5_ n6_ n7_)
 clear hqg100 hfg100 hqg101 hfg101 hqg40 hfg40 hqg41 hfg41
 have hqg60 : w22.cell? ⟨g6, 0, none⟩ = some (.slice Ag ng cg) := (blk_cell BKg6.out 0).trans rfl
 have hfg60 := blk_frozen BKg6.out 0
 have hqg61 : w22.cell? ⟨g6, 1, none⟩ = some (.slice none 0 0) := (blk_cell BKg6.out 1).trans rfl
 have hfg61 := blk_frozen BKg6.out 1
 go_wp2_with (go_at_call 13; (with_reducible refine (laws_FnExactTreeNew.heldT k 1 q _ HG.out AQ.out).mono ?_); rintro e w23 ⟨rfl, hb⟩; have n0_ := Aside0.mk (below_step HB.out hb); have n1_ := Aside0.mk (blk_below BKg4.out hb); have n2_ := Aside0.mk (blk_below BKg6.out hb); have n3_ := Aside0.mk (blk_below BKg10.out hb); have n4_ := Aside0.mk (Kd.R_below Hs1.out hb); have n5_ := Aside0.mk (Kd.R_below Hs2.out hb); have n6_ := Aside0.mk (impl_copySchema.Deep_below HG.out hb); have n7_ := Aside0.mk (impl_copySchema.Deep_below HH.out hb); clear hb HB BKg4 BKg6 BKg10 Hs1 Hs2 HG HH; have HB := n0_; have BKg4 := n1_; have BKg6 := n2_; have BKg10 := n3_; have Hs1 := n4_; have Hs2 := n5_; have HG := n6_; have HH := n7_; clear n0_ n1_ n2_ n3_ n4_ n5_ n6_ n7_)
 go_ret
 exact ⟨rfl, HB.out⟩
def ok45 (x : S45) : Prop := x.f0.size ≤ 140737488351232 ∧ (x.f1.length * 16 ≤ 140737488351232 ∧ ∀ y_ ∈ x.f1, y_.size ≤ 140737488351232) ∧ (x.f2.length * 16 ≤ 140737488351232 ∧ ∀ y_ ∈ x.f2, y_.size ≤ 140737488351232) ∧ (x.f3.length * 16 ≤ 140737488351232 ∧ ∀ y_ ∈ x.f3, y_.size ≤ 140737488351232)
def laws_FnExactTreeNew.Pure : Prop := ∀ (l0 : List (S45)), (l0.length * 88 ≤ 140737488351232 ∧ ∀ y_ ∈ l0, ok45 y_) → ∃ k, laws_FnExactTreeNew.f k l0 = some true
end Go.Proofs.YtdlbcamnimdfjaaGreatDoor.PFnExactTreeNew
