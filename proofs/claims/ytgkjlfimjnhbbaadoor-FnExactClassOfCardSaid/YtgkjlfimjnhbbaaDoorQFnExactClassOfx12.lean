-- Laid by this session's own program out of the translation; Lean checks it.
import Derived.Test.YtgkjlfimjnhbbaaDoorQFnExactClassOfx0
import Derived.Test.YtgkjlfimjnhbbaaDoorQFnExactClassOfx1
import Derived.Test.YtgkjlfimjnhbbaaDoorQFnExactClassOfx5
import Derived.Test.YtgkjlfimjnhbbaaDoorQFnExactClassOfx9
import Derived.Test.YtgkjlfimjnhbbaaDoorQFnExactClassOfx10
import Derived.Test.YtgkjlfimjnhbbaaDoorQFnExactClassOfx11
namespace Go.Proofs.YtgkjlfimjnhbbaaDoor.PFnExactClassOf
open Go.RowKit Go.Proofs.YtgkjlfimjnhbbaaDoorW.PrintWords Go.Proofs.YtgkjlfimjnhbbaaDoorW.PrintLast Go.Proofs.YtgkjlfimjnhbbaaDoorW.PrintMore
attribute [local go_sem] max2_int min2_int max_two min_two max_three min_three max_four min_four   -- for this text's walks alone
set_option linter.unusedVariables false
set_option linter.unusedSimpArgs false
def laws_FnExactClassOf.Sh (lo hi : Nat) (w w' : World) : Prop := w'.os = w.os ∧ w'.tape = w.tape ∧ w'.output = w.output ∧ w.heap.size ≤ w'.heap.size ∧ (∀ b, b < w.heap.size → (b < lo ∨ hi ≤ b) → w'.heap[b]? = w.heap[b]?) ∧
 ∀ (b : Nat) (cur : Array Value) (e : TypeId), lo ≤ b → b < hi → w.heap[b]? = some (.cells cur e (0, 0)) → ∃ cur' : Array Value, w'.heap[b]? = some (.cells cur' e (0, 0)) ∧ ∀ j : Nat, cur'[j]? = cur[j]? ∨ ((∃ s, cur[j]? = some (.string s)) ∧ ∃ s', cur'[j]? = some (.string s'))
theorem laws_FnExactClassOf.Sh_refl (lo hi : Nat) (w : World) : laws_FnExactClassOf.Sh lo hi w w := ⟨rfl, rfl, rfl, Nat.le_refl _, fun _ _ _ => rfl, fun b cur e _ _ h => ⟨cur, h, fun _ => .inl rfl⟩⟩
theorem laws_FnExactClassOf.Sh_below {lo hi : Nat} {w w1 w2 : World} (h : laws_FnExactClassOf.Sh lo hi w w1) (hb : Below w1.heap.size w1 w2) : laws_FnExactClassOf.Sh lo hi w w2 := by
 obtain ⟨h1, h2, h3, h4, h5, h6⟩ := h
 refine ⟨hb.os.trans h1, hb.tape.trans h2, hb.output.trans h3, Nat.le_trans h4 hb.size, fun b hlt ho => (hb.block b (by omega)).trans (h5 b hlt ho), fun b cur e hlo hhi hc => ?_⟩
 obtain ⟨cur', hc', hj⟩ := h6 b cur e hlo hhi hc
 exact ⟨cur', (hb.block b (blk_lt hc')).trans hc', hj⟩
theorem laws_FnExactClassOf.Sh_set {lo hi : Nat} {w w1 : World} (h : laws_FnExactClassOf.Sh lo hi w w1) {g j : Nat} {cur : Array Value} {e : TypeId} {s t : ByteArray} (hlo : lo ≤ g) (hhi : g < hi) (hc : w.heap[g]? = some (.cells cur e (0, 0))) (hs : cur[j]? = some (.string s)) : laws_FnExactClassOf.Sh lo hi w (w1.setCell ⟨g, j, none⟩ (.string t)) := by
 obtain ⟨h1, h2, h3, h4, h5, h6⟩ := h
 refine ⟨h1, h2, h3, by simpa [World.setCell] using h4, fun b hlt ho => (Below.heap_setCell w1 ⟨g, j, none⟩ _ b (by rintro rfl; (try dsimp only at ho); omega)).trans (h5 b hlt ho), fun b cur2 e2 hlo2 hhi2 hc2 => ?_⟩
 obtain ⟨cur', hc', hj⟩ := h6 b cur2 e2 hlo2 hhi2 hc2
 by_cases hbg : b = g
 ·subst hbg
  rw [hc] at hc2
  cases hc2
  refine ⟨cur'.setIfInBounds j (.string t), blk_set hc' j _, fun q => ?_⟩
  rw [Array.getElem?_setIfInBounds]
  by_cases hq : j = q
  ·subst hq
   right
   refine ⟨⟨s, hs⟩, t, ?_⟩
   have hlt : j < cur'.size := by
    rcases hj j with e1 | ⟨_, s', e1⟩
    ·rw [hs] at e1; exact (Array.getElem?_eq_some_iff.1 e1).1
    ·exact (Array.getElem?_eq_some_iff.1 e1).1
   rw [if_pos rfl, if_pos hlt]
  ·rw [if_neg hq]; exact hj q
 ·exact ⟨cur', blk_far hc' (p := ⟨g, j, none⟩) hbg _, hj⟩
theorem laws_FnExactClassOf.Sh_str {lo hi : Nat} {w w1 : World} (h : laws_FnExactClassOf.Sh lo hi w w1) {g j : Nat} {cur : Array Value} {e : TypeId} {s : ByteArray} (hlo : lo ≤ g) (hhi : g < hi) (hc : w.heap[g]? = some (.cells cur e (0, 0))) (hs : cur[j]? = some (.string s)) : ∃ s', w1.cell? ⟨g, j, none⟩ = some (.string s') ∧ w1.frozen? ⟨g, j, none⟩ = false := by
 obtain ⟨cur', hc', hj⟩ := h.2.2.2.2.2 g cur e hlo hhi hc
 rcases hj j with e1 | ⟨_, s', e1⟩
 ·exact ⟨s, (blk_cell hc' j).trans (e1.trans hs), blk_frozen hc' j⟩
 ·exact ⟨s', (blk_cell hc' j).trans e1, blk_frozen hc' j⟩
theorem laws_FnExactClassOf.Sh_same {lo hi : Nat} {w w1 : World} (h : laws_FnExactClassOf.Sh lo hi w w1) {g j : Nat} {cur : Array Value} {e : TypeId} {A : Option Addr} {n c : Nat} (hlo : lo ≤ g) (hhi : g < hi) (hc : w.heap[g]? = some (.cells cur e (0, 0))) (hs : cur[j]? = some (.slice A n c)) : w1.cell? ⟨g, j, none⟩ = some (.slice A n c) := by
 obtain ⟨cur', hc', hj⟩ := h.2.2.2.2.2 g cur e hlo hhi hc
 rcases hj j with e1 | ⟨⟨s, e1⟩, _⟩
 ·exact (blk_cell hc' j).trans (e1.trans hs)
 ·rw [hs] at e1; cases e1
theorem laws_FnExactClassOf.Sh_under {lo hi B : Nat} {w w1 : World} (h : laws_FnExactClassOf.Sh lo hi w w1) (hB : B ≤ lo) (hw : B ≤ w.heap.size) : Below B w w1 := ⟨h.1, h.2.1, h.2.2.1, h.2.2.2.1, fun b hb => h.2.2.2.2.1 b (by omega) (.inl (by omega))⟩
def laws_FnExactClassOf.SlOK (lo hi : Nat) (w : World) (u : Value) (n : Nat) : Prop := n ≤ 9223372036854775807 ∧ ∃ A c, u = .slice A n c ∧ (0 < n → ∃ g, A = some ⟨g, 0, none⟩ ∧ lo ≤ g ∧ g < hi ∧ ∃ cur : Array Value, w.heap[g]? = some (.cells cur 9 (0, 0)) ∧ ∀ j, j < n → ∃ s, cur[j]? = some (.string s))
theorem laws_FnExactClassOf.SlOK_of {lo hi : Nat} {w : World} {ok : Nat → Prop} {u : Value} {xs : List ByteArray} (h : Kd.R Kd.string 9 w lo ok u xs) (hhi : w.heap.size ≤ hi) : laws_FnExactClassOf.SlOK lo hi w u xs.length := by
 obtain ⟨A, c, rfl⟩ := Kd.R_slice h
 have hm := (Kd.R_reads' h).2.2.2.1
 refine ⟨hm, A, c, rfl, fun hp => ?_⟩
 obtain ⟨g, cap, e, hb, hl, _⟩ := Kd.R_form h hp
 have ho := Kd.own_of_R h
 injection e with e1 e2 e3
 subst e1
 rcases ho.2 with ⟨e4, _⟩ | ⟨g', cap', cur, e4, _, hc, _, _, _, ht⟩
 ·cases e4
 ·injection e4 with e5
  injection e5 with e5
  injection e5 with e5
  subst e5
  refine ⟨g, rfl, hb, by omega, cur, hc, fun j hj => ?_⟩
  have h1 : (cur.toList.take (xs.length * 1))[j]? = (encs Value.string xs)[j]? := by rw [ht]
  rw [List.getElem?_take, if_pos (by omega), Array.getElem?_toList] at h1
  exact ⟨xs[j], by rw [h1]; simp [encs, List.getElem?_eq_getElem hj]⟩
def laws_FnExactClassOf.mS (k : Nat) : Nat → Int → Option Int
 | 0, a => some a
 | n + 1, a => (laws_markText.f k a).bind fun _ => laws_FnExactClassOf.mS k n (wrap64 (a + 1))
theorem laws_FnExactClassOf.mono_mS (k : Nat) : ∀ (n : Nat) (a : Int), LeO (laws_FnExactClassOf.mS k n a) (laws_FnExactClassOf.mS (k + 1) n a)
 | 0, _ => LeO.refl _
 | n + 1, a => LeO.bind (laws_markText.mono _ _) (fun _ => laws_FnExactClassOf.mono_mS k n _)
set_option maxHeartbeats 8000000 in
set_option maxRecDepth 100000 in
theorem laws_FnExactClassOf.markS (k lo hi : Nat) (u : Value) (n : Nat) (a r : Int) (w w1 : World) (hu : laws_FnExactClassOf.SlOK lo hi w u n) (hs : laws_FnExactClassOf.Sh lo hi w w1) (h : laws_FnExactClassOf.mS k n a = some r) :
  Calls Tryd.prog 28 #[u, .int .i64 a] w1 fun e w' => e = .returned (.int .i64 r) ∧ laws_FnExactClassOf.Sh lo hi w w' := by
 obtain ⟨hm, A, c, rfl, hu⟩ := hu
 have HM := Aside0.mk hm
 have HU := Aside0.mk hu
 have HS := Aside0.mk hs
 have H' := Aside0.mk h
 clear hm hu hs h
 go_enter Tryd.func28, Tryd.ntmps28
 go_wp2
 go_loopg [1, 5] n (fun kq v1 v5 w' => ∃ (j : Nat) (b : Int), v5 = .int .i64 (j : Int) ∧ v1 = .int .i64 b ∧ Aside0 (laws_FnExactClassOf.mS k (n - j) b = some r) ∧ Aside0 (j ≤ n) ∧ Aside0 (n - j ≤ kq) ∧ Aside0 (laws_FnExactClassOf.Sh lo hi w w'))
 case atStart => exact ⟨0, a, rfl, rfl, H', ⟨Nat.zero_le _⟩, ⟨by omega⟩, HS⟩
 case round =>
  clear H' HS
  obtain ⟨j, b, rfl, rfl, HA, HJ, HK, HS⟩ := hrel
  by_cases c1 : (j : Int) < (n : Int)
  ·have c1b0 : decide ((j : Int) < (n : Int)) = true := decide_eq_true c1
   have c1b1 : decide (j < n) = true := decide_eq_true (by omega)
   have hj : j < n := by omega
   obtain ⟨g, rfl, hlo, hhi, cur, hcur, hstr⟩ := HU.out (by omega)
   obtain ⟨s, hsj⟩ := hstr j hj
   have H := HA.out
   rw [show n - j = (n - (j + 1)) + 1 by omega] at H
   simp only [laws_FnExactClassOf.mS] at H
   obtain ⟨t, At0, H⟩ := Option.bind_eq_some_iff.1 H
   have At := Aside0.mk At0
   have HN := Aside0.mk H
   have HX := Aside0.mk (And.intro hlo (And.intro hhi (And.intro hcur hsj)))
   have HJ2 := Aside0.mk hj
   clear At0 H HA hlo hhi hcur hsj hstr hj
   have p1 : 0 ≤ (j : Int) := by omega
   have c1i := eq_true c1
   clear c1
   go_wp2_with (go_at_call 62; (with_reducible refine (laws_markText.calls k b t _ At.out).mono ?_); rintro e w5 ⟨rfl, hb⟩; have n0_ := Aside0.mk (laws_FnExactClassOf.Sh_below HS.out hb); clear HS; have HS := n0_; clear n0_ hb; obtain ⟨s5, hx5, hf5⟩ := laws_FnExactClassOf.Sh_str HS.out HX.out.1 HX.out.2.1 HX.out.2.2.1 HX.out.2.2.2)
   go_roundg (n - (j + 1))
   case measure => have := HK.out; have := HJ2.out; omega
   case rel => exact ⟨j + 1, _, by have := HJ2.out; have := HM.out; first | rfl | go_num | (congr 1; unfold wrap64; omega), rfl, HN, ⟨HJ2.out⟩, ⟨Nat.le_refl _⟩, ⟨laws_FnExactClassOf.Sh_set HS.out HX.out.1 HX.out.2.1 HX.out.2.2.1 HX.out.2.2.2⟩⟩
  ·have c1b0 : decide ((j : Int) < (n : Int)) = false := decide_eq_false c1
   have c1b1 : decide (j < n) = false := decide_eq_false (by omega)
   have H := HA.out
   rw [show n - j = 0 by omega] at H
   simp only [laws_FnExactClassOf.mS] at H
   obtain rfl := Option.some.inj H
   clear c1
   go_wp2
   go_ret
   exact ⟨rfl, HS.out⟩
def laws_FnExactClassOf.ClsOK (lo hi : Nat) (w : World) (v : Value) (l : List (S62)) : Prop := l.length ≤ 9223372036854775807 ∧ ∃ A c, v = .slice A l.length c ∧ (0 < l.length → ∃ g, A = some ⟨g, 0, none⟩ ∧ lo ≤ g ∧ g < hi ∧ ∃ cur : Array Value, w.heap[g]? = some (.cells cur 62 (0, 0)) ∧
 ∀ (j : Nat) (x : S62), l[j]? = some x → ∃ s u1 u2 u3, cur[j * 4]? = some (.string s) ∧ cur[j * 4 + 1]? = some u1 ∧ cur[j * 4 + 2]? = some u2 ∧ cur[j * 4 + 3]? = some u3 ∧ laws_FnExactClassOf.SlOK lo hi w u1 x.f1.length ∧ laws_FnExactClassOf.SlOK lo hi w u2 x.f2.length ∧ laws_FnExactClassOf.SlOK lo hi w u3 x.f3.length)
theorem laws_FnExactClassOf.ClsOK_of {lo hi : Nat} {w : World} {ok : Nat → Prop} {v : Value} {l : List (S62)} (h : Kd.R k62 62 w lo ok v l) (hhi : w.heap.size ≤ hi) : laws_FnExactClassOf.ClsOK lo hi w v l := by
 obtain ⟨A, c, rfl⟩ := Kd.R_slice h
 have hm := (Kd.R_reads' h).2.2.2.1
 refine ⟨hm, A, c, rfl, fun hp => ?_⟩
 obtain ⟨g, cap, e, hb, hl, _⟩ := Kd.R_form h hp
 injection e with e1 e2 e3
 subst e1
 obtain ⟨_, inner, ho, hr⟩ := h
 rcases ho.2 with ⟨e4, _⟩ | ⟨g', cap', cur, e4, _, hc, _, _, _, ht⟩
 ·cases e4
 ·injection e4 with e5
  injection e5 with e5
  injection e5 with e5
  subst e5
  refine ⟨g, rfl, hb, by omega, cur, hc, fun j x hx => ?_⟩
  have hjl : j < l.length := (List.getElem?_eq_some_iff.1 hx).1
  have hM := hr.2 j x hx
  obtain ⟨v1, v2, v3, e6, g1, g2, g3⟩ := k62_openM hM
  have hcell : ∀ (q : Nat) (z : Value), q < 4 → ([Value.string x.f0, v1, v2, v3] : List Value)[q]? = some z → cur[j * 4 + q]? = some z := fun q z hq hz => by
   have h2 : ((inner.drop (j * 4)).take 4)[q]? = some z := by
    have e7 : (inner.drop (j * 4)).take 4 = [Value.string x.f0, v1, v2, v3] := e6
    rw [e7]; exact hz
   rw [List.getElem?_take, if_pos hq, List.getElem?_drop, ← ht, List.getElem?_take, if_pos (by show j * 4 + q < l.length * 4; omega), Array.getElem?_toList] at h2
   exact h2
  exact ⟨x.f0, v1, v2, v3, hcell 0 _ (by omega) rfl, hcell 1 _ (by omega) rfl, hcell 2 _ (by omega) rfl, hcell 3 _ (by omega) rfl, laws_FnExactClassOf.SlOK_of g1 hhi, laws_FnExactClassOf.SlOK_of g2 hhi, laws_FnExactClassOf.SlOK_of g3 hhi⟩
def laws_FnExactClassOf.mC (k : Nat) : List (S62) → Int → Option Int
 | [], a => some a
 | x :: xs, a => (laws_markText.f k a).bind fun _ => (laws_FnExactClassOf.mS k x.f1.length (wrap64 (a + 1))).bind fun b => (laws_FnExactClassOf.mS k x.f2.length b).bind fun b => (laws_FnExactClassOf.mS k x.f3.length b).bind fun b => laws_FnExactClassOf.mC k xs b
theorem laws_FnExactClassOf.mono_mC (k : Nat) : ∀ (l : List (S62)) (a : Int), LeO (laws_FnExactClassOf.mC k l a) (laws_FnExactClassOf.mC (k + 1) l a)
 | [], _ => LeO.refl _
 | x :: xs, a => LeO.bind (laws_markText.mono _ _) (fun _ => LeO.bind (laws_FnExactClassOf.mono_mS k _ _) (fun _ => LeO.bind (laws_FnExactClassOf.mono_mS k _ _) (fun _ => LeO.bind (laws_FnExactClassOf.mono_mS k _ _) (fun _ => laws_FnExactClassOf.mono_mC k xs _))))
set_option maxHeartbeats 8000000 in
set_option maxRecDepth 100000 in
theorem laws_FnExactClassOf.markC (k lo hi : Nat) (v : Value) (l : List (S62)) (a r : Int) (w : World) (hu : laws_FnExactClassOf.ClsOK lo hi w v l) (h : laws_FnExactClassOf.mC k l a = some r) :
  Calls Tryd.prog 27 #[v, .int .i64 a] w fun e w' => e = .returned (.int .i64 r) ∧ laws_FnExactClassOf.Sh lo hi w w' := by
 have hu62 := Tryd.underlying62
 obtain ⟨hm, A, c, rfl, hu⟩ := hu
 have HM := Aside0.mk hm
 have HU := Aside0.mk hu
 have HS := Aside0.mk (laws_FnExactClassOf.Sh_refl lo hi w)
 have H' := Aside0.mk h
 clear hm hu h
 go_enter Tryd.func27, Tryd.ntmps27
 go_wp2
 go_loopg [1, 5] l.length (fun kq v1 v5 w' => ∃ (j : Nat) (b : Int), v5 = .int .i64 (j : Int) ∧ v1 = .int .i64 b ∧ Aside0 (laws_FnExactClassOf.mC k (l.drop j) b = some r) ∧ Aside0 (j ≤ l.length) ∧ Aside0 (l.length - j ≤ kq) ∧ Aside0 (laws_FnExactClassOf.Sh lo hi w w'))
 case atStart => exact ⟨0, a, rfl, rfl, H', ⟨Nat.zero_le _⟩, ⟨by omega⟩, HS⟩
 case round =>
  clear H' HS
  obtain ⟨j, b, rfl, rfl, HA, HJ, HK, HS⟩ := hrel
  by_cases c1 : (j : Int) < (l.length : Int)
  ·have c1b0 : decide ((j : Int) < (l.length : Int)) = true := decide_eq_true c1
   have c1b1 : decide (j < l.length) = true := decide_eq_true (by omega)
   have hj : j < l.length := by omega
   obtain ⟨g, rfl, hlo, hhi, cur, hcur, hall⟩ := HU.out (by omega)
   obtain ⟨s, u1, u2, u3, hs0, hs1, hs2, hs3, g1, g2, g3⟩ := hall j _ (List.getElem?_eq_getElem hj)
   obtain ⟨q1_, A1, n1, e1, q2_⟩ := id g1
   obtain ⟨q3_, A2, n2, e2, q4_⟩ := id g2
   obtain ⟨q5_, A3, n3, e3, q6_⟩ := id g3
   subst e1 e2 e3
   clear q1_ q2_ q3_ q4_ q5_ q6_
   have H := HA.out
   rw [List.drop_eq_getElem_cons hj] at H
   simp only [laws_FnExactClassOf.mC] at H
   obtain ⟨t, At0, Ha⟩ := Option.bind_eq_some_iff.1 H
   obtain ⟨b1, B10, Hb⟩ := Option.bind_eq_some_iff.1 Ha
   obtain ⟨b2, B20, Hc⟩ := Option.bind_eq_some_iff.1 Hb
   obtain ⟨b3, B30, Hd⟩ := Option.bind_eq_some_iff.1 Hc
   clear H Ha Hb Hc
   generalize l[j] = x at At0 B10 B20 B30 Hd g1 g2 g3 hs1 hs2 hs3
   have At := Aside0.mk At0
   have B1 := Aside0.mk B10
   have B2 := Aside0.mk B20
   have B3 := Aside0.mk B30
   have HN := Aside0.mk Hd
   have HX := Aside0.mk (And.intro hlo (And.intro hhi (And.intro hcur hs0)))
   have X1 := Aside0.mk hs1
   have X2 := Aside0.mk hs2
   have X3 := Aside0.mk hs3
   have G1 := Aside0.mk g1
   have G2 := Aside0.mk g2
   have G3 := Aside0.mk g3
   have HJ2 := Aside0.mk hj
   clear At0 B10 B20 B30 Hd HA hlo hhi hcur hall hs0 hs1 hs2 hs3 g1 g2 g3 hj
   have p1 : 0 ≤ (j : Int) := by omega
   have c1i := eq_true c1
   clear c1
   go_upto_region 5 with (go_at_call 62; (with_reducible refine (laws_markText.calls k b t _ At.out).mono ?_); rintro e w5 ⟨rfl, hb⟩; have n0_ := Aside0.mk (laws_FnExactClassOf.Sh_below HS.out hb); clear HS; have HS := n0_; clear n0_ hb; obtain ⟨s5, hx5, hf5⟩ := laws_FnExactClassOf.Sh_str HS.out HX.out.1 HX.out.2.1 HX.out.2.2.1 HX.out.2.2.2)
   have n0_ : Aside0 (laws_FnExactClassOf.Sh lo hi w (w5.setCell ⟨g, j * 4, none⟩ (.string t))) := ⟨laws_FnExactClassOf.Sh_set HS.out HX.out.1 HX.out.2.1 HX.out.2.2.1 HX.out.2.2.2⟩
   clear HS hx5 hf5
   generalize w5.setCell ⟨g, j * 4, none⟩ (.string t) = w6 at n0_ ⊢
   have HS := n0_
   clear n0_
   have hy1 : w6.cell? ⟨g, j * 4 + 1, none⟩ = some (.slice A1 x.f1.length n1) := laws_FnExactClassOf.Sh_same HS.out HX.out.1 HX.out.2.1 HX.out.2.2.1 X1.out
   go_upto_region 7 with (go_at_call 28; (with_reducible refine (laws_FnExactClassOf.markS k lo hi _ x.f1.length _ b1 w _ G1.out HS.out B1.out).mono ?_); rintro e w7 ⟨rfl, hs⟩; have n0_ := Aside0.mk hs; clear HS; have HS := n0_; clear n0_ hs; have hy2 : w7.cell? ⟨g, j * 4 + 2, none⟩ = some (.slice A2 x.f2.length n2) := laws_FnExactClassOf.Sh_same HS.out HX.out.1 HX.out.2.1 HX.out.2.2.1 X2.out)
   go_upto_region 8 with (go_at_call 28; (with_reducible refine (laws_FnExactClassOf.markS k lo hi _ x.f2.length _ b2 w _ G2.out HS.out B2.out).mono ?_); rintro e w8 ⟨rfl, hs⟩; have n0_ := Aside0.mk hs; clear HS; have HS := n0_; clear n0_ hs; have hy3 : w8.cell? ⟨g, j * 4 + 3, none⟩ = some (.slice A3 x.f3.length n3) := laws_FnExactClassOf.Sh_same HS.out HX.out.1 HX.out.2.1 HX.out.2.2.1 X3.out)
   go_wp2_with (go_at_call 28; (with_reducible refine (laws_FnExactClassOf.markS k lo hi _ x.f3.length _ b3 w _ G3.out HS.out B3.out).mono ?_); rintro e w9 ⟨rfl, hs⟩; have n0_ := Aside0.mk hs; clear HS; have HS := n0_; clear n0_ hs)
   go_roundg (l.length - (j + 1))
   case measure => have := HK.out; have := HJ2.out; omega
   case rel => exact ⟨j + 1, _, by have := HJ2.out; have := HM.out; first | rfl | go_num | (congr 1; unfold wrap64; omega), rfl, HN, ⟨HJ2.out⟩, ⟨Nat.le_refl _⟩, HS⟩
  ·have c1b0 : decide ((j : Int) < (l.length : Int)) = false := decide_eq_false c1
   have c1b1 : decide (j < l.length) = false := decide_eq_false (by omega)
   have H := HA.out
   rw [List.drop_of_length_le (by omega)] at H
   simp only [laws_FnExactClassOf.mC] at H
   obtain rfl := Option.some.inj H
   clear c1
   go_wp2
   go_ret
   exact ⟨rfl, HS.out⟩
theorem laws_FnExactClassOf.SlOK_move {lo hi : Nat} {w w1 : World} {u : Value} {n : Nat} (h : laws_FnExactClassOf.SlOK lo hi w u n) (hb : ∀ b, b < hi → w1.heap[b]? = w.heap[b]?) : laws_FnExactClassOf.SlOK lo hi w1 u n := by
 obtain ⟨hm, A, c, rfl, hu⟩ := h
 refine ⟨hm, A, c, rfl, fun hp => ?_⟩
 obtain ⟨g, e, hlo, hhi, cur, hc, hs⟩ := hu hp
 exact ⟨g, e, hlo, hhi, cur, (hb g hhi).trans hc, hs⟩
theorem laws_FnExactClassOf.ClsOK_below {lo hi : Nat} {w w1 : World} {v : Value} {l : List (S62)} (h : laws_FnExactClassOf.ClsOK lo hi w v l ∧ hi ≤ w.heap.size) (hb : Below w.heap.size w w1) : laws_FnExactClassOf.ClsOK lo hi w1 v l ∧ hi ≤ w1.heap.size := by
 obtain ⟨⟨hm, A, c, rfl, hu⟩, hh⟩ := h
 have hb2 : ∀ b, b < hi → w1.heap[b]? = w.heap[b]? := fun b hlt => hb.block b (by omega)
 refine ⟨⟨hm, A, c, rfl, fun hp => ?_⟩, Nat.le_trans hh hb.size⟩
 obtain ⟨g, e, hlo, hhi, cur, hc, hs⟩ := hu hp
 refine ⟨g, e, hlo, hhi, cur, (hb2 g hhi).trans hc, fun j x hx => ?_⟩
 obtain ⟨s, u1, u2, u3, c0, c1, c2, c3, g1, g2, g3⟩ := hs j x hx
 exact ⟨s, u1, u2, u3, c0, c1, c2, c3, laws_FnExactClassOf.SlOK_move g1 hb2, laws_FnExactClassOf.SlOK_move g2 hb2, laws_FnExactClassOf.SlOK_move g3 hb2⟩
theorem laws_FnExactClassOf.ClsOK_keep {lo hi : Nat} {w w1 : World} {v : Value} {l : List (S62)} (h : laws_FnExactClassOf.ClsOK lo hi w v l ∧ hi ≤ w.heap.size) (hz : w.heap.size ≤ w1.heap.size) (hb2 : ∀ b, b < hi → w1.heap[b]? = w.heap[b]?) : laws_FnExactClassOf.ClsOK lo hi w1 v l ∧ hi ≤ w1.heap.size := by
 obtain ⟨⟨hm, A, c, rfl, hu⟩, hh⟩ := h
 refine ⟨⟨hm, A, c, rfl, fun hp => ?_⟩, Nat.le_trans hh hz⟩
 obtain ⟨g, e, hlo, hhi, cur, hc, hs⟩ := hu hp
 refine ⟨g, e, hlo, hhi, cur, (hb2 g hhi).trans hc, fun j x hx => ?_⟩
 obtain ⟨s, u1, u2, u3, c0, c1, c2, c3, g1, g2, g3⟩ := hs j x hx
 exact ⟨s, u1, u2, u3, c0, c1, c2, c3, laws_FnExactClassOf.SlOK_move g1 hb2, laws_FnExactClassOf.SlOK_move g2 hb2, laws_FnExactClassOf.SlOK_move g3 hb2⟩
def laws_FnExactClassOf.g2 (k : Nat) (m : List (S62)) (s1 : ByteArray) (s2 s3 s4 : List ByteArray) (g1 : ByteArray) (g2 g3 g4 : List ByteArray) : Option Bool :=
 (laws_eqClass.f k g1 g2 g3 g4 s1 s2 s3 s4).bind fun e1 => if e1 = true then (laws_eqClassS.f k m m).bind fun e2 => if e2 = true then
 (laws_FnExactClassOf.mC k m 1).bind fun kk => if 0 ≤ kk then (laws_markClass.f k g1 g2 g3 g4 1).bind fun mk => (laws_heldClass.f k g1 mk.2.1 mk.2.2.1 mk.2.2.2 1).bind fun q => if 0 ≤ q then (if q = mk.1 then some true else none) else none else none else none else none
def laws_FnExactClassOf.f (k : Nat) (l0 : List (S74)) (a1 : ByteArray) : Option (Bool) := if (a1.size : Int) > 1048576 then some true else (laws_szClassS.f k l0 1048576).bind fun t => if t < 0 then some true else
 (laws_toClassS.f k l0).bind fun m => (spec_ClassOf.f k m a1).bind fun s => (impl_ClassOf.f k m a1).bind fun g => laws_FnExactClassOf.g2 k m s.1 s.2.1 s.2.2.1 s.2.2.2 g.1 g.2.1 g.2.2.1 g.2.2.2
set_option maxHeartbeats 8000000 in
set_option maxRecDepth 100000 in
theorem laws_FnExactClassOf.calls (k : Nat) (A0 : Option Addr) (c0 : Nat) (l0 : List (S74)) (a1 : ByteArray) (r : Bool) (w : World) (hr0 : Kd.C k74 w A0 l0.length l0) (hc0 : l0.length ≤ c0) (h : laws_FnExactClassOf.f k l0 a1 = some r) :
  Calls Tryd.prog 8 #[.slice A0 l0.length c0, .string a1] w fun e w' => e = .returned (.bool r) ∧ Below w.heap.size w w' := by
 have hu := Tryd.underlying62
 have HR0 := Aside0.mk hr0
 have HC0 := Aside0.mk hc0
 clear hr0 hc0
 have HB := Aside0.mk (Below.refl w.heap.size w)
 unfold laws_FnExactClassOf.f at h
 by_cases cn : (a1.size : Int) > 1048576
 ·rw [if_pos cn] at h
  obtain rfl := Option.some.inj h
  have cnb0 : decide ((a1.size : Int) > 1048576) = true := decide_eq_true cn
  have cnb1 : decide (1048576 < (a1.size : Int)) = true := decide_eq_true cn
  have cnb2 : decide (1048576 < a1.size) = true := decide_eq_true (by omega)
  clear cn h
  go_enter Tryd.func8, Tryd.ntmps8
  go_wp2
  go_ret
  exact ⟨rfl, by repeat (first | (with_reducible first | exact HB.out | apply pw_below_drewN | apply below_drew1) | exact HB.out)⟩
 rw [if_neg cn] at h
 have cnb0 : decide ((a1.size : Int) > 1048576) = false := decide_eq_false cn
 have cnb1 : decide (1048576 < (a1.size : Int)) = false := decide_eq_false cn
 have cnb2 : decide (1048576 < a1.size) = false := decide_eq_false (by omega)
 clear cn
 obtain ⟨t, A10, h⟩ := Option.bind_eq_some_iff.1 h
 have A1 := Aside0.mk A10
 clear A10
 by_cases ct : t < 0
 ·rw [if_pos ct] at h
  obtain rfl := Option.some.inj h
  have ctb : decide (t < 0) = true := decide_eq_true ct
  clear ct h
  go_enter Tryd.func8, Tryd.ntmps8
  go_wp2_with (go_at_call 14; (with_reducible refine (laws_szClassS.calls k _ _ l0 1048576 t _ (Kd.C_below HR0.out HB.out) HC0.out A1.out).mono ?_); rintro e w2 ⟨rfl, hb⟩; have n0_ := Aside0.mk (below_step HB.out hb); clear hb HB; have HB := n0_; clear n0_)
  go_ret
  exact ⟨rfl, HB.out⟩
 rw [if_neg ct] at h
 have ctb : decide (t < 0) = false := decide_eq_false ct
 clear ct
 obtain ⟨m, AT0, h⟩ := Option.bind_eq_some_iff.1 h
 have AT := Aside0.mk AT0
 clear AT0
 obtain ⟨⟨s1, s2, s3, s4⟩, AS0, h⟩ := Option.bind_eq_some_iff.1 h
 have AS := Aside0.mk AS0
 clear AS0
 obtain ⟨⟨g1, g2, g3, g4⟩, AG0, h⟩ := Option.bind_eq_some_iff.1 h
 have AG := Aside0.mk AG0
 clear AG0
 unfold laws_FnExactClassOf.g2 at h
 obtain ⟨e1, AE0, h⟩ := Option.bind_eq_some_iff.1 h
 have AE := Aside0.mk AE0
 clear AE0
 by_cases ce1 : e1 = true
 case neg => rw [if_neg ce1] at h; cases h
 subst ce1
 rw [if_pos rfl] at h
 obtain ⟨e2, AC0, h⟩ := Option.bind_eq_some_iff.1 h
 have AC := Aside0.mk AC0
 clear AC0
 by_cases ce2 : e2 = true
 case neg => rw [if_neg ce2] at h; cases h
 subst ce2
 rw [if_pos rfl] at h
 obtain ⟨kk, AM0, h⟩ := Option.bind_eq_some_iff.1 h
 have AM := Aside0.mk AM0
 clear AM0
 by_cases ck : 0 ≤ kk
 case neg => rw [if_neg ck] at h; cases h
 rw [if_pos ck] at h
 obtain ⟨⟨mk1, d2, d3, d4⟩, AK0, h⟩ := Option.bind_eq_some_iff.1 h
 have AK := Aside0.mk AK0
 clear AK0
 obtain ⟨q, AQ0, h⟩ := Option.bind_eq_some_iff.1 h
 have AQ := Aside0.mk AQ0
 clear AQ0
 by_cases cq : 0 ≤ q
 case neg => rw [if_neg cq] at h; cases h
 rw [if_pos cq] at h
 by_cases ce : q = mk1
 case neg => rw [if_neg ce] at h; cases h
 subst ce
 rw [if_pos rfl] at h
 obtain rfl := Option.some.inj h
 have ckb : decide (kk < 0) = false := decide_eq_false (by omega)
 have cqb : decide (q < 0) = false := decide_eq_false (by omega)
 clear h ck cq
 dsimp only at AE AC AM AK AQ
 go_enter Tryd.func8, Tryd.ntmps8
 go_upto_region 8 with (first | (go_at_call 14; (with_reducible refine (laws_szClassS.calls k _ _ l0 1048576 t _ (Kd.C_below HR0.out HB.out) HC0.out A1.out).mono ?_); rintro e w2 ⟨rfl, hb⟩; have n0_ := Aside0.mk (below_step HB.out hb); clear hb HB; have HB := n0_; clear n0_) | (go_at_call 16; (with_reducible refine (laws_toClassS.calls k _ _ l0 m _ (Kd.C_below HR0.out HB.out) HC0.out AT.out).mono ?_); rintro e w3 ⟨v3, rfl, ho, hb⟩; obtain ⟨Ax3, cx3, rfl⟩ := Kd.R_slice (Kd.S_R ho); have HX3 := Aside0.mk (Kd.R_reads' (Kd.S_R ho)); have n0_ := Aside0.mk (below_step HB.out hb); clear hb HB; have HB := n0_; clear n0_; clear ho) | (go_at_call 36; (with_reducible refine (spec_ClassOf.calls k _ _ m a1 s1 s2 s3 s4 _ HX3.out.2.2 HX3.out.2.1 AS.out).mono ?_); rintro e w4 ⟨u1_, u2_, u3_, rfl, ho1, ho2, ho3, hb⟩; have Hs1 := Aside0.mk (Kd.R_mono (ok' := fun b => b < w4.heap.size) (Kd.R_lower (Kd.R_bound ho1) (below_size HB.out)) (fun b hk => hk.2.2.1)); have Hs2 := Aside0.mk (Kd.R_mono (ok' := fun b => b < w4.heap.size) (Kd.R_lower (Kd.R_bound ho2) (below_size HB.out)) (fun b hk => hk.2.2.1)); have Hs3 := Aside0.mk (Kd.R_mono (ok' := fun b => b < w4.heap.size) (Kd.R_lower (Kd.R_bound ho3) (below_size HB.out)) (fun b hk => hk.2.2.1)); clear HX3; have n0_ := Aside0.mk (below_step HB.out hb); clear hb HB; have HB := n0_; clear n0_; clear ho1 ho2 ho3; obtain ⟨Asa, csa, e1_⟩ := Kd.R_slice Hs1.out; subst e1_; obtain ⟨Asb, csb, e2_⟩ := Kd.R_slice Hs2.out; subst e2_; obtain ⟨Asc, csc, e3_⟩ := Kd.R_slice Hs3.out; subst e3_) | ((with_reducible refine gate_dst (N := 6) rfl ?_); refine box_event ?hg (N := 6) ?hd (cs := #[.string (⟨#[]⟩ : ByteArray), .slice none 0 0, .slice none 0 0, .slice none 0 0]) (t := 62) ?hr ?_; (case hd => rfl); (case hg => rfl); (case hr => first | (go_simp; done) | (go_simp; rfl)); intro g6 hg w5 hbox hb; have nbk_ := Aside0.mk hbox; have GEg6 := Aside0.mk (show w.heap.size ≤ g6 by rw [hg]; exact below_size HB.out); have n0_ := Aside0.mk (below_step HB.out hb); have n1_ := Aside0.mk (Kd.R_below Hs1.out hb); have n2_ := Aside0.mk (Kd.R_below Hs2.out hb); have n3_ := Aside0.mk (Kd.R_below Hs3.out hb); clear hb HB Hs1 Hs2 Hs3; have HB := n0_; have Hs1 := n1_; have Hs2 := n2_; have Hs3 := n3_; clear n0_ n1_ n2_ n3_; have BKg6 := nbk_; clear nbk_ hbox hg; have hqg60 : w5.cell? ⟨g6, 0, none⟩ = some (.string (⟨#[]⟩ : ByteArray)) := (blk_cell BKg6.out 0).trans rfl; have hfg60 := blk_frozen BKg6.out 0; have hqg61 : w5.cell? ⟨g6, 1, none⟩ = some (.slice none 0 0) := (blk_cell BKg6.out 1).trans rfl; have hfg61 := blk_frozen BKg6.out 1; have hqg62 : w5.cell? ⟨g6, 2, none⟩ = some (.slice none 0 0) := (blk_cell BKg6.out 2).trans rfl; have hfg62 := blk_frozen BKg6.out 2; have hqg63 : w5.cell? ⟨g6, 3, none⟩ = some (.slice none 0 0) := (blk_cell BKg6.out 3).trans rfl; have hfg63 := blk_frozen BKg6.out 3))
 clear hqg60 hfg60 hqg61 hfg61 hqg62 hfg62 hqg63 hfg63
 have n0_ : Aside0 (Below w.heap.size w (World.setCell (World.setCell (World.setCell (World.setCell w5 ⟨g6, 0, none⟩ (.string s1)) ⟨g6, 1, none⟩ (.slice Asa s2.length csa)) ⟨g6, 2, none⟩ (.slice Asb s3.length csb)) ⟨g6, 3, none⟩ (.slice Asc s4.length csc))) := ⟨by repeat (first | (with_reducible first | exact HB.out | refine below_set ?_ GEg6.out) | exact HB.out)⟩
 have n1_ : Aside0 ((World.heap (World.setCell (World.setCell (World.setCell (World.setCell w5 ⟨g6, 0, none⟩ (.string s1)) ⟨g6, 1, none⟩ (.slice Asa s2.length csa)) ⟨g6, 2, none⟩ (.slice Asb s3.length csb)) ⟨g6, 3, none⟩ (.slice Asc s4.length csc)))[g6]? = some (.cells #[.string s1, .slice Asa s2.length csa, .slice Asb s3.length csb, .slice Asc s4.length csc] 62 (0, 0))) := ⟨by refine blk_put (cs := #[.string s1, .slice Asa s2.length csa, .slice Asb s3.length csb, .slice none 0 0]) ?_ 3 _ rfl; refine blk_put (cs := #[.string s1, .slice Asa s2.length csa, .slice none 0 0, .slice none 0 0]) ?_ 2 _ rfl; refine blk_put (cs := #[.string s1, .slice none 0 0, .slice none 0 0, .slice none 0 0]) ?_ 1 _ rfl; refine blk_put (cs := #[.string (⟨#[]⟩ : ByteArray), .slice none 0 0, .slice none 0 0, .slice none 0 0]) ?_ 0 _ rfl; exact BKg6.out⟩
 have n2_ := Aside0.mk (Kd.R_mono (Kd.R_far (p := ⟨g6, 3, none⟩) (Kd.R_far (p := ⟨g6, 2, none⟩) (Kd.R_far (p := ⟨g6, 1, none⟩) (Kd.R_far (p := ⟨g6, 0, none⟩) (Kd.R_types Hs1.out BKg6.out (by decide)) (fun _ hk => hk.2) (.string s1)) (fun _ hk => hk.2) (.slice Asa s2.length csa)) (fun _ hk => hk.2) (.slice Asb s3.length csb)) (fun _ hk => hk.2) (.slice Asc s4.length csc)) (fun _ hk => hk.1))
 have n3_ := Aside0.mk (Kd.R_mono (Kd.R_far (p := ⟨g6, 3, none⟩) (Kd.R_far (p := ⟨g6, 2, none⟩) (Kd.R_far (p := ⟨g6, 1, none⟩) (Kd.R_far (p := ⟨g6, 0, none⟩) (Kd.R_types Hs2.out BKg6.out (by decide)) (fun _ hk => hk.2) (.string s1)) (fun _ hk => hk.2) (.slice Asa s2.length csa)) (fun _ hk => hk.2) (.slice Asb s3.length csb)) (fun _ hk => hk.2) (.slice Asc s4.length csc)) (fun _ hk => hk.1))
 have n4_ := Aside0.mk (Kd.R_mono (Kd.R_far (p := ⟨g6, 3, none⟩) (Kd.R_far (p := ⟨g6, 2, none⟩) (Kd.R_far (p := ⟨g6, 1, none⟩) (Kd.R_far (p := ⟨g6, 0, none⟩) (Kd.R_types Hs3.out BKg6.out (by decide)) (fun _ hk => hk.2) (.string s1)) (fun _ hk => hk.2) (.slice Asa s2.length csa)) (fun _ hk => hk.2) (.slice Asb s3.length csb)) (fun _ hk => hk.2) (.slice Asc s4.length csc)) (fun _ hk => hk.1))
 clear HB BKg6 Hs1 Hs2 Hs3
 have HB := n0_
 have BKg6 := n1_
 have Hs1 := n2_
 have Hs2 := n3_
 have Hs3 := n4_
 clear n0_ n1_ n2_ n3_ n4_
 generalize World.setCell (World.setCell (World.setCell (World.setCell w5 _ _) _ _) _ _) _ _ = w6 at HB BKg6 Hs1 Hs2 Hs3 ⊢
 have L6 := Aside0.mk (blk_lt BKg6.out)
 have LB := Aside0.mk (below_size HB.out)
 have n0_ := Aside0.mk (Kd.R_mono (ok' := fun b => b < w6.heap.size) (Kd.R_bound Hs1.out) (fun b hk => hk.2.2.1))
 clear Hs1
 have Hs1 := n0_
 clear n0_
 have n0_ := Aside0.mk (Kd.R_mono (ok' := fun b => b < w6.heap.size) (Kd.R_bound Hs2.out) (fun b hk => hk.2.2.1))
 clear Hs2
 have Hs2 := n0_
 clear n0_
 have n0_ := Aside0.mk (Kd.R_mono (ok' := fun b => b < w6.heap.size) (Kd.R_bound Hs3.out) (fun b hk => hk.2.2.1))
 clear Hs3
 have Hs3 := n0_
 clear n0_
 go_upto_region 9 with (go_at_call 16; (with_reducible refine (laws_toClassS.calls k _ _ l0 m _ (Kd.C_below HR0.out HB.out) HC0.out AT.out).mono ?_); rintro e w7 ⟨v7, rfl, ho, hb⟩; obtain ⟨Ax7, cx7, rfl⟩ := Kd.R_slice (Kd.S_R ho); have HX7 := Aside0.mk (Kd.R_reads' (Kd.S_R ho)); have KX := Aside0.mk (And.intro (laws_FnExactClassOf.ClsOK_of (Kd.S_R ho) (Nat.le_refl _)) (Nat.le_refl w7.heap.size)); have HX := Aside0.mk (Kd.R_mono (ok' := fun b => b < w7.heap.size) (Kd.R_bound (Kd.S_R ho)) (fun b hk => hk.2.2.1)); have LX := Aside0.mk hb.size; have n0_ := Aside0.mk (below_step HB.out hb); have n1_ := Aside0.mk (blk_below BKg6.out hb); have n2_ := Aside0.mk (Kd.R_below Hs1.out hb); have n3_ := Aside0.mk (Kd.R_below Hs2.out hb); have n4_ := Aside0.mk (Kd.R_below Hs3.out hb); clear hb HB BKg6 Hs1 Hs2 Hs3; have HB := n0_; have BKg6 := n1_; have Hs1 := n2_; have Hs2 := n3_; have Hs3 := n4_; clear n0_ n1_ n2_ n3_ n4_; clear ho)
 clear HX7
 obtain ⟨K1, hK1⟩ : ∃ K1, K1 = w6.heap.size := ⟨_, rfl⟩
 obtain ⟨K2, hK2⟩ : ∃ K2, K2 = w7.heap.size := ⟨_, rfl⟩
 have n0_ : Aside0 (laws_FnExactClassOf.ClsOK K1 K2 w7 (.slice Ax7 m.length cx7) m ∧ K2 ≤ w7.heap.size) := ⟨by rw [hK1, hK2]; exact KX.out⟩
 have n1_ := Aside0.mk (Kd.R_mono (ok' := fun b => b < K2) HX.out (fun b hk => by rw [hK2]; exact hk))
 have n2_ : Aside0 (g6 < K1) := ⟨by rw [hK1]; exact L6.out⟩
 have n3_ : Aside0 (w.heap.size ≤ K1) := ⟨by rw [hK1]; exact LB.out⟩
 have n4_ : Aside0 (K1 ≤ K2) := ⟨by rw [hK1, hK2]; exact LX.out⟩
 have LK := Aside0.mk (Nat.le_of_eq hK2)
 have n5_ := Aside0.mk (Kd.R_mono (ok' := fun b => b < K1) Hs1.out (fun b hk => by rw [hK1]; exact hk))
 have n6_ := Aside0.mk (Kd.R_mono (ok' := fun b => b < K1) Hs2.out (fun b hk => by rw [hK1]; exact hk))
 have n7_ := Aside0.mk (Kd.R_mono (ok' := fun b => b < K1) Hs3.out (fun b hk => by rw [hK1]; exact hk))
 clear KX HX L6 LB LX hK1 hK2 Hs1 Hs2 Hs3
 have KX := n0_
 have HX := n1_
 have L6 := n2_
 have LB := n3_
 have LX := n4_
 have Hs1 := n5_
 have Hs2 := n6_
 have Hs3 := n7_
 clear n0_ n1_ n2_ n3_ n4_ n5_ n6_ n7_
 go_upto_region 10 with (first | (go_at_call 37; (with_reducible refine (impl_ClassOf.calls k _ _ m a1 g1 g2 g3 g4 _ (Kd.R_reads' HX.out).2.2 (Kd.R_reads' HX.out).2.1 AG.out).mono ?_); rintro e w8 ⟨u1_, u2_, u3_, rfl, ho1, ho2, ho3, hb⟩; have NA1 : Aside0 (∀ b : Nat, some b = u1_.ownBlock → some b ≠ u2_.ownBlock ∧ some b ≠ u3_.ownBlock) := ⟨fun b h1 => ho1.1 b h1.symm⟩; have NA2 : Aside0 (∀ b : Nat, some b = u2_.ownBlock → some b ≠ u1_.ownBlock ∧ some b ≠ u3_.ownBlock) := ⟨fun b h1 => ho2.1 b h1.symm⟩; have NA3 : Aside0 (∀ b : Nat, some b = u3_.ownBlock → some b ≠ u1_.ownBlock ∧ some b ≠ u2_.ownBlock) := ⟨fun b h1 => ho3.1 b h1.symm⟩; have Hg1 := Aside0.mk (Kd.R_mono (ok' := fun b => K2 ≤ b) (Kd.R_lower (Kd.R_bound ho1) (below_size HB.out)) (fun b hk => Nat.le_trans LK.out hk.2.1)); have Hg2 := Aside0.mk (Kd.R_mono (ok' := fun b => K2 ≤ b) (Kd.R_lower (Kd.R_bound ho2) (below_size HB.out)) (fun b hk => Nat.le_trans LK.out hk.2.1)); have Hg3 := Aside0.mk (Kd.R_mono (ok' := fun b => K2 ≤ b) (Kd.R_lower (Kd.R_bound ho3) (below_size HB.out)) (fun b hk => Nat.le_trans LK.out hk.2.1)); have n0_ := Aside0.mk (below_step HB.out hb); have n1_ := Aside0.mk (blk_below BKg6.out hb); have n2_ := Aside0.mk (Kd.R_below Hs1.out hb); have n3_ := Aside0.mk (Kd.R_below Hs2.out hb); have n4_ := Aside0.mk (Kd.R_below Hs3.out hb); have n5_ := Aside0.mk (laws_FnExactClassOf.ClsOK_below KX.out hb); have n6_ := Aside0.mk (Kd.R_below HX.out hb); clear hb HB BKg6 Hs1 Hs2 Hs3 KX HX; have HB := n0_; have BKg6 := n1_; have Hs1 := n2_; have Hs2 := n3_; have Hs3 := n4_; have KX := n5_; have HX := n6_; clear n0_ n1_ n2_ n3_ n4_ n5_ n6_; clear ho1 ho2 ho3; obtain ⟨Aga, cga, e1_⟩ := Kd.R_slice Hg1.out; subst e1_; obtain ⟨Agb, cgb, e2_⟩ := Kd.R_slice Hg2.out; subst e2_; obtain ⟨Agc, cgc, e3_⟩ := Kd.R_slice Hg3.out; subst e3_) | ((with_reducible refine gate_dst (N := 8) rfl ?_); refine box_event ?hg (N := 8) ?hd (cs := #[.string (⟨#[]⟩ : ByteArray), .slice none 0 0, .slice none 0 0, .slice none 0 0]) (t := 62) ?hr ?_; (case hd => rfl); (case hg => rfl); (case hr => first | (go_simp; done) | (go_simp; rfl)); intro g8 hg w9 hbox hb; have nbk_ := Aside0.mk hbox; have GEg8 := Aside0.mk (show w.heap.size ≤ g8 by rw [hg]; exact below_size HB.out); have NEg6g8 := Aside0.mk (show g6 ≠ g8 by rw [hg]; exact Nat.ne_of_lt (blk_lt BKg6.out)); have NKg8 := Aside0.mk (show K2 ≤ g8 by rw [hg]; exact KX.out.2); have n0_ := Aside0.mk (below_step HB.out hb); have n1_ := Aside0.mk (blk_below BKg6.out hb); have n2_ := Aside0.mk (Kd.R_below Hs1.out hb); have n3_ := Aside0.mk (Kd.R_below Hs2.out hb); have n4_ := Aside0.mk (Kd.R_below Hs3.out hb); have n5_ := Aside0.mk (laws_FnExactClassOf.ClsOK_below KX.out hb); have n6_ := Aside0.mk (Kd.R_below HX.out hb); have n7_ := Aside0.mk (Kd.R_below Hg1.out hb); have n8_ := Aside0.mk (Kd.R_below Hg2.out hb); have n9_ := Aside0.mk (Kd.R_below Hg3.out hb); clear hb HB BKg6 Hs1 Hs2 Hs3 KX HX Hg1 Hg2 Hg3; have HB := n0_; have BKg6 := n1_; have Hs1 := n2_; have Hs2 := n3_; have Hs3 := n4_; have KX := n5_; have HX := n6_; have Hg1 := n7_; have Hg2 := n8_; have Hg3 := n9_; clear n0_ n1_ n2_ n3_ n4_ n5_ n6_ n7_ n8_ n9_; have BKg8 := nbk_; clear nbk_ hbox hg; have hqg80 : w9.cell? ⟨g8, 0, none⟩ = some (.string (⟨#[]⟩ : ByteArray)) := (blk_cell BKg8.out 0).trans rfl; have hfg80 := blk_frozen BKg8.out 0; have hqg81 : w9.cell? ⟨g8, 1, none⟩ = some (.slice none 0 0) := (blk_cell BKg8.out 1).trans rfl; have hfg81 := blk_frozen BKg8.out 1; have hqg82 : w9.cell? ⟨g8, 2, none⟩ = some (.slice none 0 0) := (blk_cell BKg8.out 2).trans rfl; have hfg82 := blk_frozen BKg8.out 2; have hqg83 : w9.cell? ⟨g8, 3, none⟩ = some (.slice none 0 0) := (blk_cell BKg8.out 3).trans rfl; have hfg83 := blk_frozen BKg8.out 3))
 clear hqg80 hfg80 hqg81 hfg81 hqg82 hfg82 hqg83 hfg83
 have n0_ : Aside0 (Below w.heap.size w (World.setCell (World.setCell (World.setCell (World.setCell w9 ⟨g8, 0, none⟩ (.string g1)) ⟨g8, 1, none⟩ (.slice Aga g2.length cga)) ⟨g8, 2, none⟩ (.slice Agb g3.length cgb)) ⟨g8, 3, none⟩ (.slice Agc g4.length cgc))) := ⟨by repeat (first | (with_reducible first | exact HB.out | refine below_set ?_ GEg8.out) | exact HB.out)⟩
 have n1_ : Aside0 ((World.heap (World.setCell (World.setCell (World.setCell (World.setCell w9 ⟨g8, 0, none⟩ (.string g1)) ⟨g8, 1, none⟩ (.slice Aga g2.length cga)) ⟨g8, 2, none⟩ (.slice Agb g3.length cgb)) ⟨g8, 3, none⟩ (.slice Agc g4.length cgc)))[g6]? = some (.cells #[.string s1, .slice Asa s2.length csa, .slice Asb s3.length csb, .slice Asc s4.length csc] 62 (0, 0))) := ⟨by refine blk_far ?_ NEg6g8.out _; refine blk_far ?_ NEg6g8.out _; refine blk_far ?_ NEg6g8.out _; refine blk_far ?_ NEg6g8.out _; exact BKg6.out⟩
 have n2_ : Aside0 (laws_FnExactClassOf.ClsOK K1 K2 (World.setCell (World.setCell (World.setCell (World.setCell w9 ⟨g8, 0, none⟩ (.string g1)) ⟨g8, 1, none⟩ (.slice Aga g2.length cga)) ⟨g8, 2, none⟩ (.slice Agb g3.length cgb)) ⟨g8, 3, none⟩ (.slice Agc g4.length cgc)) (.slice Ax7 m.length cx7) m ∧ K2 ≤ (World.heap (World.setCell (World.setCell (World.setCell (World.setCell w9 ⟨g8, 0, none⟩ (.string g1)) ⟨g8, 1, none⟩ (.slice Aga g2.length cga)) ⟨g8, 2, none⟩ (.slice Agb g3.length cgb)) ⟨g8, 3, none⟩ (.slice Agc g4.length cgc))).size) := ⟨laws_FnExactClassOf.ClsOK_keep KX.out (by simp [World.setCell]) (fun b hb => by have hne : b ≠ g8 := (by have := NKg8.out; omega); exact (Below.heap_setCell _ ⟨g8, 3, none⟩ _ b hne).trans ((Below.heap_setCell _ ⟨g8, 2, none⟩ _ b hne).trans ((Below.heap_setCell _ ⟨g8, 1, none⟩ _ b hne).trans (Below.heap_setCell _ ⟨g8, 0, none⟩ _ b hne))))⟩
 have n3_ : Aside0 ((World.heap (World.setCell (World.setCell (World.setCell (World.setCell w9 ⟨g8, 0, none⟩ (.string g1)) ⟨g8, 1, none⟩ (.slice Aga g2.length cga)) ⟨g8, 2, none⟩ (.slice Agb g3.length cgb)) ⟨g8, 3, none⟩ (.slice Agc g4.length cgc)))[g8]? = some (.cells #[.string g1, .slice Aga g2.length cga, .slice Agb g3.length cgb, .slice Agc g4.length cgc] 62 (0, 0))) := ⟨by refine blk_put (cs := #[.string g1, .slice Aga g2.length cga, .slice Agb g3.length cgb, .slice none 0 0]) ?_ 3 _ rfl; refine blk_put (cs := #[.string g1, .slice Aga g2.length cga, .slice none 0 0, .slice none 0 0]) ?_ 2 _ rfl; refine blk_put (cs := #[.string g1, .slice none 0 0, .slice none 0 0, .slice none 0 0]) ?_ 1 _ rfl; refine blk_put (cs := #[.string (⟨#[]⟩ : ByteArray), .slice none 0 0, .slice none 0 0, .slice none 0 0]) ?_ 0 _ rfl; exact BKg8.out⟩
 have n4_ := Aside0.mk (Kd.R_mono (Kd.R_far (p := ⟨g8, 3, none⟩) (Kd.R_far (p := ⟨g8, 2, none⟩) (Kd.R_far (p := ⟨g8, 1, none⟩) (Kd.R_far (p := ⟨g8, 0, none⟩) (Kd.R_types Hs1.out BKg8.out (by decide)) (fun _ hk => hk.2) (.string g1)) (fun _ hk => hk.2) (.slice Aga g2.length cga)) (fun _ hk => hk.2) (.slice Agb g3.length cgb)) (fun _ hk => hk.2) (.slice Agc g4.length cgc)) (fun _ hk => hk.1))
 have n5_ := Aside0.mk (Kd.R_mono (Kd.R_far (p := ⟨g8, 3, none⟩) (Kd.R_far (p := ⟨g8, 2, none⟩) (Kd.R_far (p := ⟨g8, 1, none⟩) (Kd.R_far (p := ⟨g8, 0, none⟩) (Kd.R_types Hs2.out BKg8.out (by decide)) (fun _ hk => hk.2) (.string g1)) (fun _ hk => hk.2) (.slice Aga g2.length cga)) (fun _ hk => hk.2) (.slice Agb g3.length cgb)) (fun _ hk => hk.2) (.slice Agc g4.length cgc)) (fun _ hk => hk.1))
 have n6_ := Aside0.mk (Kd.R_mono (Kd.R_far (p := ⟨g8, 3, none⟩) (Kd.R_far (p := ⟨g8, 2, none⟩) (Kd.R_far (p := ⟨g8, 1, none⟩) (Kd.R_far (p := ⟨g8, 0, none⟩) (Kd.R_types Hs3.out BKg8.out (by decide)) (fun _ hk => hk.2) (.string g1)) (fun _ hk => hk.2) (.slice Aga g2.length cga)) (fun _ hk => hk.2) (.slice Agb g3.length cgb)) (fun _ hk => hk.2) (.slice Agc g4.length cgc)) (fun _ hk => hk.1))
 have n7_ := Aside0.mk (Kd.R_mono (Kd.R_far (p := ⟨g8, 3, none⟩) (Kd.R_far (p := ⟨g8, 2, none⟩) (Kd.R_far (p := ⟨g8, 1, none⟩) (Kd.R_far (p := ⟨g8, 0, none⟩) (Kd.R_types Hg1.out BKg8.out (by decide)) (fun _ hk => hk.2) (.string g1)) (fun _ hk => hk.2) (.slice Aga g2.length cga)) (fun _ hk => hk.2) (.slice Agb g3.length cgb)) (fun _ hk => hk.2) (.slice Agc g4.length cgc)) (fun _ hk => hk.1))
 have n8_ := Aside0.mk (Kd.R_mono (Kd.R_far (p := ⟨g8, 3, none⟩) (Kd.R_far (p := ⟨g8, 2, none⟩) (Kd.R_far (p := ⟨g8, 1, none⟩) (Kd.R_far (p := ⟨g8, 0, none⟩) (Kd.R_types Hg2.out BKg8.out (by decide)) (fun _ hk => hk.2) (.string g1)) (fun _ hk => hk.2) (.slice Aga g2.length cga)) (fun _ hk => hk.2) (.slice Agb g3.length cgb)) (fun _ hk => hk.2) (.slice Agc g4.length cgc)) (fun _ hk => hk.1))
 have n9_ := Aside0.mk (Kd.R_mono (Kd.R_far (p := ⟨g8, 3, none⟩) (Kd.R_far (p := ⟨g8, 2, none⟩) (Kd.R_far (p := ⟨g8, 1, none⟩) (Kd.R_far (p := ⟨g8, 0, none⟩) (Kd.R_types Hg3.out BKg8.out (by decide)) (fun _ hk => hk.2) (.string g1)) (fun _ hk => hk.2) (.slice Aga g2.length cga)) (fun _ hk => hk.2) (.slice Agb g3.length cgb)) (fun _ hk => hk.2) (.slice Agc g4.length cgc)) (fun _ hk => hk.1))
 have n10_ := Aside0.mk (Kd.R_far (p := ⟨g8, 3, none⟩) (Kd.R_far (p := ⟨g8, 2, none⟩) (Kd.R_far (p := ⟨g8, 1, none⟩) (Kd.R_far (p := ⟨g8, 0, none⟩) HX.out (fun b hk => by have := NKg8.out; show b ≠ g8; (try dsimp only at hk); omega) (.string g1)) (fun b hk => by have := NKg8.out; show b ≠ g8; (try dsimp only at hk); omega) (.slice Aga g2.length cga)) (fun b hk => by have := NKg8.out; show b ≠ g8; (try dsimp only at hk); omega) (.slice Agb g3.length cgb)) (fun b hk => by have := NKg8.out; show b ≠ g8; (try dsimp only at hk); omega) (.slice Agc g4.length cgc))
 clear HB BKg6 KX BKg8 Hs1 Hs2 Hs3 Hg1 Hg2 Hg3 HX
 have HB := n0_
 have BKg6 := n1_
 have KX := n2_
 have BKg8 := n3_
 have Hs1 := n4_
 have Hs2 := n5_
 have Hs3 := n6_
 have Hg1 := n7_
 have Hg2 := n8_
 have Hg3 := n9_
 have HX := n10_
 clear n0_ n1_ n2_ n3_ n4_ n5_ n6_ n7_ n8_ n9_ n10_
 generalize World.setCell (World.setCell (World.setCell (World.setCell w9 _ _) _ _) _ _) _ _ = w10 at HB BKg6 KX BKg8 Hs1 Hs2 Hs3 Hg1 Hg2 Hg3 HX ⊢
 have hqg80 : w10.cell? ⟨g8, 0, none⟩ = some (.string g1) := (blk_cell BKg8.out 0).trans rfl
 have hfg80 := blk_frozen BKg8.out 0
 have hqg81 : w10.cell? ⟨g8, 1, none⟩ = some (.slice Aga g2.length cga) := (blk_cell BKg8.out 1).trans rfl
 have hfg81 := blk_frozen BKg8.out 1
 have hqg82 : w10.cell? ⟨g8, 2, none⟩ = some (.slice Agb g3.length cgb) := (blk_cell BKg8.out 2).trans rfl
 have hfg82 := blk_frozen BKg8.out 2
 have hqg83 : w10.cell? ⟨g8, 3, none⟩ = some (.slice Agc g4.length cgc) := (blk_cell BKg8.out 3).trans rfl
 have hfg83 := blk_frozen BKg8.out 3
 have hqg60 : w10.cell? ⟨g6, 0, none⟩ = some (.string s1) := (blk_cell BKg6.out 0).trans rfl
 have hfg60 := blk_frozen BKg6.out 0
 have hqg61 : w10.cell? ⟨g6, 1, none⟩ = some (.slice Asa s2.length csa) := (blk_cell BKg6.out 1).trans rfl
 have hfg61 := blk_frozen BKg6.out 1
 have hqg62 : w10.cell? ⟨g6, 2, none⟩ = some (.slice Asb s3.length csb) := (blk_cell BKg6.out 2).trans rfl
 have hfg62 := blk_frozen BKg6.out 2
 have hqg63 : w10.cell? ⟨g6, 3, none⟩ = some (.slice Asc s4.length csc) := (blk_cell BKg6.out 3).trans rfl
 have hfg63 := blk_frozen BKg6.out 3
 go_upto_region 12 with (go_at_call 38; (with_reducible refine (laws_eqClass.calls k g1 _ _ g2 _ _ g3 _ _ g4 s1 _ _ s2 _ _ s3 _ _ s4 true _ (Kd.R_reads' Hg1.out).2.2 (Kd.R_reads' Hg1.out).2.1 (Kd.R_reads' Hg2.out).2.2 (Kd.R_reads' Hg2.out).2.1 (Kd.R_reads' Hg3.out).2.2 (Kd.R_reads' Hg3.out).2.1 (Kd.R_reads' Hs1.out).2.2 (Kd.R_reads' Hs1.out).2.1 (Kd.R_reads' Hs2.out).2.2 (Kd.R_reads' Hs2.out).2.1 (Kd.R_reads' Hs3.out).2.2 (Kd.R_reads' Hs3.out).2.1 AE.out).mono ?_); rintro e w11 ⟨rfl, hb⟩; have n0_ := Aside0.mk (below_step HB.out hb); have n1_ := Aside0.mk (blk_below BKg6.out hb); have n2_ := Aside0.mk (laws_FnExactClassOf.ClsOK_below KX.out hb); have n3_ := Aside0.mk (blk_below BKg8.out hb); have n4_ := Aside0.mk (Kd.R_below Hs1.out hb); have n5_ := Aside0.mk (Kd.R_below Hs2.out hb); have n6_ := Aside0.mk (Kd.R_below Hs3.out hb); have n7_ := Aside0.mk (Kd.R_below Hg1.out hb); have n8_ := Aside0.mk (Kd.R_below Hg2.out hb); have n9_ := Aside0.mk (Kd.R_below Hg3.out hb); have n10_ := Aside0.mk (Kd.R_below HX.out hb); clear hb HB BKg6 KX BKg8 Hs1 Hs2 Hs3 Hg1 Hg2 Hg3 HX; have HB := n0_; have BKg6 := n1_; have KX := n2_; have BKg8 := n3_; have Hs1 := n4_; have Hs2 := n5_; have Hs3 := n6_; have Hg1 := n7_; have Hg2 := n8_; have Hg3 := n9_; have HX := n10_; clear n0_ n1_ n2_ n3_ n4_ n5_ n6_ n7_ n8_ n9_ n10_)
 clear hqg80 hfg80 hqg81 hfg81 hqg82 hfg82 hqg83 hfg83 hqg60 hfg60 hqg61 hfg61 hqg62 hfg62 hqg63 hfg63
 go_upto_region 15 with (first | (go_at_call 16; (with_reducible refine (laws_toClassS.calls k _ _ l0 m _ (Kd.C_below HR0.out HB.out) HC0.out AT.out).mono ?_); rintro e w12 ⟨v12, rfl, ho, hb⟩; obtain ⟨Ax12, cx12, rfl⟩ := Kd.R_slice (Kd.S_R ho); have HX12 := Aside0.mk (Kd.R_reads' (Kd.S_R ho)); have n0_ := Aside0.mk (below_step HB.out hb); have n1_ := Aside0.mk (blk_below BKg6.out hb); have n2_ := Aside0.mk (laws_FnExactClassOf.ClsOK_below KX.out hb); have n3_ := Aside0.mk (blk_below BKg8.out hb); have n4_ := Aside0.mk (Kd.R_below Hs1.out hb); have n5_ := Aside0.mk (Kd.R_below Hs2.out hb); have n6_ := Aside0.mk (Kd.R_below Hs3.out hb); have n7_ := Aside0.mk (Kd.R_below Hg1.out hb); have n8_ := Aside0.mk (Kd.R_below Hg2.out hb); have n9_ := Aside0.mk (Kd.R_below Hg3.out hb); have n10_ := Aside0.mk (Kd.R_below HX.out hb); clear hb HB BKg6 KX BKg8 Hs1 Hs2 Hs3 Hg1 Hg2 Hg3 HX; have HB := n0_; have BKg6 := n1_; have KX := n2_; have BKg8 := n3_; have Hs1 := n4_; have Hs2 := n5_; have Hs3 := n6_; have Hg1 := n7_; have Hg2 := n8_; have Hg3 := n9_; have HX := n10_; clear n0_ n1_ n2_ n3_ n4_ n5_ n6_ n7_ n8_ n9_ n10_; clear ho) | (go_at_call 18; (with_reducible refine (laws_eqClassS.calls k _ _ m _ _ m true _ (Kd.R_reads' HX.out).2.2 (Kd.R_reads' HX.out).2.1 HX12.out.2.2 HX12.out.2.1 AC.out).mono ?_); rintro e w13 ⟨rfl, hb⟩; clear HX12; have n0_ := Aside0.mk (below_step HB.out hb); have n1_ := Aside0.mk (blk_below BKg6.out hb); have n2_ := Aside0.mk (laws_FnExactClassOf.ClsOK_below KX.out hb); have n3_ := Aside0.mk (blk_below BKg8.out hb); have n4_ := Aside0.mk (Kd.R_below Hs1.out hb); have n5_ := Aside0.mk (Kd.R_below Hs2.out hb); have n6_ := Aside0.mk (Kd.R_below Hs3.out hb); have n7_ := Aside0.mk (Kd.R_below Hg1.out hb); have n8_ := Aside0.mk (Kd.R_below Hg2.out hb); have n9_ := Aside0.mk (Kd.R_below Hg3.out hb); have n10_ := Aside0.mk (Kd.R_below HX.out hb); clear hb HB BKg6 KX BKg8 Hs1 Hs2 Hs3 Hg1 Hg2 Hg3 HX; have HB := n0_; have BKg6 := n1_; have KX := n2_; have BKg8 := n3_; have Hs1 := n4_; have Hs2 := n5_; have Hs3 := n6_; have Hg1 := n7_; have Hg2 := n8_; have Hg3 := n9_; have HX := n10_; clear n0_ n1_ n2_ n3_ n4_ n5_ n6_ n7_ n8_ n9_ n10_))
 go_upto_region 16 with (go_at_call 27; (with_reducible refine (laws_FnExactClassOf.markC k K1 K2 _ m 1 kk _ KX.out.1 AM.out).mono ?_); rintro e w14 ⟨rfl, hs⟩; have n0_ := Aside0.mk (below_weaken HB.out LB.out (laws_FnExactClassOf.Sh_under hs (Nat.le_refl _) (Nat.le_trans LX.out KX.out.2))); have n1_ := Aside0.mk ((hs.2.2.2.2.1 g6 (blk_lt BKg6.out) (.inl L6.out)).trans BKg6.out); have n2_ := Aside0.mk ((hs.2.2.2.2.1 g8 (blk_lt BKg8.out) (.inr NKg8.out)).trans BKg8.out); have n3_ := Aside0.mk (Kd.R_step Hs1.out (fun b hok hlt => hs.2.2.2.2.1 b hlt (.inl hok))); have n4_ := Aside0.mk (Kd.R_step Hs2.out (fun b hok hlt => hs.2.2.2.2.1 b hlt (.inl hok))); have n5_ := Aside0.mk (Kd.R_step Hs3.out (fun b hok hlt => hs.2.2.2.2.1 b hlt (.inl hok))); have n6_ := Aside0.mk (Kd.R_step Hg1.out (fun b hok hlt => hs.2.2.2.2.1 b hlt (.inr hok))); have n7_ := Aside0.mk (Kd.R_step Hg2.out (fun b hok hlt => hs.2.2.2.2.1 b hlt (.inr hok))); have n8_ := Aside0.mk (Kd.R_step Hg3.out (fun b hok hlt => hs.2.2.2.2.1 b hlt (.inr hok))); clear hs KX HX HB BKg6 BKg8 Hs1 Hs2 Hs3 Hg1 Hg2 Hg3; have HB := n0_; have BKg6 := n1_; have BKg8 := n2_; have Hs1 := n3_; have Hs2 := n4_; have Hs3 := n5_; have Hg1 := n6_; have Hg2 := n7_; have Hg3 := n8_; clear n0_ n1_ n2_ n3_ n4_ n5_ n6_ n7_ n8_)
 have hqg80 : w14.cell? ⟨g8, 0, none⟩ = some (.string g1) := (blk_cell BKg8.out 0).trans rfl
 have hfg80 := blk_frozen BKg8.out 0
 have hqg81 : w14.cell? ⟨g8, 1, none⟩ = some (.slice Aga g2.length cga) := (blk_cell BKg8.out 1).trans rfl
 have hfg81 := blk_frozen BKg8.out 1
 have hqg82 : w14.cell? ⟨g8, 2, none⟩ = some (.slice Agb g3.length cgb) := (blk_cell BKg8.out 2).trans rfl
 have hfg82 := blk_frozen BKg8.out 2
 have hqg83 : w14.cell? ⟨g8, 3, none⟩ = some (.slice Agc g4.length cgc) := (blk_cell BKg8.out 3).trans rfl
 have hfg83 := blk_frozen BKg8.out 3
 have hqg60 : w14.cell? ⟨g6, 0, none⟩ = some (.string s1) := (blk_cell BKg6.out 0).trans rfl
 have hfg60 := blk_frozen BKg6.out 0
 have hqg61 : w14.cell? ⟨g6, 1, none⟩ = some (.slice Asa s2.length csa) := (blk_cell BKg6.out 1).trans rfl
 have hfg61 := blk_frozen BKg6.out 1
 have hqg62 : w14.cell? ⟨g6, 2, none⟩ = some (.slice Asb s3.length csb) := (blk_cell BKg6.out 2).trans rfl
 have hfg62 := blk_frozen BKg6.out 2
 have hqg63 : w14.cell? ⟨g6, 3, none⟩ = some (.slice Asc s4.length csc) := (blk_cell BKg6.out 3).trans rfl
 have hfg63 := blk_frozen BKg6.out 3
 go_upto_region 19 with (go_at_call 38; (with_reducible refine (laws_eqClass.calls k g1 _ _ g2 _ _ g3 _ _ g4 s1 _ _ s2 _ _ s3 _ _ s4 true _ (Kd.R_reads' Hg1.out).2.2 (Kd.R_reads' Hg1.out).2.1 (Kd.R_reads' Hg2.out).2.2 (Kd.R_reads' Hg2.out).2.1 (Kd.R_reads' Hg3.out).2.2 (Kd.R_reads' Hg3.out).2.1 (Kd.R_reads' Hs1.out).2.2 (Kd.R_reads' Hs1.out).2.1 (Kd.R_reads' Hs2.out).2.2 (Kd.R_reads' Hs2.out).2.1 (Kd.R_reads' Hs3.out).2.2 (Kd.R_reads' Hs3.out).2.1 AE.out).mono ?_); rintro e w15 ⟨rfl, hb⟩; have n0_ := Aside0.mk (below_step HB.out hb); have n1_ := Aside0.mk (blk_below BKg6.out hb); have n2_ := Aside0.mk (blk_below BKg8.out hb); have n3_ := Aside0.mk (Kd.R_below Hs1.out hb); have n4_ := Aside0.mk (Kd.R_below Hs2.out hb); have n5_ := Aside0.mk (Kd.R_below Hs3.out hb); have n6_ := Aside0.mk (Kd.R_below Hg1.out hb); have n7_ := Aside0.mk (Kd.R_below Hg2.out hb); have n8_ := Aside0.mk (Kd.R_below Hg3.out hb); clear hb HB BKg6 BKg8 Hs1 Hs2 Hs3 Hg1 Hg2 Hg3; have HB := n0_; have BKg6 := n1_; have BKg8 := n2_; have Hs1 := n3_; have Hs2 := n4_; have Hs3 := n5_; have Hg1 := n6_; have Hg2 := n7_; have Hg3 := n8_; clear n0_ n1_ n2_ n3_ n4_ n5_ n6_ n7_ n8_)
 clear hqg80 hfg80 hqg81 hfg81 hqg82 hfg82 hqg83 hfg83 hqg60 hfg60 hqg61 hfg61 hqg62 hfg62 hqg63 hfg63
 have hqg80 : w15.cell? ⟨g8, 0, none⟩ = some (.string g1) := (blk_cell BKg8.out 0).trans rfl
 have hfg80 := blk_frozen BKg8.out 0
 have hqg81 : w15.cell? ⟨g8, 1, none⟩ = some (.slice Aga g2.length cga) := (blk_cell BKg8.out 1).trans rfl
 have hfg81 := blk_frozen BKg8.out 1
 have hqg82 : w15.cell? ⟨g8, 2, none⟩ = some (.slice Agb g3.length cgb) := (blk_cell BKg8.out 2).trans rfl
 have hfg82 := blk_frozen BKg8.out 2
 have hqg83 : w15.cell? ⟨g8, 3, none⟩ = some (.slice Agc g4.length cgc) := (blk_cell BKg8.out 3).trans rfl
 have hfg83 := blk_frozen BKg8.out 3
 go_upto_region 21 with (go_at_call 39; (with_reducible refine (laws_markClass.calls k g1 (fun b => some b = (Value.slice Aga g2.length cga).ownBlock) _ g2 (fun b => some b = (Value.slice Agb g3.length cgb).ownBlock) _ g3 (fun b => some b = (Value.slice Agc g4.length cgc).ownBlock) _ g4 1 q d2 d3 d4 w _ HB.out (Kd.R_tight rfl Hg1.out) (fun b h1 h2 => absurd h2 (NA1.out b h1).1) (fun b h1 h2 => absurd h2 (NA1.out b h1).2) (Kd.R_tight rfl Hg2.out) (fun b h1 h2 => absurd h2 (NA2.out b h1).1) (fun b h1 h2 => absurd h2 (NA2.out b h1).2) (Kd.R_tight rfl Hg3.out) (fun b h1 h2 => absurd h2 (NA3.out b h1).1) (fun b h1 h2 => absurd h2 (NA3.out b h1).2) AK.out).mono ?_); rintro e w16 ⟨rfl, hm1, hm2, hm3, hb, hk⟩; have n0_ := Aside0.mk hb; have n1_ := Aside0.mk (blk_kept BKg6.out hk (fun h2 => h2.elim (fun e => by have h4 := Hg1.out.1 _ e.symm; have h5 := LX.out; have h6 := L6.out; (try dsimp only at h4); omega) (fun h3 => h3.elim (fun e => by have h4 := Hg2.out.1 _ e.symm; have h5 := LX.out; have h6 := L6.out; (try dsimp only at h4); omega) (fun e => by have h4 := Hg3.out.1 _ e.symm; have h5 := LX.out; have h6 := L6.out; (try dsimp only at h4); omega)))); have n2_ := Aside0.mk (blk_kept BKg8.out hk (fun h2 => h2.elim (fun e => ((Kd.R_types Hg1.out BKg8.out (by decide)).1 g8 e.symm).2 rfl) (fun h3 => h3.elim (fun e => ((Kd.R_types Hg2.out BKg8.out (by decide)).1 g8 e.symm).2 rfl) (fun e => ((Kd.R_types Hg3.out BKg8.out (by decide)).1 g8 e.symm).2 rfl)))); have n3_ := Aside0.mk (Kd.R_kept Hs1.out hk (fun b h1 => (fun h2 => h2.elim (fun e => by have h4 := Hg1.out.1 _ e.symm; have h5 := LX.out; (try dsimp only at h1 h4); omega) (fun h3 => h3.elim (fun e => by have h4 := Hg2.out.1 _ e.symm; have h5 := LX.out; (try dsimp only at h1 h4); omega) (fun e => by have h4 := Hg3.out.1 _ e.symm; have h5 := LX.out; (try dsimp only at h1 h4); omega))))); have n4_ := Aside0.mk (Kd.R_kept Hs2.out hk (fun b h1 => (fun h2 => h2.elim (fun e => by have h4 := Hg1.out.1 _ e.symm; have h5 := LX.out; (try dsimp only at h1 h4); omega) (fun h3 => h3.elim (fun e => by have h4 := Hg2.out.1 _ e.symm; have h5 := LX.out; (try dsimp only at h1 h4); omega) (fun e => by have h4 := Hg3.out.1 _ e.symm; have h5 := LX.out; (try dsimp only at h1 h4); omega))))); have n5_ := Aside0.mk (Kd.R_kept Hs3.out hk (fun b h1 => (fun h2 => h2.elim (fun e => by have h4 := Hg1.out.1 _ e.symm; have h5 := LX.out; (try dsimp only at h1 h4); omega) (fun h3 => h3.elim (fun e => by have h4 := Hg2.out.1 _ e.symm; have h5 := LX.out; (try dsimp only at h1 h4); omega) (fun e => by have h4 := Hg3.out.1 _ e.symm; have h5 := LX.out; (try dsimp only at h1 h4); omega))))); have n6_ := Aside0.mk hm1; have n7_ := Aside0.mk hm2; have n8_ := Aside0.mk hm3; clear hb hk hm1 hm2 hm3 Hg1 Hg2 Hg3 HB BKg6 BKg8 Hs1 Hs2 Hs3; have HB := n0_; have BKg6 := n1_; have BKg8 := n2_; have Hs1 := n3_; have Hs2 := n4_; have Hs3 := n5_; have Hm1 := n6_; have Hm2 := n7_; have Hm3 := n8_; clear n0_ n1_ n2_ n3_ n4_ n5_ n6_ n7_ n8_)
 clear hqg80 hfg80 hqg81 hfg81 hqg82 hfg82 hqg83 hfg83
 have hqg80 : w16.cell? ⟨g8, 0, none⟩ = some (.string g1) := (blk_cell BKg8.out 0).trans rfl
 have hfg80 := blk_frozen BKg8.out 0
 have hqg81 : w16.cell? ⟨g8, 1, none⟩ = some (.slice Aga g2.length cga) := (blk_cell BKg8.out 1).trans rfl
 have hfg81 := blk_frozen BKg8.out 1
 have hqg82 : w16.cell? ⟨g8, 2, none⟩ = some (.slice Agb g3.length cgb) := (blk_cell BKg8.out 2).trans rfl
 have hfg82 := blk_frozen BKg8.out 2
 have hqg83 : w16.cell? ⟨g8, 3, none⟩ = some (.slice Agc g4.length cgc) := (blk_cell BKg8.out 3).trans rfl
 have hfg83 := blk_frozen BKg8.out 3
 have HN1 := Aside0.mk (Kd.R_reads' Hm1.out).1
 have HQ1 := Aside0.mk (Kd.R_reads' Hm1.out).2.1
 have HN2 := Aside0.mk (Kd.R_reads' Hm2.out).1
 have HQ2 := Aside0.mk (Kd.R_reads' Hm2.out).2.1
 have HN3 := Aside0.mk (Kd.R_reads' Hm3.out).1
 have HQ3 := Aside0.mk (Kd.R_reads' Hm3.out).2.1
 have HELD : Aside0 (∀ W : World, Kd.C Kd.string W Aga d2.length d2 → Kd.C Kd.string W Agb d3.length d3 → Kd.C Kd.string W Agc d4.length d4 → Calls Tryd.prog 40 #[.agg #[.string g1, .slice Aga g2.length cga, .slice Agb g3.length cgb, .slice Agc g4.length cgc], .int .i64 1] W fun e w' => e = .returned (.int .i64 q) ∧ Below W.heap.size W w') := ⟨fun W h1 h2 h3 => by have c1 := HQ1.out; have c2 := HQ2.out; have c3 := HQ3.out; rw [HN1.out] at c1 ⊢; rw [HN2.out] at c2 ⊢; rw [HN3.out] at c3 ⊢; exact laws_heldClass.calls k g1 _ _ d2 _ _ d3 _ _ d4 1 q W h1 c1 h2 c2 h3 c3 AQ.out⟩
 go_upto_region 26 with (go_at_call 40; (with_reducible refine (HELD.out _ (Kd.R_reads' Hm1.out).2.2 (Kd.R_reads' Hm2.out).2.2 (Kd.R_reads' Hm3.out).2.2).mono ?_); rintro e w17 ⟨rfl, hb⟩; have n0_ := Aside0.mk (below_step HB.out hb); have n1_ := Aside0.mk (blk_below BKg6.out hb); have n2_ := Aside0.mk (blk_below BKg8.out hb); have n3_ := Aside0.mk (Kd.R_below Hs1.out hb); have n4_ := Aside0.mk (Kd.R_below Hs2.out hb); have n5_ := Aside0.mk (Kd.R_below Hs3.out hb); have n6_ := Aside0.mk (Kd.R_below Hm1.out hb); have n7_ := Aside0.mk (Kd.R_below Hm2.out hb); have n8_ := Aside0.mk (Kd.R_below Hm3.out hb); clear hb HB BKg6 BKg8 Hs1 Hs2 Hs3 Hm1 Hm2 Hm3; have HB := n0_; have BKg6 := n1_; have BKg8 := n2_; have Hs1 := n3_; have Hs2 := n4_; have Hs3 := n5_; have Hm1 := n6_; have Hm2 := n7_; have Hm3 := n8_; clear n0_ n1_ n2_ n3_ n4_ n5_ n6_ n7_ n8_)
 clear hqg80 hfg80 hqg81 hfg81 hqg82 hfg82 hqg83 hfg83
 go_upto_region 27 with (first | (go_at_call 16; (with_reducible refine (laws_toClassS.calls k _ _ l0 m _ (Kd.C_below HR0.out HB.out) HC0.out AT.out).mono ?_); rintro e w18 ⟨v18, rfl, ho, hb⟩; obtain ⟨Ax18, cx18, rfl⟩ := Kd.R_slice (Kd.S_R ho); have HX18 := Aside0.mk (Kd.R_reads' (Kd.S_R ho)); have n0_ := Aside0.mk (below_step HB.out hb); have n1_ := Aside0.mk (blk_below BKg6.out hb); have n2_ := Aside0.mk (blk_below BKg8.out hb); have n3_ := Aside0.mk (Kd.R_below Hs1.out hb); have n4_ := Aside0.mk (Kd.R_below Hs2.out hb); have n5_ := Aside0.mk (Kd.R_below Hs3.out hb); have n6_ := Aside0.mk (Kd.R_below Hm1.out hb); have n7_ := Aside0.mk (Kd.R_below Hm2.out hb); have n8_ := Aside0.mk (Kd.R_below Hm3.out hb); clear hb HB BKg6 BKg8 Hs1 Hs2 Hs3 Hm1 Hm2 Hm3; have HB := n0_; have BKg6 := n1_; have BKg8 := n2_; have Hs1 := n3_; have Hs2 := n4_; have Hs3 := n5_; have Hm1 := n6_; have Hm2 := n7_; have Hm3 := n8_; clear n0_ n1_ n2_ n3_ n4_ n5_ n6_ n7_ n8_; clear ho) | (go_at_call 37; (with_reducible refine (impl_ClassOf.calls k _ _ m a1 g1 g2 g3 g4 _ HX18.out.2.2 HX18.out.2.1 AG.out).mono ?_); rintro e w19 ⟨u1_, u2_, u3_, rfl, ho1, ho2, ho3, hb⟩; have Hh1 := Aside0.mk (Kd.R_mono (ok' := fun _ => True) (Kd.R_lower (Kd.R_bound ho1) (below_size HB.out)) (fun b hk => trivial)); have Hh2 := Aside0.mk (Kd.R_mono (ok' := fun _ => True) (Kd.R_lower (Kd.R_bound ho2) (below_size HB.out)) (fun b hk => trivial)); have Hh3 := Aside0.mk (Kd.R_mono (ok' := fun _ => True) (Kd.R_lower (Kd.R_bound ho3) (below_size HB.out)) (fun b hk => trivial)); clear HX18; have n0_ := Aside0.mk (below_step HB.out hb); have n1_ := Aside0.mk (blk_below BKg6.out hb); have n2_ := Aside0.mk (blk_below BKg8.out hb); have n3_ := Aside0.mk (Kd.R_below Hs1.out hb); have n4_ := Aside0.mk (Kd.R_below Hs2.out hb); have n5_ := Aside0.mk (Kd.R_below Hs3.out hb); have n6_ := Aside0.mk (Kd.R_below Hm1.out hb); have n7_ := Aside0.mk (Kd.R_below Hm2.out hb); have n8_ := Aside0.mk (Kd.R_below Hm3.out hb); clear hb HB BKg6 BKg8 Hs1 Hs2 Hs3 Hm1 Hm2 Hm3; have HB := n0_; have BKg6 := n1_; have BKg8 := n2_; have Hs1 := n3_; have Hs2 := n4_; have Hs3 := n5_; have Hm1 := n6_; have Hm2 := n7_; have Hm3 := n8_; clear n0_ n1_ n2_ n3_ n4_ n5_ n6_ n7_ n8_; clear ho1 ho2 ho3; obtain ⟨Aha, cha, e1_⟩ := Kd.R_slice Hh1.out; subst e1_; obtain ⟨Ahb, chb, e2_⟩ := Kd.R_slice Hh2.out; subst e2_; obtain ⟨Ahc, chc, e3_⟩ := Kd.R_slice Hh3.out; subst e3_) | ((with_reducible refine gate_dst (N := 12) rfl ?_); refine box_event ?hg (N := 12) ?hd (cs := #[.string (⟨#[]⟩ : ByteArray), .slice none 0 0, .slice none 0 0, .slice none 0 0]) (t := 62) ?hr ?_; (case hd => rfl); (case hg => rfl); (case hr => first | (go_simp; done) | (go_simp; rfl)); intro g12 hg w20 hbox hb; have nbk_ := Aside0.mk hbox; have GEg12 := Aside0.mk (show w.heap.size ≤ g12 by rw [hg]; exact below_size HB.out); have NEg6g12 := Aside0.mk (show g6 ≠ g12 by rw [hg]; exact Nat.ne_of_lt (blk_lt BKg6.out)); have NEg8g12 := Aside0.mk (show g8 ≠ g12 by rw [hg]; exact Nat.ne_of_lt (blk_lt BKg8.out)); have n0_ := Aside0.mk (below_step HB.out hb); have n1_ := Aside0.mk (blk_below BKg6.out hb); have n2_ := Aside0.mk (blk_below BKg8.out hb); have n3_ := Aside0.mk (Kd.R_below Hs1.out hb); have n4_ := Aside0.mk (Kd.R_below Hs2.out hb); have n5_ := Aside0.mk (Kd.R_below Hs3.out hb); have n6_ := Aside0.mk (Kd.R_below Hm1.out hb); have n7_ := Aside0.mk (Kd.R_below Hm2.out hb); have n8_ := Aside0.mk (Kd.R_below Hm3.out hb); have n9_ := Aside0.mk (Kd.R_below Hh1.out hb); have n10_ := Aside0.mk (Kd.R_below Hh2.out hb); have n11_ := Aside0.mk (Kd.R_below Hh3.out hb); clear hb HB BKg6 BKg8 Hs1 Hs2 Hs3 Hm1 Hm2 Hm3 Hh1 Hh2 Hh3; have HB := n0_; have BKg6 := n1_; have BKg8 := n2_; have Hs1 := n3_; have Hs2 := n4_; have Hs3 := n5_; have Hm1 := n6_; have Hm2 := n7_; have Hm3 := n8_; have Hh1 := n9_; have Hh2 := n10_; have Hh3 := n11_; clear n0_ n1_ n2_ n3_ n4_ n5_ n6_ n7_ n8_ n9_ n10_ n11_; have BKg12 := nbk_; clear nbk_ hbox hg; have hqg120 : w20.cell? ⟨g12, 0, none⟩ = some (.string (⟨#[]⟩ : ByteArray)) := (blk_cell BKg12.out 0).trans rfl; have hfg120 := blk_frozen BKg12.out 0; have hqg121 : w20.cell? ⟨g12, 1, none⟩ = some (.slice none 0 0) := (blk_cell BKg12.out 1).trans rfl; have hfg121 := blk_frozen BKg12.out 1; have hqg122 : w20.cell? ⟨g12, 2, none⟩ = some (.slice none 0 0) := (blk_cell BKg12.out 2).trans rfl; have hfg122 := blk_frozen BKg12.out 2; have hqg123 : w20.cell? ⟨g12, 3, none⟩ = some (.slice none 0 0) := (blk_cell BKg12.out 3).trans rfl; have hfg123 := blk_frozen BKg12.out 3))
 clear hqg120 hfg120 hqg121 hfg121 hqg122 hfg122 hqg123 hfg123
 have n0_ : Aside0 (Below w.heap.size w (World.setCell (World.setCell (World.setCell (World.setCell w20 ⟨g12, 0, none⟩ (.string g1)) ⟨g12, 1, none⟩ (.slice Aha g2.length cha)) ⟨g12, 2, none⟩ (.slice Ahb g3.length chb)) ⟨g12, 3, none⟩ (.slice Ahc g4.length chc))) := ⟨by repeat (first | (with_reducible first | exact HB.out | refine below_set ?_ GEg12.out) | exact HB.out)⟩
 have n1_ : Aside0 ((World.heap (World.setCell (World.setCell (World.setCell (World.setCell w20 ⟨g12, 0, none⟩ (.string g1)) ⟨g12, 1, none⟩ (.slice Aha g2.length cha)) ⟨g12, 2, none⟩ (.slice Ahb g3.length chb)) ⟨g12, 3, none⟩ (.slice Ahc g4.length chc)))[g6]? = some (.cells #[.string s1, .slice Asa s2.length csa, .slice Asb s3.length csb, .slice Asc s4.length csc] 62 (0, 0))) := ⟨by refine blk_far ?_ NEg6g12.out _; refine blk_far ?_ NEg6g12.out _; refine blk_far ?_ NEg6g12.out _; refine blk_far ?_ NEg6g12.out _; exact BKg6.out⟩
 have n2_ : Aside0 ((World.heap (World.setCell (World.setCell (World.setCell (World.setCell w20 ⟨g12, 0, none⟩ (.string g1)) ⟨g12, 1, none⟩ (.slice Aha g2.length cha)) ⟨g12, 2, none⟩ (.slice Ahb g3.length chb)) ⟨g12, 3, none⟩ (.slice Ahc g4.length chc)))[g8]? = some (.cells #[.string g1, .slice Aga g2.length cga, .slice Agb g3.length cgb, .slice Agc g4.length cgc] 62 (0, 0))) := ⟨by refine blk_far ?_ NEg8g12.out _; refine blk_far ?_ NEg8g12.out _; refine blk_far ?_ NEg8g12.out _; refine blk_far ?_ NEg8g12.out _; exact BKg8.out⟩
 have n3_ : Aside0 ((World.heap (World.setCell (World.setCell (World.setCell (World.setCell w20 ⟨g12, 0, none⟩ (.string g1)) ⟨g12, 1, none⟩ (.slice Aha g2.length cha)) ⟨g12, 2, none⟩ (.slice Ahb g3.length chb)) ⟨g12, 3, none⟩ (.slice Ahc g4.length chc)))[g12]? = some (.cells #[.string g1, .slice Aha g2.length cha, .slice Ahb g3.length chb, .slice Ahc g4.length chc] 62 (0, 0))) := ⟨by refine blk_put (cs := #[.string g1, .slice Aha g2.length cha, .slice Ahb g3.length chb, .slice none 0 0]) ?_ 3 _ rfl; refine blk_put (cs := #[.string g1, .slice Aha g2.length cha, .slice none 0 0, .slice none 0 0]) ?_ 2 _ rfl; refine blk_put (cs := #[.string g1, .slice none 0 0, .slice none 0 0, .slice none 0 0]) ?_ 1 _ rfl; refine blk_put (cs := #[.string (⟨#[]⟩ : ByteArray), .slice none 0 0, .slice none 0 0, .slice none 0 0]) ?_ 0 _ rfl; exact BKg12.out⟩
 have n4_ := Aside0.mk (Kd.R_mono (Kd.R_far (p := ⟨g12, 3, none⟩) (Kd.R_far (p := ⟨g12, 2, none⟩) (Kd.R_far (p := ⟨g12, 1, none⟩) (Kd.R_far (p := ⟨g12, 0, none⟩) (Kd.R_types Hs1.out BKg12.out (by decide)) (fun _ hk => hk.2) (.string g1)) (fun _ hk => hk.2) (.slice Aha g2.length cha)) (fun _ hk => hk.2) (.slice Ahb g3.length chb)) (fun _ hk => hk.2) (.slice Ahc g4.length chc)) (fun _ hk => hk.1))
 have n5_ := Aside0.mk (Kd.R_mono (Kd.R_far (p := ⟨g12, 3, none⟩) (Kd.R_far (p := ⟨g12, 2, none⟩) (Kd.R_far (p := ⟨g12, 1, none⟩) (Kd.R_far (p := ⟨g12, 0, none⟩) (Kd.R_types Hs2.out BKg12.out (by decide)) (fun _ hk => hk.2) (.string g1)) (fun _ hk => hk.2) (.slice Aha g2.length cha)) (fun _ hk => hk.2) (.slice Ahb g3.length chb)) (fun _ hk => hk.2) (.slice Ahc g4.length chc)) (fun _ hk => hk.1))
 have n6_ := Aside0.mk (Kd.R_mono (Kd.R_far (p := ⟨g12, 3, none⟩) (Kd.R_far (p := ⟨g12, 2, none⟩) (Kd.R_far (p := ⟨g12, 1, none⟩) (Kd.R_far (p := ⟨g12, 0, none⟩) (Kd.R_types Hs3.out BKg12.out (by decide)) (fun _ hk => hk.2) (.string g1)) (fun _ hk => hk.2) (.slice Aha g2.length cha)) (fun _ hk => hk.2) (.slice Ahb g3.length chb)) (fun _ hk => hk.2) (.slice Ahc g4.length chc)) (fun _ hk => hk.1))
 have n7_ := Aside0.mk (Kd.R_mono (Kd.R_far (p := ⟨g12, 3, none⟩) (Kd.R_far (p := ⟨g12, 2, none⟩) (Kd.R_far (p := ⟨g12, 1, none⟩) (Kd.R_far (p := ⟨g12, 0, none⟩) (Kd.R_types Hm1.out BKg12.out (by decide)) (fun _ hk => hk.2) (.string g1)) (fun _ hk => hk.2) (.slice Aha g2.length cha)) (fun _ hk => hk.2) (.slice Ahb g3.length chb)) (fun _ hk => hk.2) (.slice Ahc g4.length chc)) (fun _ hk => hk.1))
 have n8_ := Aside0.mk (Kd.R_mono (Kd.R_far (p := ⟨g12, 3, none⟩) (Kd.R_far (p := ⟨g12, 2, none⟩) (Kd.R_far (p := ⟨g12, 1, none⟩) (Kd.R_far (p := ⟨g12, 0, none⟩) (Kd.R_types Hm2.out BKg12.out (by decide)) (fun _ hk => hk.2) (.string g1)) (fun _ hk => hk.2) (.slice Aha g2.length cha)) (fun _ hk => hk.2) (.slice Ahb g3.length chb)) (fun _ hk => hk.2) (.slice Ahc g4.length chc)) (fun _ hk => hk.1))
 have n9_ := Aside0.mk (Kd.R_mono (Kd.R_far (p := ⟨g12, 3, none⟩) (Kd.R_far (p := ⟨g12, 2, none⟩) (Kd.R_far (p := ⟨g12, 1, none⟩) (Kd.R_far (p := ⟨g12, 0, none⟩) (Kd.R_types Hm3.out BKg12.out (by decide)) (fun _ hk => hk.2) (.string g1)) (fun _ hk => hk.2) (.slice Aha g2.length cha)) (fun _ hk => hk.2) (.slice Ahb g3.length chb)) (fun _ hk => hk.2) (.slice Ahc g4.length chc)) (fun _ hk => hk.1))
 have n10_ := Aside0.mk (Kd.R_mono (Kd.R_far (p := ⟨g12, 3, none⟩) (Kd.R_far (p := ⟨g12, 2, none⟩) (Kd.R_far (p := ⟨g12, 1, none⟩) (Kd.R_far (p := ⟨g12, 0, none⟩) (Kd.R_types Hh1.out BKg12.out (by decide)) (fun _ hk => hk.2) (.string g1)) (fun _ hk => hk.2) (.slice Aha g2.length cha)) (fun _ hk => hk.2) (.slice Ahb g3.length chb)) (fun _ hk => hk.2) (.slice Ahc g4.length chc)) (fun _ hk => hk.1))
 have n11_ := Aside0.mk (Kd.R_mono (Kd.R_far (p := ⟨g12, 3, none⟩) (Kd.R_far (p := ⟨g12, 2, none⟩) (Kd.R_far (p := ⟨g12, 1, none⟩) (Kd.R_far (p := ⟨g12, 0, none⟩) (Kd.R_types Hh2.out BKg12.out (by decide)) (fun _ hk => hk.2) (.string g1)) (fun _ hk => hk.2) (.slice Aha g2.length cha)) (fun _ hk => hk.2) (.slice Ahb g3.length chb)) (fun _ hk => hk.2) (.slice Ahc g4.length chc)) (fun _ hk => hk.1))
 have n12_ := Aside0.mk (Kd.R_mono (Kd.R_far (p := ⟨g12, 3, none⟩) (Kd.R_far (p := ⟨g12, 2, none⟩) (Kd.R_far (p := ⟨g12, 1, none⟩) (Kd.R_far (p := ⟨g12, 0, none⟩) (Kd.R_types Hh3.out BKg12.out (by decide)) (fun _ hk => hk.2) (.string g1)) (fun _ hk => hk.2) (.slice Aha g2.length cha)) (fun _ hk => hk.2) (.slice Ahb g3.length chb)) (fun _ hk => hk.2) (.slice Ahc g4.length chc)) (fun _ hk => hk.1))
 clear HB BKg6 BKg8 BKg12 Hs1 Hs2 Hs3 Hm1 Hm2 Hm3 Hh1 Hh2 Hh3
 have HB := n0_
 have BKg6 := n1_
 have BKg8 := n2_
 have BKg12 := n3_
 have Hs1 := n4_
 have Hs2 := n5_
 have Hs3 := n6_
 have Hm1 := n7_
 have Hm2 := n8_
 have Hm3 := n9_
 have Hh1 := n10_
 have Hh2 := n11_
 have Hh3 := n12_
 clear n0_ n1_ n2_ n3_ n4_ n5_ n6_ n7_ n8_ n9_ n10_ n11_ n12_
 generalize World.setCell (World.setCell (World.setCell (World.setCell w20 _ _) _ _) _ _) _ _ = w21 at HB BKg6 BKg8 BKg12 Hs1 Hs2 Hs3 Hm1 Hm2 Hm3 Hh1 Hh2 Hh3 ⊢
 have hqg120 : w21.cell? ⟨g12, 0, none⟩ = some (.string g1) := (blk_cell BKg12.out 0).trans rfl
 have hfg120 := blk_frozen BKg12.out 0
 have hqg121 : w21.cell? ⟨g12, 1, none⟩ = some (.slice Aha g2.length cha) := (blk_cell BKg12.out 1).trans rfl
 have hfg121 := blk_frozen BKg12.out 1
 have hqg122 : w21.cell? ⟨g12, 2, none⟩ = some (.slice Ahb g3.length chb) := (blk_cell BKg12.out 2).trans rfl
 have hfg122 := blk_frozen BKg12.out 2
 have hqg123 : w21.cell? ⟨g12, 3, none⟩ = some (.slice Ahc g4.length chc) := (blk_cell BKg12.out 3).trans rfl
 have hfg123 := blk_frozen BKg12.out 3
 have hqg60 : w21.cell? ⟨g6, 0, none⟩ = some (.string s1) := (blk_cell BKg6.out 0).trans rfl
 have hfg60 := blk_frozen BKg6.out 0
 have hqg61 : w21.cell? ⟨g6, 1, none⟩ = some (.slice Asa s2.length csa) := (blk_cell BKg6.out 1).trans rfl
 have hfg61 := blk_frozen BKg6.out 1
 have hqg62 : w21.cell? ⟨g6, 2, none⟩ = some (.slice Asb s3.length csb) := (blk_cell BKg6.out 2).trans rfl
 have hfg62 := blk_frozen BKg6.out 2
 have hqg63 : w21.cell? ⟨g6, 3, none⟩ = some (.slice Asc s4.length csc) := (blk_cell BKg6.out 3).trans rfl
 have hfg63 := blk_frozen BKg6.out 3
 go_upto_region 30 with (go_at_call 38; (with_reducible refine (laws_eqClass.calls k g1 _ _ g2 _ _ g3 _ _ g4 s1 _ _ s2 _ _ s3 _ _ s4 true _ (Kd.R_reads' Hh1.out).2.2 (Kd.R_reads' Hh1.out).2.1 (Kd.R_reads' Hh2.out).2.2 (Kd.R_reads' Hh2.out).2.1 (Kd.R_reads' Hh3.out).2.2 (Kd.R_reads' Hh3.out).2.1 (Kd.R_reads' Hs1.out).2.2 (Kd.R_reads' Hs1.out).2.1 (Kd.R_reads' Hs2.out).2.2 (Kd.R_reads' Hs2.out).2.1 (Kd.R_reads' Hs3.out).2.2 (Kd.R_reads' Hs3.out).2.1 AE.out).mono ?_); rintro e w22 ⟨rfl, hb⟩; have n0_ := Aside0.mk (below_step HB.out hb); have n1_ := Aside0.mk (blk_below BKg6.out hb); have n2_ := Aside0.mk (blk_below BKg8.out hb); have n3_ := Aside0.mk (blk_below BKg12.out hb); have n4_ := Aside0.mk (Kd.R_below Hs1.out hb); have n5_ := Aside0.mk (Kd.R_below Hs2.out hb); have n6_ := Aside0.mk (Kd.R_below Hs3.out hb); have n7_ := Aside0.mk (Kd.R_below Hm1.out hb); have n8_ := Aside0.mk (Kd.R_below Hm2.out hb); have n9_ := Aside0.mk (Kd.R_below Hm3.out hb); have n10_ := Aside0.mk (Kd.R_below Hh1.out hb); have n11_ := Aside0.mk (Kd.R_below Hh2.out hb); have n12_ := Aside0.mk (Kd.R_below Hh3.out hb); clear hb HB BKg6 BKg8 BKg12 Hs1 Hs2 Hs3 Hm1 Hm2 Hm3 Hh1 Hh2 Hh3; have HB := n0_; have BKg6 := n1_; have BKg8 := n2_; have BKg12 := n3_; have Hs1 := n4_; have Hs2 := n5_; have Hs3 := n6_; have Hm1 := n7_; have Hm2 := n8_; have Hm3 := n9_; have Hh1 := n10_; have Hh2 := n11_; have Hh3 := n12_; clear n0_ n1_ n2_ n3_ n4_ n5_ n6_ n7_ n8_ n9_ n10_ n11_ n12_)
 clear hqg120 hfg120 hqg121 hfg121 hqg122 hfg122 hqg123 hfg123 hqg60 hfg60 hqg61 hfg61 hqg62 hfg62 hqg63 hfg63
 have hqg80 : w22.cell? ⟨g8, 0, none⟩ = some (.string g1) := (blk_cell BKg8.out 0).trans rfl
 have hfg80 := blk_frozen BKg8.out 0
 have hqg81 : w22.cell? ⟨g8, 1, none⟩ = some (.slice Aga g2.length cga) := (blk_cell BKg8.out 1).trans rfl
 have hfg81 := blk_frozen BKg8.out 1
 have hqg82 : w22.cell? ⟨g8, 2, none⟩ = some (.slice Agb g3.length cgb) := (blk_cell BKg8.out 2).trans rfl
 have hfg82 := blk_frozen BKg8.out 2
 have hqg83 : w22.cell? ⟨g8, 3, none⟩ = some (.slice Agc g4.length cgc) := (blk_cell BKg8.out 3).trans rfl
 have hfg83 := blk_frozen BKg8.out 3
 go_wp2_with (go_at_call 40; (with_reducible refine (HELD.out _ (Kd.R_reads' Hm1.out).2.2 (Kd.R_reads' Hm2.out).2.2 (Kd.R_reads' Hm3.out).2.2).mono ?_); rintro e w23 ⟨rfl, hb⟩; have n0_ := Aside0.mk (below_step HB.out hb); have n1_ := Aside0.mk (blk_below BKg6.out hb); have n2_ := Aside0.mk (blk_below BKg8.out hb); have n3_ := Aside0.mk (Kd.R_below Hs1.out hb); have n4_ := Aside0.mk (Kd.R_below Hs2.out hb); have n5_ := Aside0.mk (Kd.R_below Hs3.out hb); have n6_ := Aside0.mk (Kd.R_below Hm1.out hb); have n7_ := Aside0.mk (Kd.R_below Hm2.out hb); have n8_ := Aside0.mk (Kd.R_below Hm3.out hb); clear hb HB BKg6 BKg8 Hs1 Hs2 Hs3 Hm1 Hm2 Hm3; have HB := n0_; have BKg6 := n1_; have BKg8 := n2_; have Hs1 := n3_; have Hs2 := n4_; have Hs3 := n5_; have Hm1 := n6_; have Hm2 := n7_; have Hm3 := n8_; clear n0_ n1_ n2_ n3_ n4_ n5_ n6_ n7_ n8_)
 go_ret
 exact ⟨rfl, HB.out⟩
def ok74 (x : S74) : Prop := x.f0.size ≤ 140737488351232 ∧ (x.f1.length * 16 ≤ 140737488351232 ∧ ∀ y_ ∈ x.f1, y_.size ≤ 140737488351232) ∧ (x.f2.length * 16 ≤ 140737488351232 ∧ ∀ y_ ∈ x.f2, y_.size ≤ 140737488351232) ∧ (x.f3.length * 16 ≤ 140737488351232 ∧ ∀ y_ ∈ x.f3, y_.size ≤ 140737488351232)
def laws_FnExactClassOf.Pure : Prop := ∀ (l0 : List (S74)) (a1 : ByteArray), (l0.length * 88 ≤ 140737488351232 ∧ ∀ y_ ∈ l0, ok74 y_) → a1.size ≤ 140737488351232 → ∃ k, laws_FnExactClassOf.f k l0 a1 = some true
end Go.Proofs.YtgkjlfimjnhbbaaDoor.PFnExactClassOf
