-- Laid by this session's own program out of the translation; Lean checks it.
import Derived.Test.YtgkjlfimjnhbbaaDoorQFnExactClassOfx0
import Derived.Test.YtgkjlfimjnhbbaaDoorQFnExactClassOfx8
namespace Go.Proofs.YtgkjlfimjnhbbaaDoor.PFnExactClassOf
open Go.RowKit Go.Proofs.YtgkjlfimjnhbbaaDoorW.PrintWords Go.Proofs.YtgkjlfimjnhbbaaDoorW.PrintLast Go.Proofs.YtgkjlfimjnhbbaaDoorW.PrintMore
attribute [local go_sem] max2_int min2_int max_two min_two max_three min_three max_four min_four   -- for this text's walks alone
set_option linter.unusedVariables false
set_option linter.unusedSimpArgs false
def impl_isLong.l0 : Nat → List ByteArray → Int → Int → Option (Bool)
 | 0, _, _, _ => none
 | k + 1, x5, x6, x7 => if x7 < x6 then (if 0 ≤ x7 then (if x7 < (x5.length : Int) then (if ((rdOf ByteArray.empty x5 x7).size : Int) > 8000 then (some true) else (impl_isLong.l0 k x5 x6 (wrap64 (x7 + 1)))) else (none)) else (none)) else (some false)
def impl_isLong.f (k : Nat) (l0 : List ByteArray) : Option (Bool) := impl_isLong.l0 k l0 (l0.length : Int) 0
theorem impl_isLong.mono_l : ∀ k, (∀ y0 y1 y2, LeO (impl_isLong.l0 k y0 y1 y2) (impl_isLong.l0 (k + 1) y0 y1 y2))
 | 0 => fun _ _ _ r h => by simp [impl_isLong.l0] at h
 | k + 1 => by
  have ih0 := impl_isLong.mono_l k
  ·intro y0 y1 y2
   unfold impl_isLong.l0
   repeat' first
   | (with_reducible exact ih0 _ _ _)
   | (with_reducible exact LeO.refl _)
   | (with_reducible exact LeO.none _)
   | (with_reducible refine LeO.ite ?_ ?_)
   | (with_reducible refine LeO.bind ?_ (fun _ => ?_))
   | exact ih0 _ _ _
   | exact LeO.none _
   | refine LeO.ite ?_ ?_
   | refine LeO.bind ?_ (fun _ => ?_)
theorem impl_isLong.mono : ∀ a0 k, LeO (impl_isLong.f k a0) (impl_isLong.f (k + 1) a0) := by
 intro a0 k
 have ih0 := impl_isLong.mono_l k
 unfold impl_isLong.f
 repeat' first
   | (with_reducible exact ih0 _ _ _)
   | (with_reducible exact LeO.refl _)
   | (with_reducible exact LeO.none _)
   | (with_reducible refine LeO.ite ?_ ?_)
   | (with_reducible refine LeO.bind ?_ (fun _ => ?_))
   | exact ih0 _ _ _
   | exact LeO.none _
   | refine LeO.ite ?_ ?_
   | refine LeO.bind ?_ (fun _ => ?_)
set_option maxHeartbeats 8000000 in
set_option maxRecDepth 100000 in
theorem impl_isLong.calls (k : Nat) (A0 : Option Addr) (c0 : Nat) (l0 : List ByteArray) (r : Bool) (w : World) (hr0 : Kd.C Kd.string w A0 l0.length l0) (hc0 : l0.length ≤ c0) (h : impl_isLong.f k l0 = some r) :
  Calls Tryd.prog 72 #[.slice A0 l0.length c0] w fun e w' => e = .returned (.bool r) ∧ Drawn0 w w' := by
 have HR0 := Aside0.mk hr0
 have HC0 := Aside0.mk hc0
 clear hr0 hc0
 have H : (impl_isLong.l0 k l0 (l0.length : Int) 0) = some r := h
 clear h
 have H' := Aside0.mk H
 clear H
 go_enter Tryd.func72, Tryd.ntmps72
 go_wp2
 go_loopg [7] k (fun kq v7 w' => ∃ (x7_1 : Int), v7 = .int .i64 x7_1 ∧ Aside0 (impl_isLong.l0 kq l0 (l0.length : Int) x7_1 = some r) ∧ Aside0 (kq ≤ k) ∧ Drawn0 w w')
 case atStart => exact ⟨(0), EZc, H', ⟨Nat.le_refl _⟩, DRz⟩
 case round =>
  clear H'
  obtain ⟨x7_1, rfl, HA, HK1, ⟨m1, rfl⟩⟩ := hrel
  cases gk with
  | zero => exact absurd HA.out (by simp [impl_isLong.l0])
  | succ k1 =>
   have H := HA.out
   clear HA
   simp only [impl_isLong.l0] at H
   by_cases c2 : x7_1 < (l0.length : Int)
   ·rw [if_pos c2] at H
    have c2b0 : decide (x7_1 < (l0.length : Int)) = true := decide_eq_true c2
    clear c2
    by_cases c3 : 0 ≤ x7_1
    ·rw [if_pos c3] at H
     have c3b0 : decide (0 ≤ x7_1) = true := decide_eq_true c3
     clear c3
     by_cases c4 : x7_1 < (l0.length : Int)
     ·rw [if_pos c4] at H
      have c4b0 : decide (x7_1 < (l0.length : Int)) = true := decide_eq_true c4
      clear c4
      by_cases c5 : ((rdOf ByteArray.empty l0 x7_1).size : Int) > 8000
      ·rw [if_pos c5] at H
       have c5b0 : decide (8000 < ((rdOf ByteArray.empty l0 x7_1).size : Int)) = true := decide_eq_true c5
       have c5b1 : decide (8000 < (rdOf ByteArray.empty l0 x7_1).size) = true := decide_eq_true (by omega)
       clear c5
       obtain rfl := Option.some.inj H
       have p207 : 0 ≤ (x7_1 : Int) := ODz
       have q207 : x7_1 < (l0.length : Int) := ODz
       obtain ⟨ad207, e207, hx207_0⟩ := Kd.at_string HR0.out x7_1 p207 q207
       cases e207
       replace p207 := eq_true p207
       replace q207 := eq_true q207
       go_wp2
       go_ret
       exact ⟨EZb, DRz⟩
      ·rw [if_neg c5] at H
       have c5b0 : decide (8000 < ((rdOf ByteArray.empty l0 x7_1).size : Int)) = false := decide_eq_false c5
       have c5b1 : decide (8000 < (rdOf ByteArray.empty l0 x7_1).size) = false := decide_eq_false (by omega)
       clear c5
       have H' := Aside0.mk H
       clear H
       have p207 : 0 ≤ (x7_1 : Int) := ODz
       have q207 : x7_1 < (l0.length : Int) := ODz
       obtain ⟨ad207, e207, hx207_0⟩ := Kd.at_string HR0.out x7_1 p207 q207
       cases e207
       replace p207 := eq_true p207
       replace q207 := eq_true q207
       go_wp2
       go_roundg k1
       case measure => have := HK1.out; omega
       case rel => exact ⟨(wrap64 (x7_1 + 1)), EZc, H', ⟨by have := HK1.out; omega⟩, DRz⟩
     ·rw [if_neg c4] at H
      exact absurd H (by simp)
    ·rw [if_neg c3] at H
     exact absurd H (by simp)
   ·rw [if_neg c2] at H
    have c2b0 : decide (x7_1 < (l0.length : Int)) = false := decide_eq_false c2
    clear c2
    obtain rfl := Option.some.inj H
    go_wp2
    go_ret
    exact ⟨EZb, DRz⟩
def slices_Clone_string_string.f (l0 : List ByteArray) : Option (List ByteArray) := (some (([] : List ByteArray) : List ByteArray)).bind fun y208 => (if y208.length + l0.length < 8796093022208 then (some (y208 ++ l0)) else (none))
set_option maxHeartbeats 8000000 in
set_option maxRecDepth 100000 in
theorem slices_Clone_string_string.calls (A0 : Option Addr) (c0 : Nat) (l0 : List ByteArray) (r : List ByteArray) (w : World) (hr0 : Kd.C Kd.string w A0 l0.length l0) (hc0 : l0.length ≤ c0) (h : slices_Clone_string_string.f l0 = some r) :
  Calls Tryd.prog 77 #[.slice A0 l0.length c0] w fun e w' => ∃ v0_ : Value, e = .returned (v0_) ∧ Kd.R Kd.string 9 w' w.heap.size (fun _ => True) v0_ r ∧ Below w.heap.size w w' := by
 have hq22 : ∀ (W_ : World) (a : Option Addr) (n c n' c' : Nat), (binOp .eql 22 (.slice a n c) (.slice none n' c')).run Tryd.prog W_ = .ok (.bool a.isNone) W_ := fun W_ a n c n' c' => Go.Lib.run_eql_slice_nil W_ _ _ a n c n' c' Tryd.underlying22
 have HR0 := Aside0.mk hr0
 have HC0 := Aside0.mk hc0
 clear hr0 hc0
 have HB := Aside0.mk (Below.refl w.heap.size w)
 have H : ((some (([] : List ByteArray) : List ByteArray)).bind fun y208 => (if y208.length + l0.length < 8796093022208 then (some (y208 ++ l0)) else (none))) = some r := h
 clear h
 by_cases c2 : A0.isNone = true
 ·have c2l : l0 = [] := nil_of_none_ HR0.out c2
  have H1 : (some ([] : List ByteArray)) = some r := by (subst c2l; simpa using H)
  clear H
  have H := H1
  clear H1
  have c2b0 := c2
  clear c2l
  obtain rfl := Option.some.inj H
  go_enter Tryd.func77, Tryd.ntmps77
  go_wp2
  go_ret
  exact ⟨_, EZa, by first | exact Kd.R_nil _ _ _ _ _ | exact Kd.N_nil _ _ _ _ _ | exact Kd.V_nil _ _ _ _ _ | exact Kd.Q_nil _ _ _ _ _ | exact Kd.S_nil _ _ _ _ _, HBa⟩
 ·have c2b0 : A0.isNone = false := Bool.eq_false_iff.mpr c2
  clear c2
  obtain ⟨y208, hy208⟩ : ∃ y_ : List ByteArray, y_ = (([] : List ByteArray)) := ⟨_, rfl⟩
  replace H : (if y208.length + l0.length < 8796093022208 then (some (y208 ++ l0)) else (none)) = some r := by first | (rw [hy208]; with_reducible exact H) | (have H2_ := (Option.bind_some _ _).symm.trans H; rw [hy208]; with_reducible exact H2_) | (have H2_ := (Option.bind_some _ _).symm.trans H; with_reducible exact H2_) | with_reducible exact H | (rw [hy208]; exact H) | exact H
  have Ny208 := Aside0.mk hy208
  clear hy208
  by_cases c3 : y208.length + l0.length < 8796093022208
  ·rw [if_pos c3] at H
   have LMc3 := Aside0.mk c3
   clear c3
   obtain ⟨y211, hy211⟩ : ∃ y_ : List ByteArray, y_ = (y208 ++ l0) := ⟨_, rfl⟩
   replace H : (some y211) = some r := by first | (rw [hy211]; with_reducible exact H) | (have H2_ := (Option.bind_some _ _).symm.trans H; rw [hy211]; with_reducible exact H2_) | (have H2_ := (Option.bind_some _ _).symm.trans H; with_reducible exact H2_) | with_reducible exact H | (rw [hy211]; exact H) | exact H
   have Ny211 := Aside0.mk hy211
   clear hy211
   obtain rfl := Option.some.inj H
   go_enter Tryd.func77, Tryd.ntmps77
   go_wp2_with (first | ((with_reducible refine gate_dst (N := 5) rfl ?_); refine Kd.R_lit Kd.string _ 9 ?hg (N := 5) ?hd (xs := ([] : List ByteArray)) (inner := []) (ok := fun _ => True) (okp := fun _ => True) ?hr ?hp (fun _ hk => hk) trivial (Below.refl _ _) (Nat.le_refl _) (by simp) ?_; (case hd => rfl); (case hg => rfl); (case hr => first | (go_simp; done) | (go_simp; rfl)); (case hp => exact (Reps.none _ _)); intro v209 w4 ho5 hb hg_ hnew_; clear hg_ hnew_; (first | rw [← Ny208.out] at ho5 | (simp only [Int.reduceToNat] at ho5; rw [← Ny208.out] at ho5)); have n0_ := Aside0.mk (Kd.R_lower ho5 (below_size HBa)); have n1_ := Aside0.mk (below_step HBa hb); clear HB; have HO210 := n0_; have HB := n1_; clear n0_ n1_; clear hb ho5) | ((with_reducible refine gate_builtin (b := .append) (xs := #[.tmp 5, .tmp 6]) rfl ?_); at_builtin; refine Kd.R_append_rows Kd.string (w0 := w) w.heap.size rfl (.tmp 5) (.tmp 6) 22 9 (.string ⟨#[]⟩) 16 rfl Tryd.underlying22 info9 rfl (by decide) (by omega) v209 y208 l0 _ _ _ (fun _ => True) (fun _ => False) rfl rfl ?aO ?aR (fun _ _ h => h) (fun _ h => h.elim) ?aF ?aB ?aS ?aL ?_; (case aR => repeat (first | exact (Kd.C_below HR0.out HB.out) | (with_reducible refine Kd.C_alloc ?_ _) | (with_reducible refine Kd.C_drewN ?_ _) | (with_reducible refine Kd.C_drew ?_))); (case aB => exact HBa); (case aF => exact (fun _ _ => trivial)); (case aO => exact (by (with_reducible repeat (first | apply Kd.R_alloc | apply Kd.R_drewN | apply Kd.R_drew)); exact HO210.out)); (case aS => exact (below_size HBa)); (case aL => have := LMc3.out; omega); intro v212 w6 ho hb hg hat; rw [← Ny211.out] at ho; have n0_ := Aside0.mk (hb); have n1_ := Aside0.mk (ho); clear HB; clear HO210; have HB := n0_; have HO213 := n1_; clear n0_ n1_; clear ho hb hg hat))
   go_ret
   exact ⟨_, EZa, by (with_reducible repeat (first | apply Kd.R_alloc | apply Kd.R_drewN | apply Kd.R_drew)); exact HO213.out, HBa⟩
  ·rw [if_neg c3] at H
   exact absurd H (by simp)
def impl_classOf.ix (t : ByteArray) : List (S62) → Int → Int
 | [], _ => -1
 | x :: xs, i => if x.f0.toList = t.toList then i else impl_classOf.ix t xs (i + 1)
def impl_classOf.f (l0 : List (S62)) (a1 : ByteArray) : Option (ByteArray × List ByteArray × List ByteArray × List ByteArray × Bool) :=
 if 0 ≤ impl_classOf.ix a1 l0 0 then (slices_Clone_string_string.f (rd_T62 l0 (impl_classOf.ix a1 l0 0)).f1).bind fun x1 => (slices_Clone_string_string.f (rd_T62 l0 (impl_classOf.ix a1 l0 0)).f2).bind fun x2 => (slices_Clone_string_string.f (rd_T62 l0 (impl_classOf.ix a1 l0 0)).f3).bind fun x3 => some ((rd_T62 l0 (impl_classOf.ix a1 l0 0)).f0, x1, x2, x3, true)
 else some (⟨#[]⟩, [], [], [], false)
theorem impl_classOf.ix_lt (t : ByteArray) : ∀ (l : List (S62)) (i : Int), 0 ≤ i → impl_classOf.ix t l i < 0 ∨ impl_classOf.ix t l i < i + l.length
 | [], i, h0 => by simp only [impl_classOf.ix]; omega
 | x :: xs, i, h0 => by
  simp only [impl_classOf.ix]
  by_cases c : x.f0.toList = t.toList
  ·rw [if_pos c]; simp only [List.length_cons]; omega
  ·rw [if_neg c]
   have := impl_classOf.ix_lt t xs (i + 1) (by omega)
   simp only [List.length_cons]; omega
set_option maxHeartbeats 8000000 in
set_option maxRecDepth 100000 in
theorem impl_classOf.clo_calls (na : Nat) (t a0 : ByteArray) (A1 A2 A3 : Option Addr) (n1 c1 n2 c2 n3 c3 : Nat) (w : World) (hl : w.cell? ⟨na, 0, none⟩ = some (.string t)) :
  Calls Tryd.prog 105 #[.agg #[.string a0, .slice A1 n1 c1, .slice A2 n2 c2, .slice A3 n3 c3], .pointer (some ⟨na, 0, none⟩)] w fun e w' => e = .returned (.bool (a0.toList == t.toList)) ∧ Below w.heap.size w w' := by
 have hu := Tryd.underlying62
 have HL := Aside0.mk hl
 have HB := Aside0.mk (Below.refl w.heap.size w)
 clear hl
 go_enter Tryd.func105, Tryd.ntmps105
 go_wp2_with ((with_reducible refine gate_dst (N := 2) rfl ?_); refine box_event ?hg (N := 2) ?hd (cs := #[.string a0, .slice A1 n1 c1, .slice A2 n2 c2, .slice A3 n3 c3]) (t := 62) ?hr ?_; (case hd => rfl); (case hg => rfl); (case hr => first | (go_simp; done) | (go_simp; rfl)); intro gb hg w9 hbox hb; have BKgb := Aside0.mk hbox; have GEgb := Aside0.mk (show w.heap.size ≤ gb by rw [hg]; exact below_size HB.out); have n0_ := Aside0.mk (below_step HB.out hb); clear HB; have HB := n0_; clear n0_ hb hbox hg; have hcz : w9.cell? ⟨gb, 0, none⟩ = some (.string a0) := (blk_cell BKgb.out 0).trans rfl; have hna : w9.cell? ⟨na, 0, none⟩ = some (.string t) := (HB.out.cell (World.block_lt_of_cell? w _ HL.out)).trans HL.out)
 go_ret
 exact ⟨by first | rfl | (simp [*]; done), HBa⟩
set_option maxHeartbeats 8000000 in
set_option maxRecDepth 100000 in
theorem impl_classOf.index (na : Nat) (t : ByteArray) (A0 : Option Addr) (c0 : Nat) (l0 : List (S62)) (w : World) (hl : w.cell? ⟨na, 0, none⟩ = some (.string t)) (hr0 : Kd.C k62 w A0 l0.length l0) :
  Calls Tryd.prog 104 #[.slice A0 l0.length c0, .func (.func 105) #[] #[.pointer (some ⟨na, 0, none⟩)]] w fun e w' => e = .returned (.int .i64 (impl_classOf.ix t l0 0)) ∧ Below w.heap.size w w' := by
 have hu := Tryd.underlying62
 obtain ⟨r, hr⟩ : ∃ r, r = impl_classOf.ix t l0 0 := ⟨_, rfl⟩
 rw [← hr]
 have HR0 := Aside0.mk hr0
 have HL := Aside0.mk hl
 clear hr0 hl
 have HB := Aside0.mk (Below.refl w.heap.size w)
 have H' := Aside0.mk hr
 clear hr
 go_enter Tryd.func104, Tryd.ntmps104
 go_wp2
 go_loopg [5, 8] l0.length (fun kq _ v8 w' => ∃ j : Nat, v8 = .int .i64 (j : Int) ∧ Aside0 (r = impl_classOf.ix t (l0.drop j) (j : Int)) ∧ Aside0 (l0.length - j ≤ kq) ∧ Aside0 (Below w.heap.size w w'))
 case atStart => exact ⟨0, rfl, H', ⟨by omega⟩, HB⟩
 case round =>
  clear H'
  obtain ⟨j, rfl, HA, HK, HB⟩ := hrel
  by_cases c1 : (j : Int) < (l0.length : Int)
  ·have c1b0 : decide ((j : Int) < (l0.length : Int)) = true := decide_eq_true c1
   have c1b1 : decide (j < l0.length) = true := decide_eq_true (by omega)
   have H := HA.out
   clear HA
   have hj : j < l0.length := by omega
   have p1 : 0 ≤ (j : Int) := by omega
   obtain ⟨ad1, B1, b1, B2, b2, B3, b3, e1, hx1_0, hx1_1, hx1_2, hx1_3, m1, g1, m2, g2, m3, g3⟩ := at_T62 HR0.out (j : Int) p1 c1
   cases e1
   replace hx1_0 := (HB.out.cell (World.block_lt_of_cell? w _ hx1_0)).trans hx1_0
   replace hx1_1 := (HB.out.cell (World.block_lt_of_cell? w _ hx1_1)).trans hx1_1
   replace hx1_2 := (HB.out.cell (World.block_lt_of_cell? w _ hx1_2)).trans hx1_2
   replace hx1_3 := (HB.out.cell (World.block_lt_of_cell? w _ hx1_3)).trans hx1_3
   simp only [Int.toNat_natCast] at hx1_0 hx1_1 hx1_2 hx1_3
   clear g1 g2 g3 m1 m2 m3
   have hel : l0.drop j = rd_T62 l0 (j : Int) :: l0.drop (j + 1) := by
    rw [List.drop_eq_getElem_cons hj]
    congr 1
    unfold rd_T62
    rw [List.getD_eq_getElem?_getD, show (j : Int).toNat = j from rfl, List.getElem?_eq_getElem hj]; rfl
   rw [hel] at H
   simp only [impl_classOf.ix] at H
   have c1i := eq_true c1
   clear hel
   by_cases c2 : (rd_T62 l0 (j : Int)).f0.toList = t.toList
   ·rw [if_pos c2] at H
    have c2b0 : ((rd_T62 l0 (j : Int)).f0.toList == t.toList) = true := beq_iff_eq.mpr c2
    subst H
    clear hj c1 c2
    go_wp2_with (go_at_call 105; (with_reducible refine (impl_classOf.clo_calls na t _ _ _ _ _ _ _ _ _ _ _ ?sl).mono ?_); (case sl => exact (HB.out.cell (World.block_lt_of_cell? w _ HL.out)).trans HL.out); rintro e w5 ⟨rfl, hb⟩; have n0_ := Aside0.mk (below_step HB.out hb); clear HB; have HB := n0_; clear n0_; clear hb)
    go_ret
    exact ⟨rfl, HB.out⟩
   ·rw [if_neg c2] at H
    have c2b0 : ((rd_T62 l0 (j : Int)).f0.toList == t.toList) = false := beq_eq_false_iff_ne.mpr c2
    have HN := Aside0.mk H
    have HJ := Aside0.mk hj
    clear hj c1 c2 H
    go_wp2_with (go_at_call 105; (with_reducible refine (impl_classOf.clo_calls na t _ _ _ _ _ _ _ _ _ _ _ ?sl).mono ?_); (case sl => exact (HB.out.cell (World.block_lt_of_cell? w _ HL.out)).trans HL.out); rintro e w5 ⟨rfl, hb⟩; have n0_ := Aside0.mk (below_step HB.out hb); clear HB; have HB := n0_; clear n0_; clear hb)
    go_roundg (l0.length - (j + 1))
    case measure => have := HK.out; have := HJ.out; omega
    case rel => exact ⟨j + 1, by have hb := HR0.out.2.1; have := HJ.out; first | rfl | go_num | (congr 1; unfold wrap64; omega), by have h2 := HN.out; rw [show (j : Int) + 1 = ((j + 1 : Nat) : Int) by omega] at h2; exact ⟨h2⟩, ⟨Nat.le_refl _⟩, HB⟩
  ·have c1b0 : decide ((j : Int) < (l0.length : Int)) = false := decide_eq_false c1
   have c1b1 : decide (j < l0.length) = false := decide_eq_false (by omega)
   have H := HA.out
   rw [List.drop_of_length_le (by omega)] at H
   simp only [impl_classOf.ix] at H
   subst H
   clear c1
   go_wp2
   go_ret
   exact ⟨rfl, HB.out⟩
def impl_classOf.T5 : Bool × List (List Nat × List Nat) := (true, [([], []), ([0], [0]), ([], []), ([2], [2]), ([3], [3]), ([], []), ([5], [5]), ([6, 4], [6]), ([], []), ([8], [8]), ([9, 7], [9]), ([1, 4, 7, 10], [1, 4, 7, 10]), ([11, 10, 0, 1, 2, 3, 4, 5, 6, 7, 8, 9, 10, 11], [11]), ([12, 0, 1, 2, 3, 4, 5, 6, 7, 8, 9, 10, 11, 12], [])])
def impl_classOf.B5 : List Nat := [0, 1, 0, 4, 12, 0, 32, 124, 0, 256, 1020, 2047, 4095, 8191]
theorem impl_classOf.tab5 : rtab .any (opsOf Tryd.f73 5) = impl_classOf.T5 := by kernel_rfl
theorem impl_classOf.bits5 : waitsOk impl_classOf.T5.2 impl_classOf.B5 = true := by kernel_rfl
set_option maxHeartbeats 8000000 in
set_option maxRecDepth 100000 in
theorem impl_classOf.calls (A0 : Option Addr) (c0 : Nat) (l0 : List (S62)) (a1 : ByteArray) (r1 : ByteArray) (r2 : List ByteArray) (r3 : List ByteArray) (r4 : List ByteArray) (r5 : Bool) (w : World) (hr0 : Kd.C k62 w A0 l0.length l0) (hc0 : l0.length ≤ c0) (h : impl_classOf.f l0 a1 = some (r1, r2, r3, r4, r5)) :
  Calls Tryd.prog 73 #[.slice A0 l0.length c0, .string a1] w fun e w' => ∃ v1_ v2_ v3_ : Value, e = .returned (.tuple #[.agg #[.string r1, v1_, v2_, v3_], .bool r5]) ∧ Kd.R Kd.string 9 w' w.heap.size (fun k_ => some k_ ≠ (v2_ : Value).ownBlock ∧ some k_ ≠ (v3_ : Value).ownBlock) v1_ r2 ∧ Kd.R Kd.string 9 w' w.heap.size (fun k_ => some k_ ≠ (v1_ : Value).ownBlock ∧ some k_ ≠ (v3_ : Value).ownBlock) v2_ r3 ∧ Kd.R Kd.string 9 w' w.heap.size (fun k_ => some k_ ≠ (v1_ : Value).ownBlock ∧ some k_ ≠ (v2_ : Value).ownBlock) v3_ r4 ∧ Below w.heap.size w w' := by
 have hu := Tryd.underlying62
 have HR0 := Aside0.mk hr0
 clear hr0 hc0
 have HB := Aside0.mk (Below.refl w.heap.size w)
 unfold impl_classOf.f at h
 have hlt := impl_classOf.ix_lt a1 l0 0 (by omega)
 obtain ⟨i, hi⟩ : ∃ i, impl_classOf.ix a1 l0 0 = i := ⟨_, rfl⟩
 rw [hi] at h hlt
 have HI := Aside0.mk hi
 clear hi
 by_cases ci : 0 ≤ i
 case neg =>
  rw [if_neg ci] at h
  simp only [Option.some.injEq, Prod.mk.injEq] at h
  obtain ⟨rfl, rfl, rfl, rfl, rfl⟩ := h
  have cib : decide (i < 0) = true := decide_eq_true (by omega)
  clear ci hlt
  go_enter Tryd.func73, Tryd.ntmps73
  go_wp2_with (first | ((with_reducible refine gate_dst (N := 3) rfl ?_); refine box_event ?hg (N := 3) ?hd (cs := #[.string a1]) (t := 9) ?hr ?_; (case hd => rfl); (case hg => rfl); (case hr => first | (go_simp; done) | (go_simp; rfl)); intro gx hg w1 hbox hb; have BKgx := Aside0.mk hbox; have GEgx := Aside0.mk (show w.heap.size ≤ gx by rw [hg]; exact below_size HB.out); have n0_ := Aside0.mk (below_step HB.out hb); clear HB; have HB := n0_; clear n0_ hb hbox hg) | ((with_reducible refine gate_dst (N := 4) rfl ?_); refine box_event ?hg (N := 4) ?hd (cs := #[.string (⟨#[]⟩ : ByteArray), .slice none 0 0, .slice none 0 0, .slice none 0 0]) (t := 62) ?hr ?_; (case hd => rfl); (case hg => rfl); (case hr => first | (go_simp; done) | (go_simp; rfl)); intro g4 hg w2 hbox hb; have BKg4 := Aside0.mk hbox; have GEg4 := Aside0.mk (show w.heap.size ≤ g4 by rw [hg]; exact below_size HB.out); have nkgx := Aside0.mk (blk_below (g := gx) (o := .cells #[.string a1] 9 (0, 0)) BKgx.out hb); clear BKgx; have BKgx := nkgx; clear nkgx; have n0_ := Aside0.mk (below_step HB.out hb); clear HB; have HB := n0_; clear n0_ hb hbox hg) | (go_at_call 104; (with_reducible refine (impl_classOf.index gx a1 _ c0 l0 _ ?sl ?s0).mono ?_); (case sl => exact (blk_cell BKgx.out 0).trans rfl); (case s0 => exact Kd.C_below HR0.out HB.out); rw [HI.out]; rintro e w3 ⟨rfl, hb⟩; clear BKgx; have nkg4 := Aside0.mk (blk_below (g := g4) (o := .cells #[.string (⟨#[]⟩ : ByteArray), .slice none 0 0, .slice none 0 0, .slice none 0 0] 62 (0, 0)) BKg4.out hb); clear BKg4; have BKg4 := nkg4; clear nkg4; have n0_ := Aside0.mk (below_step HB.out hb); clear HB; have HB := n0_; clear n0_; clear hb; have hq0w3 : w3.cell? ⟨g4, 0, none⟩ = some (.string (⟨#[]⟩ : ByteArray)) := (blk_cell BKg4.out 0).trans rfl; have hf0w3 := blk_frozen BKg4.out 0; have hq1w3 : w3.cell? ⟨g4, 1, none⟩ = some (.slice none 0 0) := (blk_cell BKg4.out 1).trans rfl; have hf1w3 := blk_frozen BKg4.out 1; have hq2w3 : w3.cell? ⟨g4, 2, none⟩ = some (.slice none 0 0) := (blk_cell BKg4.out 2).trans rfl; have hf2w3 := blk_frozen BKg4.out 2; have hq3w3 : w3.cell? ⟨g4, 3, none⟩ = some (.slice none 0 0) := (blk_cell BKg4.out 3).trans rfl; have hf3w3 := blk_frozen BKg4.out 3))
  refine bodyPost_ret (results_ct rfl _ _ g4 62 #[.string (⟨#[]⟩ : ByteArray), .slice none 0 0, .slice none 0 0, .slice none 0 0] (0, 0) _ rfl (by (with_reducible repeat (first | refine blk_drewN ?_ _ | refine blk_drew ?_ | refine blk_alloc ?_ _)); refine blk_put (cs := #[.string (⟨#[]⟩ : ByteArray), .slice none 0 0, .slice none 0 0, .slice none 0 0]) ?_ 3 _ rfl; refine blk_put (cs := #[.string (⟨#[]⟩ : ByteArray), .slice none 0 0, .slice none 0 0, .slice none 0 0]) ?_ 2 _ rfl; refine blk_put (cs := #[.string (⟨#[]⟩ : ByteArray), .slice none 0 0, .slice none 0 0, .slice none 0 0]) ?_ 1 _ rfl; refine blk_put (cs := #[.string (⟨#[]⟩ : ByteArray), .slice none 0 0, .slice none 0 0, .slice none 0 0]) ?_ 0 _ rfl; exact BKg4.out) Tryd.underlying62 rfl (by kernel_rfl)) rfl ?_
  exact ⟨_, _, _, rfl, Kd.R_nil _ _ _ _ _, Kd.R_nil _ _ _ _ _, Kd.R_nil _ _ _ _ _, by repeat (first | (with_reducible first | exact HB.out | refine below_set ?_ GEg4.out) | exact HB.out)⟩
 rw [if_pos ci] at h
 have qi : i < (l0.length : Int) := by omega
 have cib : decide (i < 0) = false := decide_eq_false (by omega)
 obtain ⟨x1, AX10, h⟩ := Option.bind_eq_some_iff.1 h
 obtain ⟨x2, AX20, h⟩ := Option.bind_eq_some_iff.1 h
 obtain ⟨x3, AX30, h⟩ := Option.bind_eq_some_iff.1 h
 have AX1 := Aside0.mk AX10
 have AX2 := Aside0.mk AX20
 have AX3 := Aside0.mk AX30
 clear AX10 AX20 AX30 hlt
 simp only [Option.some.injEq, Prod.mk.injEq] at h
 obtain ⟨rfl, rfl, rfl, rfl, rfl⟩ := h
 obtain ⟨ad, B1, b1, B2, b2, B3, b3, e1, hx0, hx1, hx2, hx3, m1, g1, m2, g2, m3, g3⟩ := at_T62 HR0.out i ci qi
 cases e1
 have cie := eq_true ci
 have qie := eq_true qi
 have X0 := Aside0.mk hx0
 have X1 := Aside0.mk hx1
 have X2 := Aside0.mk hx2
 have X3 := Aside0.mk hx3
 have G1 := Aside0.mk g1
 have G2 := Aside0.mk g2
 have G3 := Aside0.mk g3
 have M1 := Aside0.mk m1
 have M2 := Aside0.mk m2
 have M3 := Aside0.mk m3
 obtain ⟨y, hy⟩ : ∃ y, rd_T62 l0 i = y := ⟨_, rfl⟩
 rw [hy] at X0 X1 X2 X3 G1 G2 G3 M1 M2 M3 AX1 AX2 AX3 ⊢
 clear hx0 hx1 hx2 hx3 g1 g2 g3 m1 m2 m3 ci qi hy
 go_enter Tryd.func73, Tryd.ntmps73
 go_upto_region 5 with (first | ((with_reducible refine gate_dst (N := 3) rfl ?_); refine box_event ?hg (N := 3) ?hd (cs := #[.string a1]) (t := 9) ?hr ?_; (case hd => rfl); (case hg => rfl); (case hr => first | (go_simp; done) | (go_simp; rfl)); intro gx hg w1 hbox hb; have BKgx := Aside0.mk hbox; have GEgx := Aside0.mk (show w.heap.size ≤ gx by rw [hg]; exact below_size HB.out); have n0_ := Aside0.mk (below_step HB.out hb); clear HB; have HB := n0_; clear n0_ hb hbox hg) | ((with_reducible refine gate_dst (N := 4) rfl ?_); refine box_event ?hg (N := 4) ?hd (cs := #[.string (⟨#[]⟩ : ByteArray), .slice none 0 0, .slice none 0 0, .slice none 0 0]) (t := 62) ?hr ?_; (case hd => rfl); (case hg => rfl); (case hr => first | (go_simp; done) | (go_simp; rfl)); intro g4 hg w2 hbox hb; have BKg4 := Aside0.mk hbox; have GEg4 := Aside0.mk (show w.heap.size ≤ g4 by rw [hg]; exact below_size HB.out); have nkgx := Aside0.mk (blk_below (g := gx) (o := .cells #[.string a1] 9 (0, 0)) BKgx.out hb); clear BKgx; have BKgx := nkgx; clear nkgx; have n0_ := Aside0.mk (below_step HB.out hb); clear HB; have HB := n0_; clear n0_ hb hbox hg) | (go_at_call 104; (with_reducible refine (impl_classOf.index gx a1 _ c0 l0 _ ?sl ?s0).mono ?_); (case sl => exact (blk_cell BKgx.out 0).trans rfl); (case s0 => exact Kd.C_below HR0.out HB.out); rw [HI.out]; rintro e w3 ⟨rfl, hb⟩; clear BKgx; have nkg4 := Aside0.mk (blk_below (g := g4) (o := .cells #[.string (⟨#[]⟩ : ByteArray), .slice none 0 0, .slice none 0 0, .slice none 0 0] 62 (0, 0)) BKg4.out hb); clear BKg4; have BKg4 := nkg4; clear nkg4; have n0_ := Aside0.mk (below_step HB.out hb); clear HB; have HB := n0_; clear n0_; clear hb; have hz0 := (HB.out.cell (World.block_lt_of_cell? w _ X0.out)).trans X0.out; have hz1 := (HB.out.cell (World.block_lt_of_cell? w _ X1.out)).trans X1.out; have hz2 := (HB.out.cell (World.block_lt_of_cell? w _ X2.out)).trans X2.out; have hz3 := (HB.out.cell (World.block_lt_of_cell? w _ X3.out)).trans X3.out) | ((with_reducible refine gate_dst (N := 7) rfl ?_); refine box_event ?hg (N := 7) ?hd (cs := #[.string (⟨#[]⟩ : ByteArray), .slice none 0 0, .slice none 0 0, .slice none 0 0]) (t := 62) ?hr ?_; (case hd => rfl); (case hg => rfl); (case hr => first | (go_simp; done) | (go_simp; rfl)); intro g7 hg w4 hbox hb; have BKg7 := Aside0.mk hbox; have GEg7 := Aside0.mk (show w.heap.size ≤ g7 by rw [hg]; exact below_size HB.out); have NE := Aside0.mk (show g4 ≠ g7 by rw [hg]; exact Nat.ne_of_lt (blk_lt BKg4.out)); have nkg4 := Aside0.mk (blk_below (g := g4) (o := .cells #[.string (⟨#[]⟩ : ByteArray), .slice none 0 0, .slice none 0 0, .slice none 0 0] 62 (0, 0)) BKg4.out hb); clear BKg4; have BKg4 := nkg4; clear nkg4; have n0_ := Aside0.mk (below_step HB.out hb); clear HB; have HB := n0_; clear n0_ hb hbox hg; have hq0w4 : w4.cell? ⟨g7, 0, none⟩ = some (.string (⟨#[]⟩ : ByteArray)) := (blk_cell BKg7.out 0).trans rfl; have hf0w4 := blk_frozen BKg7.out 0; have hq1w4 : w4.cell? ⟨g7, 1, none⟩ = some (.slice none 0 0) := (blk_cell BKg7.out 1).trans rfl; have hf1w4 := blk_frozen BKg7.out 1; have hq2w4 : w4.cell? ⟨g7, 2, none⟩ = some (.slice none 0 0) := (blk_cell BKg7.out 2).trans rfl; have hf2w4 := blk_frozen BKg7.out 2; have hq3w4 : w4.cell? ⟨g7, 3, none⟩ = some (.slice none 0 0) := (blk_cell BKg7.out 3).trans rfl; have hf3w4 := blk_frozen BKg7.out 3))
 have n0_ : Aside0 (Below w.heap.size w (World.setCell (World.setCell (World.setCell (World.setCell w4 ⟨g7, 0, none⟩ (.string y.f0)) ⟨g7, 1, none⟩ (.slice B1 y.f1.length b1)) ⟨g7, 2, none⟩ (.slice B2 y.f2.length b2)) ⟨g7, 3, none⟩ (.slice B3 y.f3.length b3))) := ⟨by repeat (first | (with_reducible first | exact HB.out | refine below_set ?_ GEg7.out) | exact HB.out)⟩
 have n1_ : Aside0 ((World.heap (World.setCell (World.setCell (World.setCell (World.setCell w4 ⟨g7, 0, none⟩ (.string y.f0)) ⟨g7, 1, none⟩ (.slice B1 y.f1.length b1)) ⟨g7, 2, none⟩ (.slice B2 y.f2.length b2)) ⟨g7, 3, none⟩ (.slice B3 y.f3.length b3)))[g4]? = some (.cells #[.string (⟨#[]⟩ : ByteArray), .slice none 0 0, .slice none 0 0, .slice none 0 0] 62 (0, 0))) := ⟨by refine blk_far ?_ NE.out _; refine blk_far ?_ NE.out _; refine blk_far ?_ NE.out _; refine blk_far ?_ NE.out _; exact BKg4.out⟩
 have n2_ : Aside0 ((World.heap (World.setCell (World.setCell (World.setCell (World.setCell w4 ⟨g7, 0, none⟩ (.string y.f0)) ⟨g7, 1, none⟩ (.slice B1 y.f1.length b1)) ⟨g7, 2, none⟩ (.slice B2 y.f2.length b2)) ⟨g7, 3, none⟩ (.slice B3 y.f3.length b3)))[g7]? = some (.cells #[.string y.f0, .slice B1 y.f1.length b1, .slice B2 y.f2.length b2, .slice B3 y.f3.length b3] 62 (0, 0))) := ⟨by refine blk_put (cs := #[.string y.f0, .slice B1 y.f1.length b1, .slice B2 y.f2.length b2, .slice none 0 0]) ?_ 3 _ rfl; refine blk_put (cs := #[.string y.f0, .slice B1 y.f1.length b1, .slice none 0 0, .slice none 0 0]) ?_ 2 _ rfl; refine blk_put (cs := #[.string y.f0, .slice none 0 0, .slice none 0 0, .slice none 0 0]) ?_ 1 _ rfl; refine blk_put (cs := #[.string (⟨#[]⟩ : ByteArray), .slice none 0 0, .slice none 0 0, .slice none 0 0]) ?_ 0 _ rfl; exact BKg7.out⟩
 clear HB BKg4 BKg7
 have HB := n0_
 have BKg4 := n1_
 have BKg7 := n2_
 clear n0_ n1_ n2_
 generalize World.setCell (World.setCell (World.setCell (World.setCell w4 _ _) _ _) _ _) _ _ = w5 at HB BKg4 BKg7 ⊢
 have n0_ := Aside0.mk (below_drew1 HB.out)
 have n1_ := Aside0.mk (blk_drew BKg4.out)
 have n2_ := Aside0.mk (blk_drew BKg7.out)
 clear HB BKg4 BKg7
 have HB := n0_
 have BKg4 := n1_
 have BKg7 := n2_
 clear n0_ n1_ n2_
 refine start_ (n := 14) (S := fun w' => w'.cell? ⟨g7, 0, none⟩ = some (.string y.f0) ∧ w'.cell? ⟨g7, 1, none⟩ = some (.slice B1 y.f1.length b1) ∧ w'.cell? ⟨g7, 2, none⟩ = some (.slice B2 y.f2.length b2) ∧ w'.cell? ⟨g7, 3, none⟩ = some (.slice B3 y.f3.length b3)) (ds := [12]) #[false, false, false, false, false, false, false, false, false, false, false, false, false, false] (by kernel_rfl) rfl rfl ⟨(blk_cell BKg7.out 0).trans rfl, (blk_cell BKg7.out 1).trans rfl, (blk_cell BKg7.out 2).trans rfl, (blk_cell BKg7.out 3).trans rfl⟩ (fun hHeld => ?_)
 refine with_tabW impl_classOf.tab5 impl_classOf.bits5 (fun HT_ HW_ => ?_)
 generalize World.drew _ = u0 at HB BKg4 BKg7 hHeld ⊢
 refine pure_ (i := 0) (N := some 18) (v := ?_) (a' := ?_) #[true, false, false, false, false, false, false, false, false, false, false, false, false, false] rfl rfl (any_of HT_.out (by kernel_rfl)) (fun _ _ _ h => h) (Or.inl ⟨by rfl, ?_⟩) ?_ ?_
 rotate_left
 ·intro w'
  go_simp
  with_reducible rfl
 rotate_left
 ·simp only [Act.put, List.setIfInBounds_toArray, List.set_cons_zero, List.set_cons_succ, i64_w, i32_w]
  rfl
 refine pure_ (i := 2) (N := some 20) (v := ?_) (a' := ?_) #[true, false, true, false, false, false, false, false, false, false, false, false, false, false] rfl rfl (any_of HT_.out (by kernel_rfl)) (fun _ _ _ h => h) (Or.inl ⟨by rfl, ?_⟩) ?_ ?_
 rotate_left
 ·intro w'
  go_simp
  with_reducible rfl
 rotate_left
 ·simp only [Act.put, List.setIfInBounds_toArray, List.set_cons_zero, List.set_cons_succ, i64_w, i32_w]
  rfl
 refine pure_ (i := 5) (N := some 23) (v := ?_) (a' := ?_) #[true, false, true, false, false, true, false, false, false, false, false, false, false, false] rfl rfl (any_of HT_.out (by kernel_rfl)) (fun _ _ _ h => h) (Or.inl ⟨by rfl, ?_⟩) ?_ ?_
 rotate_left
 ·intro w'
  go_simp
  with_reducible rfl
 rotate_left
 ·simp only [Act.put, List.setIfInBounds_toArray, List.set_cons_zero, List.set_cons_succ, i64_w, i32_w]
  rfl
 refine pure_ (i := 8) (N := some 26) (v := ?_) (a' := ?_) #[true, false, true, false, false, true, false, false, true, false, false, false, false, false] rfl rfl (any_of HT_.out (by kernel_rfl)) (fun _ _ _ h => h) (Or.inl ⟨by rfl, ?_⟩) ?_ ?_
 rotate_left
 ·intro w'
  go_simp
  with_reducible rfl
 rotate_left
 ·simp only [Act.put, List.setIfInBounds_toArray, List.set_cons_zero, List.set_cons_succ, i64_w, i32_w]
  rfl
 refine take_ (i := 1) (N := some 19) (v := ?_) (a' := ?_) #[true, true, true, false, false, true, false, false, true, false, false, false, false, false] rfl rfl (take_ofW HT_.out HW_.out (by kernel_rfl)) (fun _ _ _ h => h) (Or.inl ⟨by rfl, ?_⟩) hHeld ?_ ?_
 rotate_left
 ·rintro w' ⟨s0, s1, s2, s3⟩
  go_simp
  with_reducible rfl
 rotate_left
 ·simp only [Act.put, List.setIfInBounds_toArray, List.set_cons_zero, List.set_cons_succ, i64_w, i32_w]
  rfl
 refine take_ (i := 3) (N := some 21) (v := ?_) (a' := ?_) #[true, true, true, true, false, true, false, false, true, false, false, false, false, false] rfl rfl (take_ofW HT_.out HW_.out (by kernel_rfl)) (fun _ _ _ h => h) (Or.inl ⟨by rfl, ?_⟩) hHeld ?_ ?_
 rotate_left
 ·rintro w' ⟨s0, s1, s2, s3⟩
  go_simp
  with_reducible rfl
 rotate_left
 ·simp only [Act.put, List.setIfInBounds_toArray, List.set_cons_zero, List.set_cons_succ, i64_w, i32_w]
  rfl
 refine take_ (i := 6) (N := some 24) (v := ?_) (a' := ?_) #[true, true, true, true, false, true, true, false, true, false, false, false, false, false] rfl rfl (take_ofW HT_.out HW_.out (by kernel_rfl)) (fun _ _ _ h => h) (Or.inl ⟨by rfl, ?_⟩) hHeld ?_ ?_
 rotate_left
 ·rintro w' ⟨s0, s1, s2, s3⟩
  go_simp
  with_reducible rfl
 rotate_left
 ·simp only [Act.put, List.setIfInBounds_toArray, List.set_cons_zero, List.set_cons_succ, i64_w, i32_w]
  rfl
 refine take_ (i := 9) (N := some 27) (v := ?_) (a' := ?_) #[true, true, true, true, false, true, true, false, true, true, false, false, false, false] rfl rfl (take_ofW HT_.out HW_.out (by kernel_rfl)) (fun _ _ _ h => h) (Or.inl ⟨by rfl, ?_⟩) hHeld ?_ ?_
 rotate_left
 ·rintro w' ⟨s0, s1, s2, s3⟩
  go_simp
  with_reducible rfl
 rotate_left
 ·simp only [Act.put, List.setIfInBounds_toArray, List.set_cons_zero, List.set_cons_succ, i64_w, i32_w]
  rfl
 refine one_ (i := 4) (N := some 22) #[true, true, true, true, true, true, true, false, true, true, false, false, false, false] rfl rfl (one_of HT_.out (by kernel_rfl)) (by decide) (fun K hK => ?_)
 refine goes_ Tryd.func77 (by kernel_rfl) rfl #[.slice B1 y.f1.length b1] (by rfl) rfl rfl (by simp only [List.map_toArray, List.map_cons, List.map_nil]; rfl) ?_
 with_reducible refine (slices_Clone_string_string.calls _ _ y.f1 x1 _ (Kd.C_below G1.out HB.out) M1.out AX1.out).mono ?_
 rintro e u1 ⟨v1, rfl, ho, hb⟩
 refine ⟨_, rfl, ?_⟩
 have LO1 := Aside0.mk hb.size
 have nr1 := Aside0.mk (Kd.R_mono (ok' := fun k => u0.heap.size ≤ k ∧ k < u1.heap.size) (Kd.R_lower (Kd.R_bound ho) (below_size HB.out)) (fun b hk => ⟨hk.2.1, hk.2.2.1⟩))
 have nkg4 := Aside0.mk (blk_below (g := g4) (o := .cells #[.string (⟨#[]⟩ : ByteArray), .slice none 0 0, .slice none 0 0, .slice none 0 0] 62 (0, 0)) BKg4.out hb)
 clear BKg4
 have BKg4 := nkg4
 clear nkg4
 have nkg7 := Aside0.mk (blk_below (g := g7) (o := .cells #[.string y.f0, .slice B1 y.f1.length b1, .slice B2 y.f2.length b2, .slice B3 y.f3.length b3] 62 (0, 0)) BKg7.out hb)
 clear BKg7
 have BKg7 := nkg7
 clear nkg7
 have n0_ := Aside0.mk (below_step HB.out hb)
 clear HB
 have HB := n0_
 clear n0_
 clear hb ho
 have O1 := nr1
 clear nr1
 obtain ⟨Av1, cv1, ev1⟩ := Kd.R_slice O1.out
 subst ev1
 refine hK.out _ _ ⟨(blk_cell BKg7.out 0).trans rfl, (blk_cell BKg7.out 1).trans rfl, (blk_cell BKg7.out 2).trans rfl, (blk_cell BKg7.out 3).trans rfl⟩ (fun hHeld => ?_)
 clear hK K
 refine norm_ (a' := ?_) ?_ ?_
 rotate_left
 ·show Act.put _ (some 22) _ = _
  simp only [Act.put, List.setIfInBounds_toArray, List.set_cons_zero, List.set_cons_succ, i64_w, i32_w]
  rfl
 refine one_ (i := 7) (N := some 25) #[true, true, true, true, true, true, true, true, true, true, false, false, false, false] rfl rfl (one_of HT_.out (by kernel_rfl)) (by decide) (fun K hK => ?_)
 refine goes_ Tryd.func77 (by kernel_rfl) rfl #[.slice B2 y.f2.length b2] (by rfl) rfl rfl (by simp only [List.map_toArray, List.map_cons, List.map_nil]; rfl) ?_
 with_reducible refine (slices_Clone_string_string.calls _ _ y.f2 x2 _ (Kd.C_below G2.out HB.out) M2.out AX2.out).mono ?_
 rintro e u2 ⟨v2, rfl, ho, hb⟩
 refine ⟨_, rfl, ?_⟩
 have LO2 := Aside0.mk hb.size
 have nr2 := Aside0.mk (Kd.R_mono (ok' := fun k => u1.heap.size ≤ k ∧ k < u2.heap.size) (Kd.R_lower (Kd.R_bound ho) (below_size HB.out)) (fun b hk => ⟨hk.2.1, hk.2.2.1⟩))
 have nr1 := Aside0.mk (Kd.R_below O1.out hb)
 clear O1
 have nkg4 := Aside0.mk (blk_below (g := g4) (o := .cells #[.string (⟨#[]⟩ : ByteArray), .slice none 0 0, .slice none 0 0, .slice none 0 0] 62 (0, 0)) BKg4.out hb)
 clear BKg4
 have BKg4 := nkg4
 clear nkg4
 have nkg7 := Aside0.mk (blk_below (g := g7) (o := .cells #[.string y.f0, .slice B1 y.f1.length b1, .slice B2 y.f2.length b2, .slice B3 y.f3.length b3] 62 (0, 0)) BKg7.out hb)
 clear BKg7
 have BKg7 := nkg7
 clear nkg7
 have n0_ := Aside0.mk (below_step HB.out hb)
 clear HB
 have HB := n0_
 clear n0_
 clear hb ho
 have O1 := nr1
 clear nr1
 have O2 := nr2
 clear nr2
 obtain ⟨Av2, cv2, ev2⟩ := Kd.R_slice O2.out
 subst ev2
 refine hK.out _ _ ⟨(blk_cell BKg7.out 0).trans rfl, (blk_cell BKg7.out 1).trans rfl, (blk_cell BKg7.out 2).trans rfl, (blk_cell BKg7.out 3).trans rfl⟩ (fun hHeld => ?_)
 clear hK K
 refine norm_ (a' := ?_) ?_ ?_
 rotate_left
 ·show Act.put _ (some 25) _ = _
  simp only [Act.put, List.setIfInBounds_toArray, List.set_cons_zero, List.set_cons_succ, i64_w, i32_w]
  rfl
 refine one_ (i := 10) (N := some 28) #[true, true, true, true, true, true, true, true, true, true, true, false, false, false] rfl rfl (one_of HT_.out (by kernel_rfl)) (by decide) (fun K hK => ?_)
 refine goes_ Tryd.func77 (by kernel_rfl) rfl #[.slice B3 y.f3.length b3] (by rfl) rfl rfl (by simp only [List.map_toArray, List.map_cons, List.map_nil]; rfl) ?_
 with_reducible refine (slices_Clone_string_string.calls _ _ y.f3 x3 _ (Kd.C_below G3.out HB.out) M3.out AX3.out).mono ?_
 rintro e u3 ⟨v3, rfl, ho, hb⟩
 refine ⟨_, rfl, ?_⟩
 have LO3 := Aside0.mk hb.size
 have nr3 := Aside0.mk (Kd.R_mono (ok' := fun k => u2.heap.size ≤ k ∧ k < u3.heap.size) (Kd.R_lower (Kd.R_bound ho) (below_size HB.out)) (fun b hk => ⟨hk.2.1, hk.2.2.1⟩))
 have nr1 := Aside0.mk (Kd.R_below O1.out hb)
 clear O1
 have nr2 := Aside0.mk (Kd.R_below O2.out hb)
 clear O2
 have nkg4 := Aside0.mk (blk_below (g := g4) (o := .cells #[.string (⟨#[]⟩ : ByteArray), .slice none 0 0, .slice none 0 0, .slice none 0 0] 62 (0, 0)) BKg4.out hb)
 clear BKg4
 have BKg4 := nkg4
 clear nkg4
 have nkg7 := Aside0.mk (blk_below (g := g7) (o := .cells #[.string y.f0, .slice B1 y.f1.length b1, .slice B2 y.f2.length b2, .slice B3 y.f3.length b3] 62 (0, 0)) BKg7.out hb)
 clear BKg7
 have BKg7 := nkg7
 clear nkg7
 have n0_ := Aside0.mk (below_step HB.out hb)
 clear HB
 have HB := n0_
 clear n0_
 clear hb ho
 have O1 := nr1
 clear nr1
 have O2 := nr2
 clear nr2
 have O3 := nr3
 clear nr3
 obtain ⟨Av3, cv3, ev3⟩ := Kd.R_slice O3.out
 subst ev3
 refine hK.out _ _ ⟨(blk_cell BKg7.out 0).trans rfl, (blk_cell BKg7.out 1).trans rfl, (blk_cell BKg7.out 2).trans rfl, (blk_cell BKg7.out 3).trans rfl⟩ (fun hHeld => ?_)
 clear hK K
 refine norm_ (a' := ?_) ?_ ?_
 rotate_left
 ·show Act.put _ (some 28) _ = _
  simp only [Act.put, List.setIfInBounds_toArray, List.set_cons_zero, List.set_cons_succ, i64_w, i32_w]
  rfl
 refine pure_ (i := 11) (N := some 29) (v := ?_) (a' := ?_) #[true, true, true, true, true, true, true, true, true, true, true, true, false, false] rfl rfl (any_of HT_.out (by kernel_rfl)) (fun _ _ _ h => h) (Or.inl ⟨by rfl, ?_⟩) ?_ ?_
 rotate_left
 ·intro w'
  go_simp
  with_reducible rfl
 rotate_left
 ·simp only [Act.put, List.setIfInBounds_toArray, List.set_cons_zero, List.set_cons_succ, i64_w, i32_w]
  rfl
 refine last_ (i := 12) (N := none) #[true, true, true, true, true, true, true, true, true, true, true, true, true, false] rfl rfl (one_of HT_.out (by kernel_rfl)) (by decide) (fun K hK => ?_)
 have hq0u3 : u3.cell? ⟨g4, 0, none⟩ = some (.string (⟨#[]⟩ : ByteArray)) := (blk_cell BKg4.out 0).trans rfl
 have hf0u3 := blk_frozen BKg4.out 0
 have hq1u3 : u3.cell? ⟨g4, 1, none⟩ = some (.slice none 0 0) := (blk_cell BKg4.out 1).trans rfl
 have hf1u3 := blk_frozen BKg4.out 1
 have hq2u3 : u3.cell? ⟨g4, 2, none⟩ = some (.slice none 0 0) := (blk_cell BKg4.out 2).trans rfl
 have hf2u3 := blk_frozen BKg4.out 2
 have hq3u3 : u3.cell? ⟨g4, 3, none⟩ = some (.slice none 0 0) := (blk_cell BKg4.out 3).trans rfl
 have hf3u3 := blk_frozen BKg4.out 3
 refine skip_ (w1 := ?_) (by rfl) rfl ?_ ?_
 rotate_left
 ·go_simp
  rfl
 refine hK.out _ _ ?_
 clear hK K
 refine pure_ (i := 13) (N := some 5) (v := ?_) (a' := ?_) #[true, true, true, true, true, true, true, true, true, true, true, true, true, true] rfl rfl (any_of HT_.out (by kernel_rfl)) (fun _ _ _ h => h) (Or.inl ⟨by rfl, ?_⟩) ?_ ?_
 rotate_left
 ·intro w'
  go_simp
  with_reducible rfl
 rotate_left
 ·simp only [Act.put, List.setIfInBounds_toArray, List.set_cons_zero, List.set_cons_succ, i64_w, i32_w]
  rfl
 refine done_ (done_of HT_.out (by kernel_rfl)) ?_
 go_wp2
 refine bodyPost_ret (results_ct rfl _ _ g4 62 #[.string y.f0, .slice Av1 x1.length cv1, .slice Av2 x2.length cv2, .slice Av3 x3.length cv3] (0, 0) _ rfl (by (with_reducible repeat (first | refine blk_drewN ?_ _ | refine blk_drew ?_ | refine blk_alloc ?_ _)); refine blk_put (cs := #[.string y.f0, .slice Av1 x1.length cv1, .slice Av2 x2.length cv2, .slice none 0 0]) ?_ 3 _ rfl; refine blk_put (cs := #[.string y.f0, .slice Av1 x1.length cv1, .slice none 0 0, .slice none 0 0]) ?_ 2 _ rfl; refine blk_put (cs := #[.string y.f0, .slice none 0 0, .slice none 0 0, .slice none 0 0]) ?_ 1 _ rfl; refine blk_put (cs := #[.string (⟨#[]⟩ : ByteArray), .slice none 0 0, .slice none 0 0, .slice none 0 0]) ?_ 0 _ rfl; exact BKg4.out) Tryd.underlying62 rfl (by kernel_rfl)) rfl ?_
 have b1_ := O1.out.1
 have b2_ := O2.out.1
 have b3_ := O3.out.1
 have l2_ := LO2.out
 have l3_ := LO3.out
 exact ⟨_, _, _, rfl, Kd.R_mono (Kd.R_far (p := ⟨g4, 3, none⟩) (Kd.R_far (p := ⟨g4, 2, none⟩) (Kd.R_far (p := ⟨g4, 1, none⟩) (Kd.R_far (p := ⟨g4, 0, none⟩) (Kd.R_types O1.out BKg4.out (by decide)) (fun _ hk => hk.2) (.string y.f0)) (fun _ hk => hk.2) (.slice Av1 x1.length cv1)) (fun _ hk => hk.2) (.slice Av2 x2.length cv2)) (fun _ hk => hk.2) (.slice Av3 x3.length cv3)) (fun k hk => ⟨fun e => by have := b2_ k e.symm; have := hk.1; omega, fun e => by have := b3_ k e.symm; have := hk.1; omega⟩), Kd.R_mono (Kd.R_far (p := ⟨g4, 3, none⟩) (Kd.R_far (p := ⟨g4, 2, none⟩) (Kd.R_far (p := ⟨g4, 1, none⟩) (Kd.R_far (p := ⟨g4, 0, none⟩) (Kd.R_types O2.out BKg4.out (by decide)) (fun _ hk => hk.2) (.string y.f0)) (fun _ hk => hk.2) (.slice Av1 x1.length cv1)) (fun _ hk => hk.2) (.slice Av2 x2.length cv2)) (fun _ hk => hk.2) (.slice Av3 x3.length cv3)) (fun k hk => ⟨fun e => by have := b1_ k e.symm; have := hk.1; omega, fun e => by have := b3_ k e.symm; have := hk.1; omega⟩), Kd.R_mono (Kd.R_far (p := ⟨g4, 3, none⟩) (Kd.R_far (p := ⟨g4, 2, none⟩) (Kd.R_far (p := ⟨g4, 1, none⟩) (Kd.R_far (p := ⟨g4, 0, none⟩) (Kd.R_types O3.out BKg4.out (by decide)) (fun _ hk => hk.2) (.string y.f0)) (fun _ hk => hk.2) (.slice Av1 x1.length cv1)) (fun _ hk => hk.2) (.slice Av2 x2.length cv2)) (fun _ hk => hk.2) (.slice Av3 x3.length cv3)) (fun k hk => ⟨fun e => by have := b1_ k e.symm; have := hk.1; omega, fun e => by have := b2_ k e.symm; have := hk.1; omega⟩), by repeat (first | (with_reducible first | exact HB.out | refine below_set ?_ GEg4.out) | exact HB.out)⟩
def impl_ClassOf.f (k : Nat) (l0 : List (S62)) (a1 : ByteArray) : Option (ByteArray × List ByteArray × List ByteArray × List ByteArray) := (impl_isLong.f k (([a1] : List ByteArray))).bind fun t218 => (if t218 = true then (some ((⟨#[]⟩ : ByteArray), ([] : List ByteArray), ([] : List ByteArray), ([] : List ByteArray))) else ((impl_SchemaRight.f k l0).bind fun t219 => (if t219 = true then ((impl_classOf.f l0 a1).bind fun bt220 => (some (bt220.1, bt220.2.1, bt220.2.2.1, bt220.2.2.2.1))) else (some ((⟨#[]⟩ : ByteArray), ([] : List ByteArray), ([] : List ByteArray), ([] : List ByteArray))))))
theorem impl_ClassOf.mono : ∀ a0 a1 k, LeO (impl_ClassOf.f k a0 a1) (impl_ClassOf.f (k + 1) a0 a1) := by
 intro a0 a1 k
 unfold impl_ClassOf.f
 repeat' first
   | (with_reducible exact impl_SchemaRight.mono _ _)
   | (with_reducible exact impl_isLong.mono _ _)
   | (with_reducible exact LeO.refl _)
   | (with_reducible exact LeO.none _)
   | (with_reducible refine LeO.ite ?_ ?_)
   | (with_reducible refine LeO.bind ?_ (fun _ => ?_))
   | exact impl_SchemaRight.mono _ _
   | exact impl_isLong.mono _ _
   | exact LeO.none _
   | refine LeO.ite ?_ ?_
   | refine LeO.bind ?_ (fun _ => ?_)
set_option maxHeartbeats 8000000 in
set_option maxRecDepth 100000 in
theorem impl_ClassOf.calls (k : Nat) (A0 : Option Addr) (c0 : Nat) (l0 : List (S62)) (a1 : ByteArray) (r1 : ByteArray) (r2 : List ByteArray) (r3 : List ByteArray) (r4 : List ByteArray) (w : World) (hr0 : Kd.C k62 w A0 l0.length l0) (hc0 : l0.length ≤ c0) (h : impl_ClassOf.f k l0 a1 = some (r1, r2, r3, r4)) :
  Calls Tryd.prog 37 #[.slice A0 l0.length c0, .string a1] w fun e w' => ∃ v1_ v2_ v3_ : Value, e = .returned (.agg #[.string r1, v1_, v2_, v3_]) ∧ Kd.R Kd.string 9 w' w.heap.size (fun k_ => some k_ ≠ (v2_ : Value).ownBlock ∧ some k_ ≠ (v3_ : Value).ownBlock) v1_ r2 ∧ Kd.R Kd.string 9 w' w.heap.size (fun k_ => some k_ ≠ (v1_ : Value).ownBlock ∧ some k_ ≠ (v3_ : Value).ownBlock) v2_ r3 ∧ Kd.R Kd.string 9 w' w.heap.size (fun k_ => some k_ ≠ (v1_ : Value).ownBlock ∧ some k_ ≠ (v2_ : Value).ownBlock) v3_ r4 ∧ Below w.heap.size w w' := by
 have hu62 := Tryd.underlying62
 have HR0 := Aside0.mk hr0
 have HC0 := Aside0.mk hc0
 clear hr0 hc0
 have HB := Aside0.mk (Below.refl w.heap.size w)
 have H : ((impl_isLong.f k (([a1] : List ByteArray))).bind fun t218 => (if t218 = true then (some ((⟨#[]⟩ : ByteArray), ([] : List ByteArray), ([] : List ByteArray), ([] : List ByteArray))) else ((impl_SchemaRight.f k l0).bind fun t219 => (if t219 = true then ((impl_classOf.f l0 a1).bind fun bt220 => (some (bt220.1, bt220.2.1, bt220.2.2.1, bt220.2.2.2.1))) else (some ((⟨#[]⟩ : ByteArray), ([] : List ByteArray), ([] : List ByteArray), ([] : List ByteArray))))))) = some (r1, r2, r3, r4) := h
 clear h
 obtain ⟨y215, hy215⟩ : ∃ y_ : List ByteArray, y_ = (([a1] : List ByteArray)) := ⟨_, rfl⟩
 replace H : ((impl_isLong.f k y215).bind fun t218 => (if t218 = true then (some ((⟨#[]⟩ : ByteArray), ([] : List ByteArray), ([] : List ByteArray), ([] : List ByteArray))) else ((impl_SchemaRight.f k l0).bind fun t219 => (if t219 = true then ((impl_classOf.f l0 a1).bind fun bt220 => (some (bt220.1, bt220.2.1, bt220.2.2.1, bt220.2.2.2.1))) else (some ((⟨#[]⟩ : ByteArray), ([] : List ByteArray), ([] : List ByteArray), ([] : List ByteArray))))))) = some (r1, r2, r3, r4) := by first | (rw [hy215]; with_reducible exact H) | (have H2_ := (Option.bind_some _ _).symm.trans H; rw [hy215]; with_reducible exact H2_) | (have H2_ := (Option.bind_some _ _).symm.trans H; with_reducible exact H2_) | with_reducible exact H | (rw [hy215]; exact H) | exact H
 have Ny215 := Aside0.mk hy215
 clear hy215
 replace H := Option.bind_eq_some_iff.mp H
 obtain ⟨t218, A30, H⟩ := H
 replace H : (if t218 = true then (some ((⟨#[]⟩ : ByteArray), ([] : List ByteArray), ([] : List ByteArray), ([] : List ByteArray))) else ((impl_SchemaRight.f k l0).bind fun t219 => (if t219 = true then ((impl_classOf.f l0 a1).bind fun bt220 => (some (bt220.1, bt220.2.1, bt220.2.2.1, bt220.2.2.2.1))) else (some ((⟨#[]⟩ : ByteArray), ([] : List ByteArray), ([] : List ByteArray), ([] : List ByteArray)))))) = some (r1, r2, r3, r4) := H
 have A3 := Aside0.mk A30
 clear A30
 by_cases c4 : t218 = true
 ·subst c4
  have H1 : (some ((⟨#[]⟩ : ByteArray), ([] : List ByteArray), ([] : List ByteArray), ([] : List ByteArray))) = some (r1, r2, r3, r4) := by rw [if_pos rfl] at H; exact H
  clear H
  have H := H1
  clear H1
  simp only [Option.some.injEq, Prod.mk.injEq] at H
  obtain ⟨rfl, rfl, rfl, rfl⟩ := H
  go_enter Tryd.func37, Tryd.ntmps37
  go_wp2_with (first | ((with_reducible refine gate_dst (N := 4) rfl ?_); refine box_event ?hg (N := 4) ?hd (cs := #[.string (⟨#[]⟩ : ByteArray), .slice none 0 0, .slice none 0 0, .slice none 0 0]) (t := 62) ?hr ?_; (case hd => rfl); (case hg => rfl); (case hr => first | (go_simp; done) | (go_simp; rfl)); intro gb214 hg w5 hbox hb; have n0_ := Aside0.mk (below_step HBa hb); have n1_ := Aside0.mk (hbox); have n2_ := Aside0.mk ((by rw [hg]; exact (below_size HBa) : w.heap.size ≤ gb214)); have n3_ := Aside0.mk ((by rw [hg]; exact (below_size HBa) : w.heap.size ≤ gb214)); clear HB; have HB := n0_; have BK214 := n1_; have GW214 := n2_; have GE214 := n3_; clear n0_ n1_ n2_ n3_; clear hb hbox hg) | ((with_reducible refine gate_dst (N := 8) rfl ?_); refine Kd.R_lit Kd.string _ 9 ?hg (N := 8) ?hd (xs := ([a1] : List ByteArray)) (inner := [.string a1]) (ok := fun _ => True) (okp := fun _ => True) ?hr ?hp (fun _ hk => hk) trivial (Below.refl _ _) (Nat.le_refl _) (by simp) ?_; (case hd => rfl); (case hg => rfl); (case hr => first | (go_simp; done) | (go_simp; rfl)); (case hp => exact (Reps.one (show Kd.M Kd.string _ _ _ a1 [.string a1] from rfl) (Reps.none _ _))); intro v216 w6 ho7 hb hg_ hnew_; clear hg_ hnew_; (first | rw [← Ny215.out] at ho7 | (simp only [Int.reduceToNat] at ho7; rw [← Ny215.out] at ho7)); have n0_ := Aside0.mk (Kd.R_lower ho7 (below_size (HBb GE214))); have n1_ := Aside0.mk (blk_below (g := gb214) (o := .cells #[.string (⟨#[]⟩ : ByteArray), .slice none 0 0, .slice none 0 0, .slice none 0 0] 62 (0, 0)) (BKz BK214) hb); have n2_ := Aside0.mk (below_step (HBb GE214) hb); clear BK214; clear HB; have HO217 := n0_; have BK214 := n1_; have HB := n2_; clear n0_ n1_ n2_; clear hb ho7; obtain ⟨Ao8, co8, eo8⟩ := Kd.R_slice HO217.out; subst eo8) | ((with_reducible refine gate_callee (f := 72) rfl ?_); refine goesL_ (some 9) rfl rfl Tryd.func72 (by kernel_rfl) rfl #[.slice Ao8 y215.length co8] rfl MPz ?_; (with_reducible refine (impl_isLong.calls k _ _ y215 true _ ?side1 ?side2 A3.out).mono ?_); (case side1 => repeat (first | exact (Kd.R_reads' HO217.out).2.2 | (with_reducible refine Kd.C_alloc ?_ _) | (with_reducible refine Kd.C_drewN ?_ _) | (with_reducible refine Kd.C_drew ?_))); (case side2 => exact (Kd.R_reads' HO217.out).2.1); rintro e w' ⟨rfl, ⟨nd, rfl⟩⟩; refine ⟨_, rfl, ?_⟩; (try (rw [drewN_self w6]; generalize hq_ : World.drewN w6 _ = w6; have n0_ : Aside0 (Kd.R Kd.string 9 w6 w.heap.size (fun _ => True) (.slice Ao8 y215.length co8) y215) := ⟨by rw [← hq_]; exact (by (with_reducible repeat (first | apply Kd.R_alloc | apply Kd.R_drewN | apply Kd.R_drew)); exact HO217.out)⟩; have n1_ : Aside0 (w6.heap[gb214]? = some (.cells #[.string (⟨#[]⟩ : ByteArray), .slice none 0 0, .slice none 0 0, .slice none 0 0] 62 (0, 0))) := ⟨by rw [← hq_]; exact (BKz BK214)⟩; have n2_ : Aside0 (Below w.heap.size w w6) := ⟨by rw [← hq_]; exact (HBb GE214)⟩; clear HO217 BK214 HB hq_; have HO217 := n0_; have BK214 := n1_; have HB := n2_; clear n0_ n1_ n2_)); have hcz9_0 : w6.cell? ⟨gb214, 0, none⟩ = some (.string (⟨#[]⟩ : ByteArray)) := (blk_cell BK214.out 0).trans rfl; have hcz9_1 : w6.cell? ⟨gb214, 1, none⟩ = some (.slice none 0 0) := (blk_cell BK214.out 1).trans rfl; have hcz9_2 : w6.cell? ⟨gb214, 2, none⟩ = some (.slice none 0 0) := (blk_cell BK214.out 2).trans rfl; have hcz9_3 : w6.cell? ⟨gb214, 3, none⟩ = some (.slice none 0 0) := (blk_cell BK214.out 3).trans rfl; have hfz9_0 := blk_frozen BK214.out 0; have hfz9_1 := blk_frozen BK214.out 1; have hfz9_2 := blk_frozen BK214.out 2; have hfz9_3 := blk_frozen BK214.out 3))
  refine bodyPost_ret (results_cell_row rfl _ _ gb214 62 #[.string (⟨#[]⟩ : ByteArray), .slice none 0 0, .slice none 0 0, .slice none 0 0] (0, 0) _ rfl (by (with_reducible repeat (first | refine blk_drewN ?_ _ | refine blk_drew ?_ | refine blk_alloc ?_ _)); refine blk_put (cs := #[.string (⟨#[]⟩ : ByteArray), .slice none 0 0, .slice none 0 0, .slice none 0 0]) ?_ 3 _ rfl; (with_reducible repeat (first | refine blk_drewN ?_ _ | refine blk_drew ?_ | refine blk_alloc ?_ _)); refine blk_put (cs := #[.string (⟨#[]⟩ : ByteArray), .slice none 0 0, .slice none 0 0, .slice none 0 0]) ?_ 2 _ rfl; (with_reducible repeat (first | refine blk_drewN ?_ _ | refine blk_drew ?_ | refine blk_alloc ?_ _)); refine blk_put (cs := #[.string (⟨#[]⟩ : ByteArray), .slice none 0 0, .slice none 0 0, .slice none 0 0]) ?_ 1 _ rfl; (with_reducible repeat (first | refine blk_drewN ?_ _ | refine blk_drew ?_ | refine blk_alloc ?_ _)); refine blk_put (cs := #[.string (⟨#[]⟩ : ByteArray), .slice none 0 0, .slice none 0 0, .slice none 0 0]) ?_ 0 _ rfl; (with_reducible repeat (first | refine blk_drewN ?_ _ | refine blk_drew ?_ | refine blk_alloc ?_ _)); exact BK214.out) Tryd.underlying62 rfl (by kernel_rfl)) rfl ?_
  exact ⟨_, _, _, EZa, by first | exact Kd.R_nil _ _ _ _ _ | exact Kd.N_nil _ _ _ _ _ | exact Kd.V_nil _ _ _ _ _ | exact Kd.Q_nil _ _ _ _ _ | exact Kd.S_nil _ _ _ _ _, by first | exact Kd.R_nil _ _ _ _ _ | exact Kd.N_nil _ _ _ _ _ | exact Kd.V_nil _ _ _ _ _ | exact Kd.Q_nil _ _ _ _ _ | exact Kd.S_nil _ _ _ _ _, by first | exact Kd.R_nil _ _ _ _ _ | exact Kd.N_nil _ _ _ _ _ | exact Kd.V_nil _ _ _ _ _ | exact Kd.Q_nil _ _ _ _ _ | exact Kd.S_nil _ _ _ _ _, HBb GE214⟩
 ·replace c4 := Bool.eq_false_iff.mpr c4
  subst c4
  have H1 : ((impl_SchemaRight.f k l0).bind fun t219 => (if t219 = true then ((impl_classOf.f l0 a1).bind fun bt220 => (some (bt220.1, bt220.2.1, bt220.2.2.1, bt220.2.2.2.1))) else (some ((⟨#[]⟩ : ByteArray), ([] : List ByteArray), ([] : List ByteArray), ([] : List ByteArray))))) = some (r1, r2, r3, r4) := by rw [if_neg (show ¬ (false = true) by decide)] at H; exact H
  clear H
  have H := H1
  clear H1
  replace H := Option.bind_eq_some_iff.mp H
  obtain ⟨t219, A100, H⟩ := H
  replace H : (if t219 = true then ((impl_classOf.f l0 a1).bind fun bt220 => (some (bt220.1, bt220.2.1, bt220.2.2.1, bt220.2.2.2.1))) else (some ((⟨#[]⟩ : ByteArray), ([] : List ByteArray), ([] : List ByteArray), ([] : List ByteArray)))) = some (r1, r2, r3, r4) := H
  have A10 := Aside0.mk A100
  clear A100
  by_cases c11 : t219 = true
  ·subst c11
   have H1 : ((impl_classOf.f l0 a1).bind fun bt220 => (some (bt220.1, bt220.2.1, bt220.2.2.1, bt220.2.2.2.1))) = some (r1, r2, r3, r4) := by rw [if_pos rfl] at H; exact H
   clear H
   have H := H1
   clear H1
   replace H := Option.bind_eq_some_iff.mp H
   obtain ⟨⟨t220, t221, t224, t227, t230⟩, A120, H⟩ := H
   replace H : (some (t220, t221, t224, t227)) = some (r1, r2, r3, r4) := H
   have A12 := Aside0.mk A120
   clear A120
   simp only [Option.some.injEq, Prod.mk.injEq] at H
   obtain ⟨rfl, rfl, rfl, rfl⟩ := H
   go_enter Tryd.func37, Tryd.ntmps37
   go_wp2_with (first | ((with_reducible refine gate_dst (N := 4) rfl ?_); refine box_event ?hg (N := 4) ?hd (cs := #[.string (⟨#[]⟩ : ByteArray), .slice none 0 0, .slice none 0 0, .slice none 0 0]) (t := 62) ?hr ?_; (case hd => rfl); (case hg => rfl); (case hr => first | (go_simp; done) | (go_simp; rfl)); intro gb214 hg w13 hbox hb; have n0_ := Aside0.mk (below_step HBa hb); have n1_ := Aside0.mk (hbox); have n2_ := Aside0.mk ((by rw [hg]; exact (below_size HBa) : w.heap.size ≤ gb214)); have n3_ := Aside0.mk ((by rw [hg]; exact (below_size HBa) : w.heap.size ≤ gb214)); clear HB; have HB := n0_; have BK214 := n1_; have GW214 := n2_; have GE214 := n3_; clear n0_ n1_ n2_ n3_; clear hb hbox hg) | ((with_reducible refine gate_dst (N := 8) rfl ?_); refine Kd.R_lit Kd.string _ 9 ?hg (N := 8) ?hd (xs := ([a1] : List ByteArray)) (inner := [.string a1]) (ok := fun _ => True) (okp := fun _ => True) ?hr ?hp (fun _ hk => hk) trivial (Below.refl _ _) (Nat.le_refl _) (by simp) ?_; (case hd => rfl); (case hg => rfl); (case hr => first | (go_simp; done) | (go_simp; rfl)); (case hp => exact (Reps.one (show Kd.M Kd.string _ _ _ a1 [.string a1] from rfl) (Reps.none _ _))); intro v216 w14 ho15 hb hg_ hnew_; clear hg_ hnew_; (first | rw [← Ny215.out] at ho15 | (simp only [Int.reduceToNat] at ho15; rw [← Ny215.out] at ho15)); have n0_ := Aside0.mk (Kd.R_lower ho15 (below_size (HBb GE214))); have n1_ := Aside0.mk (blk_below (g := gb214) (o := .cells #[.string (⟨#[]⟩ : ByteArray), .slice none 0 0, .slice none 0 0, .slice none 0 0] 62 (0, 0)) (BKz BK214) hb); have n2_ := Aside0.mk (below_step (HBb GE214) hb); clear BK214; clear HB; have HO217 := n0_; have BK214 := n1_; have HB := n2_; clear n0_ n1_ n2_; clear hb ho15; obtain ⟨Ao16, co16, eo16⟩ := Kd.R_slice HO217.out; subst eo16) | ((with_reducible refine gate_callee (f := 72) rfl ?_); refine goesL_ (some 9) rfl rfl Tryd.func72 (by kernel_rfl) rfl #[.slice Ao16 y215.length co16] rfl MPz ?_; (with_reducible refine (impl_isLong.calls k _ _ y215 false _ ?side1 ?side2 A3.out).mono ?_); (case side1 => repeat (first | exact (Kd.R_reads' HO217.out).2.2 | (with_reducible refine Kd.C_alloc ?_ _) | (with_reducible refine Kd.C_drewN ?_ _) | (with_reducible refine Kd.C_drew ?_))); (case side2 => exact (Kd.R_reads' HO217.out).2.1); rintro e w' ⟨rfl, ⟨nd, rfl⟩⟩; refine ⟨_, rfl, ?_⟩; (try (rw [drewN_self w14]; generalize hq_ : World.drewN w14 _ = w14; have n0_ : Aside0 (Kd.R Kd.string 9 w14 w.heap.size (fun _ => True) (.slice Ao16 y215.length co16) y215) := ⟨by rw [← hq_]; exact (by (with_reducible repeat (first | apply Kd.R_alloc | apply Kd.R_drewN | apply Kd.R_drew)); exact HO217.out)⟩; have n1_ : Aside0 (w14.heap[gb214]? = some (.cells #[.string (⟨#[]⟩ : ByteArray), .slice none 0 0, .slice none 0 0, .slice none 0 0] 62 (0, 0))) := ⟨by rw [← hq_]; exact (BKz BK214)⟩; have n2_ : Aside0 (Below w.heap.size w w14) := ⟨by rw [← hq_]; exact (HBb GE214)⟩; clear HO217 BK214 HB hq_; have HO217 := n0_; have BK214 := n1_; have HB := n2_; clear n0_ n1_ n2_))) | (go_at_call 17; (with_reducible refine (impl_SchemaRight.calls k _ _ l0 true _ ?side1 ?side2 A10.out).mono ?_); (case side1 => repeat (first | exact (Kd.C_below HR0.out HB.out) | (with_reducible refine Kd.C_alloc ?_ _) | (with_reducible refine Kd.C_drewN ?_ _) | (with_reducible refine Kd.C_drew ?_))); (case side2 => exact HC0.out); rintro e w17 ⟨rfl, hb⟩; have n0_ := Aside0.mk (Kd.R_below (by (with_reducible repeat (first | apply Kd.R_alloc | apply Kd.R_drewN | apply Kd.R_drew)); exact HO217.out) hb); have n1_ := Aside0.mk (blk_below (g := gb214) (o := .cells #[.string (⟨#[]⟩ : ByteArray), .slice none 0 0, .slice none 0 0, .slice none 0 0] 62 (0, 0)) (BKz BK214) hb); have n2_ := Aside0.mk (below_step (HBb GE214) hb); clear HO217; clear BK214; clear HB; have HO217 := n0_; have BK214 := n1_; have HB := n2_; clear n0_ n1_ n2_; (try clear hb); (try clear hb2); (try clear hk); (try clear hi)) | ((with_reducible refine gate_callee (f := 73) rfl ?_); refine goesL_ (some 19) rfl rfl Tryd.func73 (by kernel_rfl) rfl #[.slice A0 l0.length c0, .string a1] rfl MPz ?_; (with_reducible refine (impl_classOf.calls _ _ l0 a1 t220 t221 t224 t227 t230 _ ?side1 ?side2 A12.out).mono ?_); (case side1 => repeat (first | exact (Kd.C_below HR0.out HB.out) | (with_reducible refine Kd.C_alloc ?_ _) | (with_reducible refine Kd.C_drewN ?_ _) | (with_reducible refine Kd.C_drew ?_))); (case side2 => exact HC0.out); rintro e w18 ⟨v222, v225, v228, rfl, ho0, ho1, ho2, hb⟩; refine ⟨_, rfl, ?_⟩; have n0_ := Aside0.mk (Kd.R_mono (Kd.R_told (Kd.R_told (Kd.R_told (Kd.R_old (by (with_reducible repeat (first | apply Kd.R_alloc | apply Kd.R_drewN | apply Kd.R_drew)); exact HO217.out) hb) (Kd.R_base ho0)) (Kd.R_base ho1)) (Kd.R_base ho2)) (fun _ h_ => h_.1)); have n1_ := Aside0.mk (Kd.R_lower (Kd.R_new' ho0 (Kd.R_lt (by (with_reducible repeat (first | apply Kd.R_alloc | apply Kd.R_drewN | apply Kd.R_drew)); exact HO217.out))) (below_size (HBb GE214))); have n2_ := Aside0.mk (Kd.R_lower (Kd.R_new' ho1 (Kd.R_lt (by (with_reducible repeat (first | apply Kd.R_alloc | apply Kd.R_drewN | apply Kd.R_drew)); exact HO217.out))) (below_size (HBb GE214))); have n3_ := Aside0.mk (Kd.R_lower (Kd.R_new' ho2 (Kd.R_lt (by (with_reducible repeat (first | apply Kd.R_alloc | apply Kd.R_drewN | apply Kd.R_drew)); exact HO217.out))) (below_size (HBb GE214))); have n4_ := Aside0.mk (blk_below (g := gb214) (o := .cells #[.string (⟨#[]⟩ : ByteArray), .slice none 0 0, .slice none 0 0, .slice none 0 0] 62 (0, 0)) (BKz BK214) hb); have n5_ := Aside0.mk (below_step (HBb GE214) hb); clear HO217; clear BK214; clear HB; have HO217 := n0_; have HO223 := n1_; have HO226 := n2_; have HO229 := n3_; have BK214 := n4_; have HB := n5_; clear n0_ n1_ n2_ n3_ n4_ n5_; (try clear hb); (try clear hb2); (try clear hk); (try clear hi); (try clear ho0); (try clear ho1); (try clear ho2)) | ((with_reducible refine gate_dst (N := 5) rfl ?_); refine box_event ?hg (N := 5) ?hd (cs := #[.string (⟨#[]⟩ : ByteArray), .slice none 0 0, .slice none 0 0, .slice none 0 0]) (t := 62) ?hr ?_; (case hd => rfl); (case hg => rfl); (case hr => first | (go_simp; done) | (go_simp; rfl)); intro gb231 hg w19 hbox hb; have n0_ := Aside0.mk (Kd.R_below (by (with_reducible repeat (first | apply Kd.R_alloc | apply Kd.R_drewN | apply Kd.R_drew)); exact HO217.out) hb); have n1_ := Aside0.mk (Kd.R_below (by (with_reducible repeat (first | apply Kd.R_alloc | apply Kd.R_drewN | apply Kd.R_drew)); exact HO223.out) hb); have n2_ := Aside0.mk (Kd.R_below (by (with_reducible repeat (first | apply Kd.R_alloc | apply Kd.R_drewN | apply Kd.R_drew)); exact HO226.out) hb); have n3_ := Aside0.mk (Kd.R_below (by (with_reducible repeat (first | apply Kd.R_alloc | apply Kd.R_drewN | apply Kd.R_drew)); exact HO229.out) hb); have n4_ := Aside0.mk (blk_below (g := gb214) (o := .cells #[.string (⟨#[]⟩ : ByteArray), .slice none 0 0, .slice none 0 0, .slice none 0 0] 62 (0, 0)) (BKz BK214) hb); have n5_ := Aside0.mk (below_step (HBb GE214) hb); have n6_ := Aside0.mk (hbox); have n7_ := Aside0.mk ((by rw [hg]; exact (below_size (HBb GE214)) : w.heap.size ≤ gb231)); have n8_ := Aside0.mk ((by rw [hg]; exact (below_size (HBb GE214)) : w.heap.size ≤ gb231)); have n9_ := Aside0.mk ((by rw [hg]; exact Nat.ne_of_lt (blk_lt (g := gb214) (o := .cells #[.string (⟨#[]⟩ : ByteArray), .slice none 0 0, .slice none 0 0, .slice none 0 0] 62 (0, 0)) (BKz BK214)) : gb214 ≠ gb231)); have n10_ := Aside0.mk ((by rw [hg]; exact Nat.ne_of_gt (blk_lt (g := gb214) (o := .cells #[.string (⟨#[]⟩ : ByteArray), .slice none 0 0, .slice none 0 0, .slice none 0 0] 62 (0, 0)) (BKz BK214)) : gb231 ≠ gb214)); clear HO217; clear HO223; clear HO226; clear HO229; clear BK214; clear HB; have HO217 := n0_; have HO223 := n1_; have HO226 := n2_; have HO229 := n3_; have BK214 := n4_; have HB := n5_; have BK231 := n6_; have GW231 := n7_; have GE231 := n8_; have NB214_231 := n9_; have NB231_214 := n10_; clear n0_ n1_ n2_ n3_ n4_ n5_ n6_ n7_ n8_ n9_ n10_; clear hb hbox hg; have hnb20 := NB231_214.out; have hnc20 := NB214_231.out; have hcz21_0 : w19.cell? ⟨gb231, 0, none⟩ = some (.string (⟨#[]⟩ : ByteArray)) := (blk_cell BK231.out 0).trans rfl; have hcz21_1 : w19.cell? ⟨gb231, 1, none⟩ = some (.slice none 0 0) := (blk_cell BK231.out 1).trans rfl; have hcz21_2 : w19.cell? ⟨gb231, 2, none⟩ = some (.slice none 0 0) := (blk_cell BK231.out 2).trans rfl; have hcz21_3 : w19.cell? ⟨gb231, 3, none⟩ = some (.slice none 0 0) := (blk_cell BK231.out 3).trans rfl; have hfz21_0 := blk_frozen BK231.out 0; have hfz21_1 := blk_frozen BK231.out 1; have hfz21_2 := blk_frozen BK231.out 2; have hfz21_3 := blk_frozen BK231.out 3; obtain ⟨Ao22, co22, eo22⟩ := Kd.R_slice HO223.out; subst eo22; obtain ⟨Ao23, co23, eo23⟩ := Kd.R_slice HO226.out; subst eo23; obtain ⟨Ao24, co24, eo24⟩ := Kd.R_slice HO229.out; subst eo24; have hcz25_0 : w19.cell? ⟨gb214, 0, none⟩ = some (.string (⟨#[]⟩ : ByteArray)) := (blk_cell BK214.out 0).trans rfl; have hcz25_1 : w19.cell? ⟨gb214, 1, none⟩ = some (.slice none 0 0) := (blk_cell BK214.out 1).trans rfl; have hcz25_2 : w19.cell? ⟨gb214, 2, none⟩ = some (.slice none 0 0) := (blk_cell BK214.out 2).trans rfl; have hcz25_3 : w19.cell? ⟨gb214, 3, none⟩ = some (.slice none 0 0) := (blk_cell BK214.out 3).trans rfl; have hfz25_0 := blk_frozen BK214.out 0; have hfz25_1 := blk_frozen BK214.out 1; have hfz25_2 := blk_frozen BK214.out 2; have hfz25_3 := blk_frozen BK214.out 3))
   refine bodyPost_ret (results_cell_row rfl _ _ gb214 62 #[.string t220, .slice Ao22 t221.length co22, .slice Ao23 t224.length co23, .slice Ao24 t227.length co24] (0, 0) _ rfl (by (with_reducible repeat (first | refine blk_drewN ?_ _ | refine blk_drew ?_ | refine blk_alloc ?_ _)); refine blk_put (cs := #[.string t220, .slice Ao22 t221.length co22, .slice Ao23 t224.length co23, .slice none 0 0]) ?_ 3 _ rfl; (with_reducible repeat (first | refine blk_drewN ?_ _ | refine blk_drew ?_ | refine blk_alloc ?_ _)); refine blk_put (cs := #[.string t220, .slice Ao22 t221.length co22, .slice none 0 0, .slice none 0 0]) ?_ 2 _ rfl; (with_reducible repeat (first | refine blk_drewN ?_ _ | refine blk_drew ?_ | refine blk_alloc ?_ _)); refine blk_put (cs := #[.string t220, .slice none 0 0, .slice none 0 0, .slice none 0 0]) ?_ 1 _ rfl; (with_reducible repeat (first | refine blk_drewN ?_ _ | refine blk_drew ?_ | refine blk_alloc ?_ _)); refine blk_put (cs := #[.string (⟨#[]⟩ : ByteArray), .slice none 0 0, .slice none 0 0, .slice none 0 0]) ?_ 0 _ rfl; (with_reducible repeat (first | refine blk_drewN ?_ _ | refine blk_drew ?_ | refine blk_alloc ?_ _)); refine blk_far ?_ NB214_231.out _; (with_reducible repeat (first | refine blk_drewN ?_ _ | refine blk_drew ?_ | refine blk_alloc ?_ _)); refine blk_far ?_ NB214_231.out _; (with_reducible repeat (first | refine blk_drewN ?_ _ | refine blk_drew ?_ | refine blk_alloc ?_ _)); refine blk_far ?_ NB214_231.out _; (with_reducible repeat (first | refine blk_drewN ?_ _ | refine blk_drew ?_ | refine blk_alloc ?_ _)); refine blk_far ?_ NB214_231.out _; (with_reducible repeat (first | refine blk_drewN ?_ _ | refine blk_drew ?_ | refine blk_alloc ?_ _)); exact BK214.out) Tryd.underlying62 rfl (by kernel_rfl)) rfl ?_
   exact ⟨_, _, _, EZa, by (with_reducible repeat (first | apply Kd.R_alloc | apply Kd.R_drewN | apply Kd.R_drew)); exact Kd.R_mono (Kd.R_far (p := ⟨gb214, 3, none⟩) (Kd.R_far (p := ⟨gb214, 2, none⟩) (Kd.R_far (p := ⟨gb214, 1, none⟩) (Kd.R_far (p := ⟨gb214, 0, none⟩) (Kd.R_far (p := ⟨gb231, 3, none⟩) (Kd.R_far (p := ⟨gb231, 2, none⟩) (Kd.R_far (p := ⟨gb231, 1, none⟩) (Kd.R_far (p := ⟨gb231, 0, none⟩) (Kd.R_types (Kd.R_types HO223.out BK231.out (by decide)) BK214.out (by decide)) (fun _ hk => hk.1.2) (.string t220)) (fun _ hk => hk.1.2) (.slice Ao22 t221.length co22)) (fun _ hk => hk.1.2) (.slice Ao23 t224.length co23)) (fun _ hk => hk.1.2) (.slice Ao24 t227.length co24)) (fun _ hk => hk.2) (.string t220)) (fun _ hk => hk.2) (.slice Ao22 t221.length co22)) (fun _ hk => hk.2) (.slice Ao23 t224.length co23)) (fun _ hk => hk.2) (.slice Ao24 t227.length co24)) (fun _ hk => ⟨hk.1.1.1.1, hk.1.1.1.2⟩), by (with_reducible repeat (first | apply Kd.R_alloc | apply Kd.R_drewN | apply Kd.R_drew)); exact Kd.R_mono (Kd.R_far (p := ⟨gb214, 3, none⟩) (Kd.R_far (p := ⟨gb214, 2, none⟩) (Kd.R_far (p := ⟨gb214, 1, none⟩) (Kd.R_far (p := ⟨gb214, 0, none⟩) (Kd.R_far (p := ⟨gb231, 3, none⟩) (Kd.R_far (p := ⟨gb231, 2, none⟩) (Kd.R_far (p := ⟨gb231, 1, none⟩) (Kd.R_far (p := ⟨gb231, 0, none⟩) (Kd.R_types (Kd.R_types HO226.out BK231.out (by decide)) BK214.out (by decide)) (fun _ hk => hk.1.2) (.string t220)) (fun _ hk => hk.1.2) (.slice Ao22 t221.length co22)) (fun _ hk => hk.1.2) (.slice Ao23 t224.length co23)) (fun _ hk => hk.1.2) (.slice Ao24 t227.length co24)) (fun _ hk => hk.2) (.string t220)) (fun _ hk => hk.2) (.slice Ao22 t221.length co22)) (fun _ hk => hk.2) (.slice Ao23 t224.length co23)) (fun _ hk => hk.2) (.slice Ao24 t227.length co24)) (fun _ hk => ⟨hk.1.1.1.1, hk.1.1.1.2⟩), by (with_reducible repeat (first | apply Kd.R_alloc | apply Kd.R_drewN | apply Kd.R_drew)); exact Kd.R_mono (Kd.R_far (p := ⟨gb214, 3, none⟩) (Kd.R_far (p := ⟨gb214, 2, none⟩) (Kd.R_far (p := ⟨gb214, 1, none⟩) (Kd.R_far (p := ⟨gb214, 0, none⟩) (Kd.R_far (p := ⟨gb231, 3, none⟩) (Kd.R_far (p := ⟨gb231, 2, none⟩) (Kd.R_far (p := ⟨gb231, 1, none⟩) (Kd.R_far (p := ⟨gb231, 0, none⟩) (Kd.R_types (Kd.R_types HO229.out BK231.out (by decide)) BK214.out (by decide)) (fun _ hk => hk.1.2) (.string t220)) (fun _ hk => hk.1.2) (.slice Ao22 t221.length co22)) (fun _ hk => hk.1.2) (.slice Ao23 t224.length co23)) (fun _ hk => hk.1.2) (.slice Ao24 t227.length co24)) (fun _ hk => hk.2) (.string t220)) (fun _ hk => hk.2) (.slice Ao22 t221.length co22)) (fun _ hk => hk.2) (.slice Ao23 t224.length co23)) (fun _ hk => hk.2) (.slice Ao24 t227.length co24)) (fun _ hk => ⟨hk.1.1.1.1, hk.1.1.1.2⟩), HBc GE214 GE231⟩
  ·replace c11 := Bool.eq_false_iff.mpr c11
   subst c11
   have H1 : (some ((⟨#[]⟩ : ByteArray), ([] : List ByteArray), ([] : List ByteArray), ([] : List ByteArray))) = some (r1, r2, r3, r4) := by rw [if_neg (show ¬ (false = true) by decide)] at H; exact H
   clear H
   have H := H1
   clear H1
   simp only [Option.some.injEq, Prod.mk.injEq] at H
   obtain ⟨rfl, rfl, rfl, rfl⟩ := H
   go_enter Tryd.func37, Tryd.ntmps37
   go_wp2_with (first | ((with_reducible refine gate_dst (N := 4) rfl ?_); refine box_event ?hg (N := 4) ?hd (cs := #[.string (⟨#[]⟩ : ByteArray), .slice none 0 0, .slice none 0 0, .slice none 0 0]) (t := 62) ?hr ?_; (case hd => rfl); (case hg => rfl); (case hr => first | (go_simp; done) | (go_simp; rfl)); intro gb214 hg w26 hbox hb; have n0_ := Aside0.mk (below_step HBa hb); have n1_ := Aside0.mk (hbox); have n2_ := Aside0.mk ((by rw [hg]; exact (below_size HBa) : w.heap.size ≤ gb214)); have n3_ := Aside0.mk ((by rw [hg]; exact (below_size HBa) : w.heap.size ≤ gb214)); clear HB; have HB := n0_; have BK214 := n1_; have GW214 := n2_; have GE214 := n3_; clear n0_ n1_ n2_ n3_; clear hb hbox hg) | ((with_reducible refine gate_dst (N := 8) rfl ?_); refine Kd.R_lit Kd.string _ 9 ?hg (N := 8) ?hd (xs := ([a1] : List ByteArray)) (inner := [.string a1]) (ok := fun _ => True) (okp := fun _ => True) ?hr ?hp (fun _ hk => hk) trivial (Below.refl _ _) (Nat.le_refl _) (by simp) ?_; (case hd => rfl); (case hg => rfl); (case hr => first | (go_simp; done) | (go_simp; rfl)); (case hp => exact (Reps.one (show Kd.M Kd.string _ _ _ a1 [.string a1] from rfl) (Reps.none _ _))); intro v216 w27 ho28 hb hg_ hnew_; clear hg_ hnew_; (first | rw [← Ny215.out] at ho28 | (simp only [Int.reduceToNat] at ho28; rw [← Ny215.out] at ho28)); have n0_ := Aside0.mk (Kd.R_lower ho28 (below_size (HBb GE214))); have n1_ := Aside0.mk (blk_below (g := gb214) (o := .cells #[.string (⟨#[]⟩ : ByteArray), .slice none 0 0, .slice none 0 0, .slice none 0 0] 62 (0, 0)) (BKz BK214) hb); have n2_ := Aside0.mk (below_step (HBb GE214) hb); clear BK214; clear HB; have HO217 := n0_; have BK214 := n1_; have HB := n2_; clear n0_ n1_ n2_; clear hb ho28; obtain ⟨Ao29, co29, eo29⟩ := Kd.R_slice HO217.out; subst eo29) | ((with_reducible refine gate_callee (f := 72) rfl ?_); refine goesL_ (some 9) rfl rfl Tryd.func72 (by kernel_rfl) rfl #[.slice Ao29 y215.length co29] rfl MPz ?_; (with_reducible refine (impl_isLong.calls k _ _ y215 false _ ?side1 ?side2 A3.out).mono ?_); (case side1 => repeat (first | exact (Kd.R_reads' HO217.out).2.2 | (with_reducible refine Kd.C_alloc ?_ _) | (with_reducible refine Kd.C_drewN ?_ _) | (with_reducible refine Kd.C_drew ?_))); (case side2 => exact (Kd.R_reads' HO217.out).2.1); rintro e w' ⟨rfl, ⟨nd, rfl⟩⟩; refine ⟨_, rfl, ?_⟩; (try (rw [drewN_self w27]; generalize hq_ : World.drewN w27 _ = w27; have n0_ : Aside0 (Kd.R Kd.string 9 w27 w.heap.size (fun _ => True) (.slice Ao29 y215.length co29) y215) := ⟨by rw [← hq_]; exact (by (with_reducible repeat (first | apply Kd.R_alloc | apply Kd.R_drewN | apply Kd.R_drew)); exact HO217.out)⟩; have n1_ : Aside0 (w27.heap[gb214]? = some (.cells #[.string (⟨#[]⟩ : ByteArray), .slice none 0 0, .slice none 0 0, .slice none 0 0] 62 (0, 0))) := ⟨by rw [← hq_]; exact (BKz BK214)⟩; have n2_ : Aside0 (Below w.heap.size w w27) := ⟨by rw [← hq_]; exact (HBb GE214)⟩; clear HO217 BK214 HB hq_; have HO217 := n0_; have BK214 := n1_; have HB := n2_; clear n0_ n1_ n2_))) | (go_at_call 17; (with_reducible refine (impl_SchemaRight.calls k _ _ l0 false _ ?side1 ?side2 A10.out).mono ?_); (case side1 => repeat (first | exact (Kd.C_below HR0.out HB.out) | (with_reducible refine Kd.C_alloc ?_ _) | (with_reducible refine Kd.C_drewN ?_ _) | (with_reducible refine Kd.C_drew ?_))); (case side2 => exact HC0.out); rintro e w30 ⟨rfl, hb⟩; have n0_ := Aside0.mk (Kd.R_below (by (with_reducible repeat (first | apply Kd.R_alloc | apply Kd.R_drewN | apply Kd.R_drew)); exact HO217.out) hb); have n1_ := Aside0.mk (blk_below (g := gb214) (o := .cells #[.string (⟨#[]⟩ : ByteArray), .slice none 0 0, .slice none 0 0, .slice none 0 0] 62 (0, 0)) (BKz BK214) hb); have n2_ := Aside0.mk (below_step (HBb GE214) hb); clear HO217; clear BK214; clear HB; have HO217 := n0_; have BK214 := n1_; have HB := n2_; clear n0_ n1_ n2_; (try clear hb); (try clear hb2); (try clear hk); (try clear hi); have hcz31_0 : w30.cell? ⟨gb214, 0, none⟩ = some (.string (⟨#[]⟩ : ByteArray)) := (blk_cell BK214.out 0).trans rfl; have hcz31_1 : w30.cell? ⟨gb214, 1, none⟩ = some (.slice none 0 0) := (blk_cell BK214.out 1).trans rfl; have hcz31_2 : w30.cell? ⟨gb214, 2, none⟩ = some (.slice none 0 0) := (blk_cell BK214.out 2).trans rfl; have hcz31_3 : w30.cell? ⟨gb214, 3, none⟩ = some (.slice none 0 0) := (blk_cell BK214.out 3).trans rfl; have hfz31_0 := blk_frozen BK214.out 0; have hfz31_1 := blk_frozen BK214.out 1; have hfz31_2 := blk_frozen BK214.out 2; have hfz31_3 := blk_frozen BK214.out 3))
   refine bodyPost_ret (results_cell_row rfl _ _ gb214 62 #[.string (⟨#[]⟩ : ByteArray), .slice none 0 0, .slice none 0 0, .slice none 0 0] (0, 0) _ rfl (by (with_reducible repeat (first | refine blk_drewN ?_ _ | refine blk_drew ?_ | refine blk_alloc ?_ _)); refine blk_put (cs := #[.string (⟨#[]⟩ : ByteArray), .slice none 0 0, .slice none 0 0, .slice none 0 0]) ?_ 3 _ rfl; (with_reducible repeat (first | refine blk_drewN ?_ _ | refine blk_drew ?_ | refine blk_alloc ?_ _)); refine blk_put (cs := #[.string (⟨#[]⟩ : ByteArray), .slice none 0 0, .slice none 0 0, .slice none 0 0]) ?_ 2 _ rfl; (with_reducible repeat (first | refine blk_drewN ?_ _ | refine blk_drew ?_ | refine blk_alloc ?_ _)); refine blk_put (cs := #[.string (⟨#[]⟩ : ByteArray), .slice none 0 0, .slice none 0 0, .slice none 0 0]) ?_ 1 _ rfl; (with_reducible repeat (first | refine blk_drewN ?_ _ | refine blk_drew ?_ | refine blk_alloc ?_ _)); refine blk_put (cs := #[.string (⟨#[]⟩ : ByteArray), .slice none 0 0, .slice none 0 0, .slice none 0 0]) ?_ 0 _ rfl; (with_reducible repeat (first | refine blk_drewN ?_ _ | refine blk_drew ?_ | refine blk_alloc ?_ _)); exact BK214.out) Tryd.underlying62 rfl (by kernel_rfl)) rfl ?_
   exact ⟨_, _, _, EZa, by first | exact Kd.R_nil _ _ _ _ _ | exact Kd.N_nil _ _ _ _ _ | exact Kd.V_nil _ _ _ _ _ | exact Kd.Q_nil _ _ _ _ _ | exact Kd.S_nil _ _ _ _ _, by first | exact Kd.R_nil _ _ _ _ _ | exact Kd.N_nil _ _ _ _ _ | exact Kd.V_nil _ _ _ _ _ | exact Kd.Q_nil _ _ _ _ _ | exact Kd.S_nil _ _ _ _ _, by first | exact Kd.R_nil _ _ _ _ _ | exact Kd.N_nil _ _ _ _ _ | exact Kd.V_nil _ _ _ _ _ | exact Kd.Q_nil _ _ _ _ _ | exact Kd.S_nil _ _ _ _ _, HBb GE214⟩
def laws_eqStringS.l0 : Nat → List ByteArray → List ByteArray → Int → Option (Bool)
 | 0, _, _, _ => none
 | k + 1, x0, x1, x5 => if x5 < (x0.length : Int) then (if 0 ≤ x5 then (if x5 < (x1.length : Int) then (if (rdOf ByteArray.empty x0 x5).toList = (rdOf ByteArray.empty x1 x5).toList then (laws_eqStringS.l0 k x0 x1 (wrap64 (x5 + 1))) else (some false)) else (none)) else (none)) else (some true)
def laws_eqStringS.f (k : Nat) (l0 : List ByteArray) (l1 : List ByteArray) : Option (Bool) := if (l0.length : Int) = (l1.length : Int) then (laws_eqStringS.l0 k l0 l1 0) else (some false)
theorem laws_eqStringS.mono_l : ∀ k, (∀ y0 y1 y2, LeO (laws_eqStringS.l0 k y0 y1 y2) (laws_eqStringS.l0 (k + 1) y0 y1 y2))
 | 0 => fun _ _ _ r h => by simp [laws_eqStringS.l0] at h
 | k + 1 => by
  have ih0 := laws_eqStringS.mono_l k
  ·intro y0 y1 y2
   unfold laws_eqStringS.l0
   repeat' first
   | (with_reducible exact ih0 _ _ _)
   | (with_reducible exact LeO.refl _)
   | (with_reducible exact LeO.none _)
   | (with_reducible refine LeO.ite ?_ ?_)
   | (with_reducible refine LeO.bind ?_ (fun _ => ?_))
   | exact ih0 _ _ _
   | exact LeO.none _
   | refine LeO.ite ?_ ?_
   | refine LeO.bind ?_ (fun _ => ?_)
theorem laws_eqStringS.mono : ∀ a0 a1 k, LeO (laws_eqStringS.f k a0 a1) (laws_eqStringS.f (k + 1) a0 a1) := by
 intro a0 a1 k
 have ih0 := laws_eqStringS.mono_l k
 unfold laws_eqStringS.f
 repeat' first
   | (with_reducible exact ih0 _ _ _)
   | (with_reducible exact LeO.refl _)
   | (with_reducible exact LeO.none _)
   | (with_reducible refine LeO.ite ?_ ?_)
   | (with_reducible refine LeO.bind ?_ (fun _ => ?_))
   | exact ih0 _ _ _
   | exact LeO.none _
   | refine LeO.ite ?_ ?_
   | refine LeO.bind ?_ (fun _ => ?_)
set_option maxHeartbeats 8000000 in
set_option maxRecDepth 100000 in
theorem laws_eqStringS.calls (k : Nat) (A0 : Option Addr) (c0 : Nat) (l0 : List ByteArray) (A1 : Option Addr) (c1 : Nat) (l1 : List ByteArray) (r : Bool) (w : World) (hr0 : Kd.C Kd.string w A0 l0.length l0) (hc0 : l0.length ≤ c0) (hr1 : Kd.C Kd.string w A1 l1.length l1) (hc1 : l1.length ≤ c1) (h : laws_eqStringS.f k l0 l1 = some r) :
  Calls Tryd.prog 26 #[.slice A0 l0.length c0, .slice A1 l1.length c1] w fun e w' => e = .returned (.bool r) ∧ Drawn0 w w' := by
 have HR0 := Aside0.mk hr0
 have HC0 := Aside0.mk hc0
 clear hr0 hc0
 have HR1 := Aside0.mk hr1
 have HC1 := Aside0.mk hc1
 clear hr1 hc1
 have H : (if (l0.length : Int) = (l1.length : Int) then (laws_eqStringS.l0 k l0 l1 0) else (some false)) = some r := h
 clear h
 by_cases c3 : (l0.length : Int) = (l1.length : Int)
 ·rw [if_pos c3] at H
  have c3b0 : ((l0.length : Int) == (l1.length : Int)) = true := beq_iff_eq.mpr c3
  have c3b1 : ((l0.length : Int) != (l1.length : Int)) = false := bne_eq_false_iff_eq.mpr c3
  have c3b2 : (l0.length == l1.length) = true := by first | simpa using c3 | (simp at c3 ⊢; omega)
  clear c3
  have H' := Aside0.mk H
  clear H
  go_enter Tryd.func26, Tryd.ntmps26
  go_wp2
  repeat (go_quiet (fail); try go_wp2)
  go_loopg [5] k (fun kq v5 w' => ∃ (x5_1 : Int), v5 = .int .i64 x5_1 ∧ Aside0 (laws_eqStringS.l0 kq l0 l1 x5_1 = some r) ∧ Aside0 (kq ≤ k) ∧ Drawn0 w w')
  case atStart => exact ⟨(0), EZc, H', ⟨Nat.le_refl _⟩, DRz⟩
  case round =>
   clear H'
   try clear c1
   try clear c2
   try clear p2
   try clear c3
   try clear c3b0
   try clear c3b1
   try clear c3b2
   obtain ⟨x5_1, rfl, HA, HK1, ⟨m1, rfl⟩⟩ := hrel
   cases gk with
   | zero => exact absurd HA.out (by simp [laws_eqStringS.l0])
   | succ k1 =>
    have H := HA.out
    clear HA
    simp only [laws_eqStringS.l0] at H
    by_cases c4 : x5_1 < (l0.length : Int)
    ·rw [if_pos c4] at H
     have c4b0 : decide (x5_1 < (l0.length : Int)) = true := decide_eq_true c4
     clear c4
     by_cases c5 : 0 ≤ x5_1
     ·rw [if_pos c5] at H
      have c5b0 : decide (0 ≤ x5_1) = true := decide_eq_true c5
      clear c5
      by_cases c6 : x5_1 < (l1.length : Int)
      ·rw [if_pos c6] at H
       have c6b0 : decide (x5_1 < (l1.length : Int)) = true := decide_eq_true c6
       clear c6
       by_cases c7 : (rdOf ByteArray.empty l0 x5_1).toList = (rdOf ByteArray.empty l1 x5_1).toList
       ·rw [if_pos c7] at H
        have c7b0 : ((rdOf ByteArray.empty l0 x5_1).toList == (rdOf ByteArray.empty l1 x5_1).toList) = true := beq_iff_eq.mpr c7
        have c7b1 : ((rdOf ByteArray.empty l0 x5_1).toList != (rdOf ByteArray.empty l1 x5_1).toList) = false := bne_eq_false_iff_eq.mpr c7
        clear c7
        have H' := Aside0.mk H
        clear H
        have p232 : 0 ≤ (x5_1 : Int) := ODz
        have q232 : x5_1 < (l0.length : Int) := ODz
        obtain ⟨ad232, e232, hx232_0⟩ := Kd.at_string HR0.out x5_1 p232 q232
        cases e232
        replace p232 := eq_true p232
        replace q232 := eq_true q232
        have p233 : 0 ≤ (x5_1 : Int) := ODz
        have q233 : x5_1 < (l1.length : Int) := ODz
        obtain ⟨ad233, e233, hx233_0⟩ := Kd.at_string HR1.out x5_1 p233 q233
        cases e233
        replace p233 := eq_true p233
        replace q233 := eq_true q233
        go_wp2
        repeat (go_quiet (fail); try go_wp2)
        go_roundg k1
        case measure => have := HK1.out; omega
        case rel => exact ⟨(wrap64 (x5_1 + 1)), EZc, H', ⟨by have := HK1.out; omega⟩, DRz⟩
       ·rw [if_neg c7] at H
        have c7b0 : ((rdOf ByteArray.empty l0 x5_1).toList == (rdOf ByteArray.empty l1 x5_1).toList) = false := beq_eq_false_iff_ne.mpr c7
        have c7b1 : ((rdOf ByteArray.empty l0 x5_1).toList != (rdOf ByteArray.empty l1 x5_1).toList) = true := bne_iff_ne.mpr c7
        obtain rfl := Option.some.inj H
        have p232 : 0 ≤ (x5_1 : Int) := ODz
        have q232 : x5_1 < (l0.length : Int) := ODz
        obtain ⟨ad232, e232, hx232_0⟩ := Kd.at_string HR0.out x5_1 p232 q232
        cases e232
        replace p232 := eq_true p232
        replace q232 := eq_true q232
        have p233 : 0 ≤ (x5_1 : Int) := ODz
        have q233 : x5_1 < (l1.length : Int) := ODz
        obtain ⟨ad233, e233, hx233_0⟩ := Kd.at_string HR1.out x5_1 p233 q233
        cases e233
        replace p233 := eq_true p233
        replace q233 := eq_true q233
        go_wp2
        repeat (go_quiet (fail); try go_wp2)
        go_ret
        exact ⟨EZb, DRz⟩
      ·rw [if_neg c6] at H
       exact absurd H (by simp)
     ·rw [if_neg c5] at H
      exact absurd H (by simp)
    ·rw [if_neg c4] at H
     have c4b0 : decide (x5_1 < (l0.length : Int)) = false := decide_eq_false c4
     clear c4
     obtain rfl := Option.some.inj H
     go_wp2
     repeat (go_quiet (fail); try go_wp2)
     go_ret
     exact ⟨EZb, DRz⟩
 ·rw [if_neg c3] at H
  have c3b0 : ((l0.length : Int) == (l1.length : Int)) = false := beq_eq_false_iff_ne.mpr c3
  have c3b1 : ((l0.length : Int) != (l1.length : Int)) = true := bne_iff_ne.mpr c3
  have c3b2 : (l0.length == l1.length) = false := by first | simpa using c3 | (simp at c3 ⊢; omega)
  obtain rfl := Option.some.inj H
  go_enter Tryd.func26, Tryd.ntmps26
  go_wp2
  repeat (go_quiet (fail); try go_wp2)
  go_ret
  exact ⟨EZb, DRz⟩
end Go.Proofs.YtgkjlfimjnhbbaaDoor.PFnExactClassOf
