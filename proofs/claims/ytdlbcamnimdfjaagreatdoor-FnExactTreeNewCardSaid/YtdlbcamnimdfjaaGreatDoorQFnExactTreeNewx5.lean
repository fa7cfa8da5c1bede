-- Laid by this session's own program out of the translation; Lean checks it.
import Derived.Test.YtdlbcamnimdfjaaGreatDoorQFnExactTreeNewx0
import Derived.Test.YtdlbcamnimdfjaaGreatDoorQFnExactTreeNewx4
namespace Go.Proofs.YtdlbcamnimdfjaaGreatDoor.PFnExactTreeNew
open Go.RowKit Go.Proofs.YtdlbcamnimdfjaaGreatDoorW.PrintWords Go.Proofs.YtdlbcamnimdfjaaGreatDoorW.PrintLast Go.Proofs.YtdlbcamnimdfjaaGreatDoorW.PrintMore
attribute [local go_sem] max2_int min2_int max_two min_two max_three min_three max_four min_four   -- for this text's walks alone
set_option linter.unusedVariables false
set_option linter.unusedSimpArgs false
def spec_l05Copy.f (a0_0 : ByteArray) (l0_1 : List ByteArray) (l0_2 : List ByteArray) (l0_3 : List ByteArray) : Option (ByteArray × List ByteArray × List ByteArray × List ByteArray) := (some (([] : List ByteArray) : List ByteArray)).bind fun y164 => (if y164.length + l0_1.length < 8796093022208 then ((some (([] : List ByteArray) : List ByteArray)).bind fun y170 => (if y170.length + l0_2.length < 8796093022208 then ((some (([] : List ByteArray) : List ByteArray)).bind fun y176 => (if y176.length + l0_3.length < 8796093022208 then (some (a0_0, (y164 ++ l0_1), (y170 ++ l0_2), (y176 ++ l0_3))) else (none))) else (none))) else (none))
set_option maxHeartbeats 8000000 in
set_option maxRecDepth 100000 in
theorem spec_l05Copy.calls (a0_0 : ByteArray) (A0_1 : Option Addr) (c0_1 : Nat) (l0_1 : List ByteArray) (A0_2 : Option Addr) (c0_2 : Nat) (l0_2 : List ByteArray) (A0_3 : Option Addr) (c0_3 : Nat) (l0_3 : List ByteArray) (r1 : ByteArray) (r2 : List ByteArray) (r3 : List ByteArray) (r4 : List ByteArray) (w : World) (hr0_1 : Kd.C Kd.string w A0_1 l0_1.length l0_1) (hc0_1 : l0_1.length ≤ c0_1) (hr0_2 : Kd.C Kd.string w A0_2 l0_2.length l0_2) (hc0_2 : l0_2.length ≤ c0_2) (hr0_3 : Kd.C Kd.string w A0_3 l0_3.length l0_3) (hc0_3 : l0_3.length ≤ c0_3) (h : spec_l05Copy.f a0_0 l0_1 l0_2 l0_3 = some (r1, r2, r3, r4)) :
  Calls Tryz.prog 42 #[.agg #[.string a0_0, .slice A0_1 l0_1.length c0_1, .slice A0_2 l0_2.length c0_2, .slice A0_3 l0_3.length c0_3]] w fun e w' => ∃ v1_ v2_ v3_ : Value, e = .returned (.agg #[.string r1, v1_, v2_, v3_]) ∧ Kd.R Kd.string 9 w' w.heap.size (fun k_ => some k_ ≠ (v2_ : Value).ownBlock ∧ some k_ ≠ (v3_ : Value).ownBlock) v1_ r2 ∧ Kd.R Kd.string 9 w' w.heap.size (fun k_ => some k_ ≠ (v1_ : Value).ownBlock ∧ some k_ ≠ (v3_ : Value).ownBlock) v2_ r3 ∧ Kd.R Kd.string 9 w' w.heap.size (fun k_ => some k_ ≠ (v1_ : Value).ownBlock ∧ some k_ ≠ (v2_ : Value).ownBlock) v3_ r4 ∧ Below w.heap.size w w' := by
 have hu48 := Tryz.underlying48
 have HR0_1 := Aside0.mk hr0_1
 have HC0_1 := Aside0.mk hc0_1
 clear hr0_1 hc0_1
 have HR0_2 := Aside0.mk hr0_2
 have HC0_2 := Aside0.mk hc0_2
 clear hr0_2 hc0_2
 have HR0_3 := Aside0.mk hr0_3
 have HC0_3 := Aside0.mk hc0_3
 clear hr0_3 hc0_3
 have HB := Aside0.mk (Below.refl w.heap.size w)
 have H : ((some (([] : List ByteArray) : List ByteArray)).bind fun y164 => (if y164.length + l0_1.length < 8796093022208 then ((some (([] : List ByteArray) : List ByteArray)).bind fun y170 => (if y170.length + l0_2.length < 8796093022208 then ((some (([] : List ByteArray) : List ByteArray)).bind fun y176 => (if y176.length + l0_3.length < 8796093022208 then (some (a0_0, (y164 ++ l0_1), (y170 ++ l0_2), (y176 ++ l0_3))) else (none))) else (none))) else (none))) = some (r1, r2, r3, r4) := h
 clear h
 obtain ⟨y164, hy164⟩ : ∃ y_ : List ByteArray, y_ = (([] : List ByteArray)) := ⟨_, rfl⟩
 replace H : (if y164.length + l0_1.length < 8796093022208 then ((some (([] : List ByteArray) : List ByteArray)).bind fun y170 => (if y170.length + l0_2.length < 8796093022208 then ((some (([] : List ByteArray) : List ByteArray)).bind fun y176 => (if y176.length + l0_3.length < 8796093022208 then (some (a0_0, (y164 ++ l0_1), (y170 ++ l0_2), (y176 ++ l0_3))) else (none))) else (none))) else (none)) = some (r1, r2, r3, r4) := by first | (rw [hy164]; with_reducible exact H) | (have H2_ := (Option.bind_some _ _).symm.trans H; rw [hy164]; with_reducible exact H2_) | (have H2_ := (Option.bind_some _ _).symm.trans H; with_reducible exact H2_) | with_reducible exact H | (rw [hy164]; exact H) | exact H
 have Ny164 := Aside0.mk hy164
 clear hy164
 by_cases c2 : y164.length + l0_1.length < 8796093022208
 ·rw [if_pos c2] at H
  have LMc2 := Aside0.mk c2
  clear c2
  obtain ⟨y167, hy167⟩ : ∃ y_ : List ByteArray, y_ = (y164 ++ l0_1) := ⟨_, rfl⟩
  replace H : ((some (([] : List ByteArray) : List ByteArray)).bind fun y170 => (if y170.length + l0_2.length < 8796093022208 then ((some (([] : List ByteArray) : List ByteArray)).bind fun y176 => (if y176.length + l0_3.length < 8796093022208 then (some (a0_0, y167, (y170 ++ l0_2), (y176 ++ l0_3))) else (none))) else (none))) = some (r1, r2, r3, r4) := by first | (rw [hy167]; with_reducible exact H) | (have H2_ := (Option.bind_some _ _).symm.trans H; rw [hy167]; with_reducible exact H2_) | (have H2_ := (Option.bind_some _ _).symm.trans H; with_reducible exact H2_) | with_reducible exact H | (rw [hy167]; exact H) | exact H
  have Ny167 := Aside0.mk hy167
  clear hy167
  obtain ⟨y170, hy170⟩ : ∃ y_ : List ByteArray, y_ = (([] : List ByteArray)) := ⟨_, rfl⟩
  replace H : (if y170.length + l0_2.length < 8796093022208 then ((some (([] : List ByteArray) : List ByteArray)).bind fun y176 => (if y176.length + l0_3.length < 8796093022208 then (some (a0_0, y167, (y170 ++ l0_2), (y176 ++ l0_3))) else (none))) else (none)) = some (r1, r2, r3, r4) := by first | (rw [hy170]; with_reducible exact H) | (have H2_ := (Option.bind_some _ _).symm.trans H; rw [hy170]; with_reducible exact H2_) | (have H2_ := (Option.bind_some _ _).symm.trans H; with_reducible exact H2_) | with_reducible exact H | (rw [hy170]; exact H) | exact H
  have Ny170 := Aside0.mk hy170
  clear hy170
  by_cases c3 : y170.length + l0_2.length < 8796093022208
  ·rw [if_pos c3] at H
   have LMc3 := Aside0.mk c3
   clear c3
   obtain ⟨y173, hy173⟩ : ∃ y_ : List ByteArray, y_ = (y170 ++ l0_2) := ⟨_, rfl⟩
   replace H : ((some (([] : List ByteArray) : List ByteArray)).bind fun y176 => (if y176.length + l0_3.length < 8796093022208 then (some (a0_0, y167, y173, (y176 ++ l0_3))) else (none))) = some (r1, r2, r3, r4) := by first | (rw [hy173]; with_reducible exact H) | (have H2_ := (Option.bind_some _ _).symm.trans H; rw [hy173]; with_reducible exact H2_) | (have H2_ := (Option.bind_some _ _).symm.trans H; with_reducible exact H2_) | with_reducible exact H | (rw [hy173]; exact H) | exact H
   have Ny173 := Aside0.mk hy173
   clear hy173
   obtain ⟨y176, hy176⟩ : ∃ y_ : List ByteArray, y_ = (([] : List ByteArray)) := ⟨_, rfl⟩
   replace H : (if y176.length + l0_3.length < 8796093022208 then (some (a0_0, y167, y173, (y176 ++ l0_3))) else (none)) = some (r1, r2, r3, r4) := by first | (rw [hy176]; with_reducible exact H) | (have H2_ := (Option.bind_some _ _).symm.trans H; rw [hy176]; with_reducible exact H2_) | (have H2_ := (Option.bind_some _ _).symm.trans H; with_reducible exact H2_) | with_reducible exact H | (rw [hy176]; exact H) | exact H
   have Ny176 := Aside0.mk hy176
   clear hy176
   by_cases c4 : y176.length + l0_3.length < 8796093022208
   ·rw [if_pos c4] at H
    have LMc4 := Aside0.mk c4
    clear c4
    obtain ⟨y179, hy179⟩ : ∃ y_ : List ByteArray, y_ = (y176 ++ l0_3) := ⟨_, rfl⟩
    replace H : (some (a0_0, y167, y173, y179)) = some (r1, r2, r3, r4) := by first | (rw [hy179]; with_reducible exact H) | (have H2_ := (Option.bind_some _ _).symm.trans H; rw [hy179]; with_reducible exact H2_) | (have H2_ := (Option.bind_some _ _).symm.trans H; with_reducible exact H2_) | with_reducible exact H | (rw [hy179]; exact H) | exact H
    have Ny179 := Aside0.mk hy179
    clear hy179
    simp only [Option.some.injEq, Prod.mk.injEq] at H
    obtain ⟨rfl, rfl, rfl, rfl⟩ := H
    go_enter Tryz.func42, Tryz.ntmps42
    go_wp2_with (first | ((with_reducible refine gate_dst (N := 1) rfl ?_); refine box_event ?hg (N := 1) ?hd (cs := #[.string a0_0, .slice A0_1 l0_1.length c0_1, .slice A0_2 l0_2.length c0_2, .slice A0_3 l0_3.length c0_3]) (t := 48) ?hr ?_; (case hd => rfl); (case hg => rfl); (case hr => first | (go_simp; done) | (go_simp; rfl)); intro gb162 hg w5 hbox hb; have n0_ := Aside0.mk (below_step HBa hb); have n1_ := Aside0.mk (hbox); have n2_ := Aside0.mk ((by rw [hg]; exact (below_size HBa) : w.heap.size ≤ gb162)); have n3_ := Aside0.mk ((by rw [hg]; exact (below_size HBa) : w.heap.size ≤ gb162)); clear HB; have HB := n0_; have BK162 := n1_; have GW162 := n2_; have GE162 := n3_; clear n0_ n1_ n2_ n3_; clear hb hbox hg) | ((with_reducible refine gate_dst (N := 2) rfl ?_); refine box_event ?hg (N := 2) ?hd (cs := #[.string (⟨#[]⟩ : ByteArray), .slice none 0 0, .slice none 0 0, .slice none 0 0]) (t := 48) ?hr ?_; (case hd => rfl); (case hg => rfl); (case hr => first | (go_simp; done) | (go_simp; rfl)); intro gb163 hg w6 hbox hb; have n0_ := Aside0.mk (blk_below (g := gb162) (o := .cells #[.string a0_0, .slice A0_1 l0_1.length c0_1, .slice A0_2 l0_2.length c0_2, .slice A0_3 l0_3.length c0_3] 48 (0, 0)) (BKz BK162) hb); have n1_ := Aside0.mk (below_step (HBb GE162) hb); have n2_ := Aside0.mk (hbox); have n3_ := Aside0.mk ((by rw [hg]; exact (below_size (HBb GE162)) : w.heap.size ≤ gb163)); have n4_ := Aside0.mk ((by rw [hg]; exact (below_size (HBb GE162)) : w.heap.size ≤ gb163)); have n5_ := Aside0.mk ((by rw [hg]; exact Nat.ne_of_lt (blk_lt (g := gb162) (o := .cells #[.string a0_0, .slice A0_1 l0_1.length c0_1, .slice A0_2 l0_2.length c0_2, .slice A0_3 l0_3.length c0_3] 48 (0, 0)) (BKz BK162)) : gb162 ≠ gb163)); have n6_ := Aside0.mk ((by rw [hg]; exact Nat.ne_of_gt (blk_lt (g := gb162) (o := .cells #[.string a0_0, .slice A0_1 l0_1.length c0_1, .slice A0_2 l0_2.length c0_2, .slice A0_3 l0_3.length c0_3] 48 (0, 0)) (BKz BK162)) : gb163 ≠ gb162)); clear BK162; clear HB; have BK162 := n0_; have HB := n1_; have BK163 := n2_; have GW163 := n3_; have GE163 := n4_; have NB162_163 := n5_; have NB163_162 := n6_; clear n0_ n1_ n2_ n3_ n4_ n5_ n6_; clear hb hbox hg) | ((with_reducible refine gate_dst (N := 3) rfl ?_); refine Kd.R_lit Kd.string _ 9 ?hg (N := 3) ?hd (xs := ([] : List ByteArray)) (inner := []) (ok := fun _ => True) (okp := fun _ => True) ?hr ?hp (fun _ hk => hk) trivial (Below.refl _ _) (Nat.le_refl _) (by simp) ?_; (case hd => rfl); (case hg => rfl); (case hr => first | (go_simp; done) | (go_simp; rfl)); (case hp => exact (Reps.none _ _)); intro v165 w7 ho8 hb hg_ hnew_; clear hg_ hnew_; (first | rw [← Ny164.out] at ho8 | (simp only [Int.reduceToNat] at ho8; rw [← Ny164.out] at ho8)); have n0_ := Aside0.mk (Kd.R_lower ho8 (below_size (HBc GE162 GE163))); have n1_ := Aside0.mk (blk_below (g := gb162) (o := .cells #[.string a0_0, .slice A0_1 l0_1.length c0_1, .slice A0_2 l0_2.length c0_2, .slice A0_3 l0_3.length c0_3] 48 (0, 0)) (BKz BK162) hb); have n2_ := Aside0.mk (blk_below (g := gb163) (o := .cells #[.string (⟨#[]⟩ : ByteArray), .slice none 0 0, .slice none 0 0, .slice none 0 0] 48 (0, 0)) (BKz BK163) hb); have n3_ := Aside0.mk (below_step (HBc GE162 GE163) hb); clear BK162; clear BK163; clear HB; have HO166 := n0_; have BK162 := n1_; have BK163 := n2_; have HB := n3_; clear n0_ n1_ n2_ n3_; clear hb ho8; have hnb9 := NB162_163.out; have hnc9 := NB163_162.out; have hcz10_0 : w7.cell? ⟨gb162, 0, none⟩ = some (.string a0_0) := (blk_cell BK162.out 0).trans rfl; have hcz10_1 : w7.cell? ⟨gb162, 1, none⟩ = some (.slice A0_1 l0_1.length c0_1) := (blk_cell BK162.out 1).trans rfl; have hcz10_2 : w7.cell? ⟨gb162, 2, none⟩ = some (.slice A0_2 l0_2.length c0_2) := (blk_cell BK162.out 2).trans rfl; have hcz10_3 : w7.cell? ⟨gb162, 3, none⟩ = some (.slice A0_3 l0_3.length c0_3) := (blk_cell BK162.out 3).trans rfl; have hfz10_0 := blk_frozen BK162.out 0; have hfz10_1 := blk_frozen BK162.out 1; have hfz10_2 := blk_frozen BK162.out 2; have hfz10_3 := blk_frozen BK162.out 3) | ((with_reducible refine gate_builtin (b := .append) (xs := #[.tmp 3, .tmp 5]) rfl ?_); at_builtin; refine Kd.R_append_rows Kd.string (w0 := w) w.heap.size rfl (.tmp 3) (.tmp 5) 43 9 (.string ⟨#[]⟩) 16 rfl Tryz.underlying43 info9 rfl (by decide) (by omega) v165 y164 l0_1 _ _ _ (fun _ => True) (fun _ => False) rfl rfl ?aO ?aR (fun _ _ h => h) (fun _ h => h.elim) ?aF ?aB ?aS ?aL ?_; (case aR => repeat (first | exact (Kd.C_below HR0_1.out HB.out) | (with_reducible refine Kd.C_alloc ?_ _) | (with_reducible refine Kd.C_drewN ?_ _) | (with_reducible refine Kd.C_drew ?_))); (case aB => exact (HBc GE162 GE163)); (case aF => exact (fun _ _ => trivial)); (case aO => exact (by (with_reducible repeat (first | apply Kd.R_alloc | apply Kd.R_drewN | apply Kd.R_drew)); exact HO166.out)); (case aS => exact (below_size (HBc GE162 GE163))); (case aL => have := LMc2.out; omega); intro v168 w11 ho hb hg hat; rw [← Ny167.out] at ho; have n0_ := Aside0.mk (blk_grown (g := gb162) (o := .cells #[.string a0_0, .slice A0_1 l0_1.length c0_1, .slice A0_2 l0_2.length c0_2, .slice A0_3 l0_3.length c0_3] 48 (0, 0)) (BKz BK162) hg (Kd.R_ne HO166.out BK162.out (by decide))); have n1_ := Aside0.mk (blk_grown (g := gb163) (o := .cells #[.string (⟨#[]⟩ : ByteArray), .slice none 0 0, .slice none 0 0, .slice none 0 0] 48 (0, 0)) (BKz BK163) hg (Kd.R_ne HO166.out BK163.out (by decide))); have n2_ := Aside0.mk (hb); have n3_ := Aside0.mk (ho); clear BK162; clear BK163; clear HB; clear HO166; have BK162 := n0_; have BK163 := n1_; have HB := n2_; have HO169 := n3_; clear n0_ n1_ n2_ n3_; clear ho hb hg hat; obtain ⟨Ao12, co12, eo12⟩ := Kd.R_slice HO169.out; subst eo12; have hcz13_0 : w11.cell? ⟨gb162, 0, none⟩ = some (.string a0_0) := (blk_cell BK162.out 0).trans rfl; have hcz13_1 : w11.cell? ⟨gb162, 1, none⟩ = some (.slice A0_1 l0_1.length c0_1) := (blk_cell BK162.out 1).trans rfl; have hcz13_2 : w11.cell? ⟨gb162, 2, none⟩ = some (.slice A0_2 l0_2.length c0_2) := (blk_cell BK162.out 2).trans rfl; have hcz13_3 : w11.cell? ⟨gb162, 3, none⟩ = some (.slice A0_3 l0_3.length c0_3) := (blk_cell BK162.out 3).trans rfl; have hfz13_0 := blk_frozen BK162.out 0; have hfz13_1 := blk_frozen BK162.out 1; have hfz13_2 := blk_frozen BK162.out 2; have hfz13_3 := blk_frozen BK162.out 3) | ((with_reducible refine gate_dst (N := 8) rfl ?_); refine Kd.R_lit Kd.string _ 9 ?hg (N := 8) ?hd (xs := ([] : List ByteArray)) (inner := []) (ok := fun _ => True) (okp := fun _ => True) ?hr ?hp (fun _ hk => hk) trivial (Below.refl _ _) (Nat.le_refl _) (by simp) ?_; (case hd => rfl); (case hg => rfl); (case hr => first | (go_simp; done) | (go_simp; rfl)); (case hp => exact (Reps.none _ _)); intro v171 w14 ho15 hb hg_ hnew_; clear hg_ hnew_; (first | rw [← Ny170.out] at ho15 | (simp only [Int.reduceToNat] at ho15; rw [← Ny170.out] at ho15)); have n0_ := Aside0.mk (Kd.R_elder' (by (with_reducible repeat (first | apply Kd.R_alloc | apply Kd.R_drewN | apply Kd.R_drew)); exact (Kd.R_mono (Kd.R_far (p := ⟨gb162, 1, none⟩) (Kd.R_types HO169.out BK162.out (by decide)) (fun _ hk => hk.2) (.slice Ao12 y167.length co12)) (fun _ h_ => h_.1))) (Kd.R_base ho15) hb); have n1_ := Aside0.mk (Kd.R_lower (Kd.R_new' ho15 (Kd.R_lt (by (with_reducible repeat (first | apply Kd.R_alloc | apply Kd.R_drewN | apply Kd.R_drew)); exact (Kd.R_mono (Kd.R_far (p := ⟨gb162, 1, none⟩) (Kd.R_types HO169.out BK162.out (by decide)) (fun _ hk => hk.2) (.slice Ao12 y167.length co12)) (fun _ h_ => h_.1))))) (below_size (HBc GE162 GE163))); have n2_ := Aside0.mk (blk_below (g := gb162) (o := .cells #[.string a0_0, .slice Ao12 y167.length co12, .slice A0_2 l0_2.length c0_2, .slice A0_3 l0_3.length c0_3] 48 (0, 0)) (by (with_reducible repeat (first | refine blk_drewN ?_ _ | refine blk_drew ?_ | refine blk_alloc ?_ _)); refine blk_put (cs := #[.string a0_0, .slice A0_1 l0_1.length c0_1, .slice A0_2 l0_2.length c0_2, .slice A0_3 l0_3.length c0_3]) ?_ 1 _ rfl; (with_reducible repeat (first | refine blk_drewN ?_ _ | refine blk_drew ?_ | refine blk_alloc ?_ _)); exact BK162.out) hb); have n3_ := Aside0.mk (blk_below (g := gb163) (o := .cells #[.string (⟨#[]⟩ : ByteArray), .slice none 0 0, .slice none 0 0, .slice none 0 0] 48 (0, 0)) (by (with_reducible repeat (first | refine blk_drewN ?_ _ | refine blk_drew ?_ | refine blk_alloc ?_ _)); refine blk_far ?_ NB163_162.out _; (with_reducible repeat (first | refine blk_drewN ?_ _ | refine blk_drew ?_ | refine blk_alloc ?_ _)); exact BK163.out) hb); have n4_ := Aside0.mk (below_step (HBc GE162 GE163) hb); clear HO169; clear BK162; clear BK163; clear HB; have HO169 := n0_; have HO172 := n1_; have BK162 := n2_; have BK163 := n3_; have HB := n4_; clear n0_ n1_ n2_ n3_ n4_; clear hb ho15; have hcz16_0 : w14.cell? ⟨gb162, 0, none⟩ = some (.string a0_0) := (blk_cell BK162.out 0).trans rfl; have hcz16_1 : w14.cell? ⟨gb162, 1, none⟩ = some (.slice Ao12 y167.length co12) := (blk_cell BK162.out 1).trans rfl; have hcz16_2 : w14.cell? ⟨gb162, 2, none⟩ = some (.slice A0_2 l0_2.length c0_2) := (blk_cell BK162.out 2).trans rfl; have hcz16_3 : w14.cell? ⟨gb162, 3, none⟩ = some (.slice A0_3 l0_3.length c0_3) := (blk_cell BK162.out 3).trans rfl; have hfz16_0 := blk_frozen BK162.out 0; have hfz16_1 := blk_frozen BK162.out 1; have hfz16_2 := blk_frozen BK162.out 2; have hfz16_3 := blk_frozen BK162.out 3) | ((with_reducible refine gate_builtin (b := .append) (xs := #[.tmp 8, .tmp 10]) rfl ?_); at_builtin; refine Kd.R_append_rows Kd.string (w0 := w) w.heap.size rfl (.tmp 8) (.tmp 10) 43 9 (.string ⟨#[]⟩) 16 rfl Tryz.underlying43 info9 rfl (by decide) (by omega) v171 y170 l0_2 _ _ _ (fun k_ => some k_ ≠ (.slice Ao12 y167.length co12 : Value).ownBlock) (fun _ => False) rfl rfl ?aO ?aR (fun _ _ h => h) (fun _ h => h.elim) ?aF ?aB ?aS ?aL ?_; (case aR => repeat (first | exact (Kd.C_below HR0_2.out HB.out) | (with_reducible refine Kd.C_alloc ?_ _) | (with_reducible refine Kd.C_drewN ?_ _) | (with_reducible refine Kd.C_drew ?_))); (case aB => exact (HBc GE162 GE163)); (case aF => exact (fun k_ hk => Kd.fresh' (Kd.R_lt (by (with_reducible repeat (first | apply Kd.R_alloc | apply Kd.R_drewN | apply Kd.R_drew)); exact HO169.out)) k_ hk)); (case aO => exact (by (with_reducible repeat (first | apply Kd.R_alloc | apply Kd.R_drewN | apply Kd.R_drew)); exact Kd.R_mono HO172.out (fun _ hk => hk.2))); (case aS => exact (below_size (HBc GE162 GE163))); (case aL => have := LMc3.out; omega); intro v174 w17 ho hb hg hat; rw [← Ny173.out] at ho; have n0_ := Aside0.mk (blk_grown (g := gb162) (o := .cells #[.string a0_0, .slice Ao12 y167.length co12, .slice A0_2 l0_2.length c0_2, .slice A0_3 l0_3.length c0_3] 48 (0, 0)) (BKz BK162) hg (Kd.R_ne HO172.out BK162.out (by decide))); have n1_ := Aside0.mk (blk_grown (g := gb163) (o := .cells #[.string (⟨#[]⟩ : ByteArray), .slice none 0 0, .slice none 0 0, .slice none 0 0] 48 (0, 0)) (BKz BK163) hg (Kd.R_ne HO172.out BK163.out (by decide))); have n2_ := Aside0.mk (Kd.R_after (ok := (fun _ => True)) (by (with_reducible repeat (first | apply Kd.R_alloc | apply Kd.R_drewN | apply Kd.R_drew)); exact HO169.out) hg hat); have n3_ := Aside0.mk (hb); have n4_ := Aside0.mk (ho); clear BK162; clear BK163; clear HO169; clear HB; clear HO172; have BK162 := n0_; have BK163 := n1_; have HO169 := n2_; have HB := n3_; have HO175 := n4_; clear n0_ n1_ n2_ n3_ n4_; clear ho hb hg hat; obtain ⟨Ao18, co18, eo18⟩ := Kd.R_slice HO175.out; subst eo18; have hcz19_0 : w17.cell? ⟨gb162, 0, none⟩ = some (.string a0_0) := (blk_cell BK162.out 0).trans rfl; have hcz19_1 : w17.cell? ⟨gb162, 1, none⟩ = some (.slice Ao12 y167.length co12) := (blk_cell BK162.out 1).trans rfl; have hcz19_2 : w17.cell? ⟨gb162, 2, none⟩ = some (.slice A0_2 l0_2.length c0_2) := (blk_cell BK162.out 2).trans rfl; have hcz19_3 : w17.cell? ⟨gb162, 3, none⟩ = some (.slice A0_3 l0_3.length c0_3) := (blk_cell BK162.out 3).trans rfl; have hfz19_0 := blk_frozen BK162.out 0; have hfz19_1 := blk_frozen BK162.out 1; have hfz19_2 := blk_frozen BK162.out 2; have hfz19_3 := blk_frozen BK162.out 3) | ((with_reducible refine gate_dst (N := 13) rfl ?_); refine Kd.R_lit Kd.string _ 9 ?hg (N := 13) ?hd (xs := ([] : List ByteArray)) (inner := []) (ok := fun _ => True) (okp := fun _ => True) ?hr ?hp (fun _ hk => hk) trivial (Below.refl _ _) (Nat.le_refl _) (by simp) ?_; (case hd => rfl); (case hg => rfl); (case hr => first | (go_simp; done) | (go_simp; rfl)); (case hp => exact (Reps.none _ _)); intro v177 w20 ho21 hb hg_ hnew_; clear hg_ hnew_; (first | rw [← Ny176.out] at ho21 | (simp only [Int.reduceToNat] at ho21; rw [← Ny176.out] at ho21)); have n0_ := Aside0.mk (Kd.R_elder' (by (with_reducible repeat (first | apply Kd.R_alloc | apply Kd.R_drewN | apply Kd.R_drew)); exact (Kd.R_mono (Kd.R_far (p := ⟨gb162, 2, none⟩) (Kd.R_types HO169.out BK162.out (by decide)) (fun _ hk => hk.2) (.slice Ao18 y173.length co18)) (fun _ h_ => h_.1))) (Kd.R_base ho21) hb); have n1_ := Aside0.mk (Kd.R_elder' (by (with_reducible repeat (first | apply Kd.R_alloc | apply Kd.R_drewN | apply Kd.R_drew)); exact (Kd.R_mono (Kd.R_far (p := ⟨gb162, 2, none⟩) (Kd.R_types HO175.out BK162.out (by decide)) (fun _ hk => hk.2) (.slice Ao18 y173.length co18)) (fun _ h_ => h_.1))) (Kd.R_base ho21) hb); have n2_ := Aside0.mk (Kd.R_lower (Kd.R_new' (Kd.R_new' ho21 (Kd.R_lt (by (with_reducible repeat (first | apply Kd.R_alloc | apply Kd.R_drewN | apply Kd.R_drew)); exact (Kd.R_mono (Kd.R_far (p := ⟨gb162, 2, none⟩) (Kd.R_types HO169.out BK162.out (by decide)) (fun _ hk => hk.2) (.slice Ao18 y173.length co18)) (fun _ h_ => h_.1))))) (Kd.R_lt (by (with_reducible repeat (first | apply Kd.R_alloc | apply Kd.R_drewN | apply Kd.R_drew)); exact (Kd.R_mono (Kd.R_far (p := ⟨gb162, 2, none⟩) (Kd.R_types HO175.out BK162.out (by decide)) (fun _ hk => hk.2) (.slice Ao18 y173.length co18)) (fun _ h_ => h_.1))))) (below_size (HBc GE162 GE163))); have n3_ := Aside0.mk (blk_below (g := gb162) (o := .cells #[.string a0_0, .slice Ao12 y167.length co12, .slice Ao18 y173.length co18, .slice A0_3 l0_3.length c0_3] 48 (0, 0)) (by (with_reducible repeat (first | refine blk_drewN ?_ _ | refine blk_drew ?_ | refine blk_alloc ?_ _)); refine blk_put (cs := #[.string a0_0, .slice Ao12 y167.length co12, .slice A0_2 l0_2.length c0_2, .slice A0_3 l0_3.length c0_3]) ?_ 2 _ rfl; (with_reducible repeat (first | refine blk_drewN ?_ _ | refine blk_drew ?_ | refine blk_alloc ?_ _)); exact BK162.out) hb); have n4_ := Aside0.mk (blk_below (g := gb163) (o := .cells #[.string (⟨#[]⟩ : ByteArray), .slice none 0 0, .slice none 0 0, .slice none 0 0] 48 (0, 0)) (by (with_reducible repeat (first | refine blk_drewN ?_ _ | refine blk_drew ?_ | refine blk_alloc ?_ _)); refine blk_far ?_ NB163_162.out _; (with_reducible repeat (first | refine blk_drewN ?_ _ | refine blk_drew ?_ | refine blk_alloc ?_ _)); exact BK163.out) hb); have n5_ := Aside0.mk (below_step (HBc GE162 GE163) hb); clear HO169; clear HO175; clear BK162; clear BK163; clear HB; have HO169 := n0_; have HO175 := n1_; have HO178 := n2_; have BK162 := n3_; have BK163 := n4_; have HB := n5_; clear n0_ n1_ n2_ n3_ n4_ n5_; clear hb ho21; have hcz22_0 : w20.cell? ⟨gb162, 0, none⟩ = some (.string a0_0) := (blk_cell BK162.out 0).trans rfl; have hcz22_1 : w20.cell? ⟨gb162, 1, none⟩ = some (.slice Ao12 y167.length co12) := (blk_cell BK162.out 1).trans rfl; have hcz22_2 : w20.cell? ⟨gb162, 2, none⟩ = some (.slice Ao18 y173.length co18) := (blk_cell BK162.out 2).trans rfl; have hcz22_3 : w20.cell? ⟨gb162, 3, none⟩ = some (.slice A0_3 l0_3.length c0_3) := (blk_cell BK162.out 3).trans rfl; have hfz22_0 := blk_frozen BK162.out 0; have hfz22_1 := blk_frozen BK162.out 1; have hfz22_2 := blk_frozen BK162.out 2; have hfz22_3 := blk_frozen BK162.out 3) | ((with_reducible refine gate_builtin (b := .append) (xs := #[.tmp 13, .tmp 15]) rfl ?_); at_builtin; refine Kd.R_append_rows Kd.string (w0 := w) w.heap.size rfl (.tmp 13) (.tmp 15) 43 9 (.string ⟨#[]⟩) 16 rfl Tryz.underlying43 info9 rfl (by decide) (by omega) v177 y176 l0_3 _ _ _ (fun k_ => some k_ ≠ (.slice Ao12 y167.length co12 : Value).ownBlock ∧ some k_ ≠ (.slice Ao18 y173.length co18 : Value).ownBlock) (fun _ => False) rfl rfl ?aO ?aR (fun _ _ h => h) (fun _ h => h.elim) ?aF ?aB ?aS ?aL ?_; (case aR => repeat (first | exact (Kd.C_below HR0_3.out HB.out) | (with_reducible refine Kd.C_alloc ?_ _) | (with_reducible refine Kd.C_drewN ?_ _) | (with_reducible refine Kd.C_drew ?_))); (case aB => exact (HBc GE162 GE163)); (case aF => exact (fun k_ hk => ⟨Kd.fresh' (Kd.R_lt (by (with_reducible repeat (first | apply Kd.R_alloc | apply Kd.R_drewN | apply Kd.R_drew)); exact HO169.out)) k_ hk, Kd.fresh' (Kd.R_lt (by (with_reducible repeat (first | apply Kd.R_alloc | apply Kd.R_drewN | apply Kd.R_drew)); exact HO175.out)) k_ hk⟩)); (case aO => exact (by (with_reducible repeat (first | apply Kd.R_alloc | apply Kd.R_drewN | apply Kd.R_drew)); exact Kd.R_mono HO178.out (fun _ hk => ⟨hk.1.2, hk.2⟩))); (case aS => exact (below_size (HBc GE162 GE163))); (case aL => have := LMc4.out; omega); intro v180 w23 ho hb hg hat; rw [← Ny179.out] at ho; have n0_ := Aside0.mk (blk_grown (g := gb162) (o := .cells #[.string a0_0, .slice Ao12 y167.length co12, .slice Ao18 y173.length co18, .slice A0_3 l0_3.length c0_3] 48 (0, 0)) (BKz BK162) hg (Kd.R_ne HO178.out BK162.out (by decide))); have n1_ := Aside0.mk (blk_grown (g := gb163) (o := .cells #[.string (⟨#[]⟩ : ByteArray), .slice none 0 0, .slice none 0 0, .slice none 0 0] 48 (0, 0)) (BKz BK163) hg (Kd.R_ne HO178.out BK163.out (by decide))); have n2_ := Aside0.mk (Kd.R_after (ok := (fun k_ => some k_ ≠ (.slice Ao18 y173.length co18 : Value).ownBlock)) (by (with_reducible repeat (first | apply Kd.R_alloc | apply Kd.R_drewN | apply Kd.R_drew)); exact Kd.R_mono HO169.out (fun _ hk => ⟨hk.1.2, hk.2⟩)) hg hat); have n3_ := Aside0.mk (Kd.R_after (ok := (fun k_ => some k_ ≠ (.slice Ao12 y167.length co12 : Value).ownBlock)) (by (with_reducible repeat (first | apply Kd.R_alloc | apply Kd.R_drewN | apply Kd.R_drew)); exact HO175.out) hg hat); have n4_ := Aside0.mk (hb); have n5_ := Aside0.mk (ho); clear BK162; clear BK163; clear HO169; clear HO175; clear HB; clear HO178; have BK162 := n0_; have BK163 := n1_; have HO169 := n2_; have HO175 := n3_; have HB := n4_; have HO181 := n5_; clear n0_ n1_ n2_ n3_ n4_ n5_; clear ho hb hg hat; obtain ⟨Ao24, co24, eo24⟩ := Kd.R_slice HO181.out; subst eo24; have hcz25_0 : w23.cell? ⟨gb162, 0, none⟩ = some (.string a0_0) := (blk_cell BK162.out 0).trans rfl; have hcz25_1 : w23.cell? ⟨gb162, 1, none⟩ = some (.slice Ao12 y167.length co12) := (blk_cell BK162.out 1).trans rfl; have hcz25_2 : w23.cell? ⟨gb162, 2, none⟩ = some (.slice Ao18 y173.length co18) := (blk_cell BK162.out 2).trans rfl; have hcz25_3 : w23.cell? ⟨gb162, 3, none⟩ = some (.slice A0_3 l0_3.length c0_3) := (blk_cell BK162.out 3).trans rfl; have hfz25_0 := blk_frozen BK162.out 0; have hfz25_1 := blk_frozen BK162.out 1; have hfz25_2 := blk_frozen BK162.out 2; have hfz25_3 := blk_frozen BK162.out 3; have hcz26_0 : w23.cell? ⟨gb163, 0, none⟩ = some (.string (⟨#[]⟩ : ByteArray)) := (blk_cell BK163.out 0).trans rfl; have hcz26_1 : w23.cell? ⟨gb163, 1, none⟩ = some (.slice none 0 0) := (blk_cell BK163.out 1).trans rfl; have hcz26_2 : w23.cell? ⟨gb163, 2, none⟩ = some (.slice none 0 0) := (blk_cell BK163.out 2).trans rfl; have hcz26_3 : w23.cell? ⟨gb163, 3, none⟩ = some (.slice none 0 0) := (blk_cell BK163.out 3).trans rfl; have hfz26_0 := blk_frozen BK163.out 0; have hfz26_1 := blk_frozen BK163.out 1; have hfz26_2 := blk_frozen BK163.out 2; have hfz26_3 := blk_frozen BK163.out 3))
    refine bodyPost_ret (results_cell_row rfl _ _ gb163 48 #[.string a0_0, .slice Ao12 y167.length co12, .slice Ao18 y173.length co18, .slice Ao24 y179.length co24] (0, 0) _ rfl (by (with_reducible repeat (first | refine blk_drewN ?_ _ | refine blk_drew ?_ | refine blk_alloc ?_ _)); refine blk_put (cs := #[.string a0_0, .slice Ao12 y167.length co12, .slice Ao18 y173.length co18, .slice none 0 0]) ?_ 3 _ rfl; (with_reducible repeat (first | refine blk_drewN ?_ _ | refine blk_drew ?_ | refine blk_alloc ?_ _)); refine blk_put (cs := #[.string a0_0, .slice Ao12 y167.length co12, .slice none 0 0, .slice none 0 0]) ?_ 2 _ rfl; (with_reducible repeat (first | refine blk_drewN ?_ _ | refine blk_drew ?_ | refine blk_alloc ?_ _)); refine blk_put (cs := #[.string a0_0, .slice none 0 0, .slice none 0 0, .slice none 0 0]) ?_ 1 _ rfl; (with_reducible repeat (first | refine blk_drewN ?_ _ | refine blk_drew ?_ | refine blk_alloc ?_ _)); refine blk_put (cs := #[.string (⟨#[]⟩ : ByteArray), .slice none 0 0, .slice none 0 0, .slice none 0 0]) ?_ 0 _ rfl; (with_reducible repeat (first | refine blk_drewN ?_ _ | refine blk_drew ?_ | refine blk_alloc ?_ _)); refine blk_far ?_ NB163_162.out _; (with_reducible repeat (first | refine blk_drewN ?_ _ | refine blk_drew ?_ | refine blk_alloc ?_ _)); exact BK163.out) Tryz.underlying48 rfl (by kernel_rfl)) rfl ?_
    exact ⟨_, _, _, EZa, by (with_reducible repeat (first | apply Kd.R_alloc | apply Kd.R_drewN | apply Kd.R_drew)); exact Kd.R_mono (Kd.R_far (p := ⟨gb163, 3, none⟩) (Kd.R_far (p := ⟨gb163, 2, none⟩) (Kd.R_far (p := ⟨gb163, 1, none⟩) (Kd.R_far (p := ⟨gb163, 0, none⟩) (Kd.R_far (p := ⟨gb162, 3, none⟩) (Kd.R_types (Kd.R_types HO169.out BK162.out (by decide)) BK163.out (by decide)) (fun _ hk => hk.1.2) (.slice Ao24 y179.length co24)) (fun _ hk => hk.2) (.string a0_0)) (fun _ hk => hk.2) (.slice Ao12 y167.length co12)) (fun _ hk => hk.2) (.slice Ao18 y173.length co18)) (fun _ hk => hk.2) (.slice Ao24 y179.length co24)) (fun _ hk => ⟨hk.1.1.1, hk.1.1.2⟩), by (with_reducible repeat (first | apply Kd.R_alloc | apply Kd.R_drewN | apply Kd.R_drew)); exact Kd.R_mono (Kd.R_far (p := ⟨gb163, 3, none⟩) (Kd.R_far (p := ⟨gb163, 2, none⟩) (Kd.R_far (p := ⟨gb163, 1, none⟩) (Kd.R_far (p := ⟨gb163, 0, none⟩) (Kd.R_far (p := ⟨gb162, 3, none⟩) (Kd.R_types (Kd.R_types HO175.out BK162.out (by decide)) BK163.out (by decide)) (fun _ hk => hk.1.2) (.slice Ao24 y179.length co24)) (fun _ hk => hk.2) (.string a0_0)) (fun _ hk => hk.2) (.slice Ao12 y167.length co12)) (fun _ hk => hk.2) (.slice Ao18 y173.length co18)) (fun _ hk => hk.2) (.slice Ao24 y179.length co24)) (fun _ hk => ⟨hk.1.1.1, hk.1.1.2⟩), by (with_reducible repeat (first | apply Kd.R_alloc | apply Kd.R_drewN | apply Kd.R_drew)); exact Kd.R_mono (Kd.R_far (p := ⟨gb163, 3, none⟩) (Kd.R_far (p := ⟨gb163, 2, none⟩) (Kd.R_far (p := ⟨gb163, 1, none⟩) (Kd.R_far (p := ⟨gb163, 0, none⟩) (Kd.R_far (p := ⟨gb162, 3, none⟩) (Kd.R_types (Kd.R_types HO181.out BK162.out (by decide)) BK163.out (by decide)) (fun _ hk => hk.1.2) (.slice Ao24 y179.length co24)) (fun _ hk => hk.2) (.string a0_0)) (fun _ hk => hk.2) (.slice Ao12 y167.length co12)) (fun _ hk => hk.2) (.slice Ao18 y173.length co18)) (fun _ hk => hk.2) (.slice Ao24 y179.length co24)) (fun _ hk => ⟨hk.1.1.1, hk.1.1.2⟩), HBc GE162 GE163⟩
   ·rw [if_neg c4] at H
    exact absurd H (by simp)
  ·rw [if_neg c3] at H
   exact absurd H (by simp)
 ·rw [if_neg c2] at H
  exact absurd H (by simp)
def spec_l07Schema.l0 : Nat → List (S48) → List (S48) → Int → Option ((List (S48)))
 | 0, _, _, _ => none
 | k + 1, x0, x3, x4 => if x4 < (x0.length : Int) then (if 0 ≤ x4 then ((spec_l05Copy.f ((rd_T48 x0 x4).f0) ((rd_T48 x0 x4).f1) ((rd_T48 x0 x4).f2) ((rd_T48 x0 x4).f3)).bind fun bt186 => (if x3.length < 1599289640401 then (spec_l07Schema.l0 k x0 (x3 ++ [(⟨bt186.1, bt186.2.1, bt186.2.2.1, bt186.2.2.2⟩ : S48)]) (wrap64 (x4 + 1))) else (none))) else (none)) else (some x3)
def spec_l07Schema.f (k : Nat) (l0 : List (S48)) : Option ((List (S48))) := spec_l07Schema.l0 k l0 (([] : List (S48))) 0
theorem spec_l07Schema.mono_l : ∀ k, (∀ y0 y1 y2, LeO (spec_l07Schema.l0 k y0 y1 y2) (spec_l07Schema.l0 (k + 1) y0 y1 y2))
 | 0 => fun _ _ _ r h => by simp [spec_l07Schema.l0] at h
 | k + 1 => by
  have ih0 := spec_l07Schema.mono_l k
  ·intro y0 y1 y2
   unfold spec_l07Schema.l0
   repeat' first
   | (with_reducible exact ih0 _ _ _)
   | (with_reducible exact LeO.refl _)
   | (with_reducible exact LeO.none _)
   | (with_reducible refine LeO.ite ?_ ?_)
   | (with_reducible refine LeO.bind ?_ (fun _ => ?_))
   | exact ih0 _ _ _
   | exact LeO.none _
   | refine LeO.ite ?_ ?_
   | refine LeO.bind ?_ (fun _ => ?_)
theorem spec_l07Schema.mono : ∀ a0 k, LeO (spec_l07Schema.f k a0) (spec_l07Schema.f (k + 1) a0) := by
 intro a0 k
 have ih0 := spec_l07Schema.mono_l k
 unfold spec_l07Schema.f
 repeat' first
   | (with_reducible exact ih0 _ _ _)
   | (with_reducible exact LeO.refl _)
   | (with_reducible exact LeO.none _)
   | (with_reducible refine LeO.ite ?_ ?_)
   | (with_reducible refine LeO.bind ?_ (fun _ => ?_))
   | exact ih0 _ _ _
   | exact LeO.none _
   | refine LeO.ite ?_ ?_
   | refine LeO.bind ?_ (fun _ => ?_)
set_option maxHeartbeats 8000000 in
set_option maxRecDepth 100000 in
theorem spec_l07Schema.calls (k : Nat) (A0 : Option Addr) (c0 : Nat) (l0 : List (S48)) (r : List (S48)) (w : World) (hr0 : Kd.C k48 w A0 l0.length l0) (hc0 : l0.length ≤ c0) (h : spec_l07Schema.f k l0 = some r) :
  Calls Tryz.prog 21 #[.slice A0 l0.length c0] w fun e w' => ∃ v0_ : Value, e = .returned (v0_) ∧ Kd.S k48 48 w' w.heap.size (fun _ => True) v0_ r ∧ Below w.heap.size w w' := by
 have hu48 := Tryz.underlying48
 have HR0 := Aside0.mk hr0
 have HC0 := Aside0.mk hc0
 clear hr0 hc0
 have HB := Aside0.mk (Below.refl w.heap.size w)
 have H : (spec_l07Schema.l0 k l0 (([] : List (S48))) 0) = some r := h
 clear h
 obtain ⟨y182, hy182⟩ : ∃ y_ : List (S48), y_ = (([] : List (S48))) := ⟨_, rfl⟩
 replace H : (spec_l07Schema.l0 k l0 y182 0) = some r := by first | (rw [hy182]; with_reducible exact H) | (have H2_ := (Option.bind_some _ _).symm.trans H; rw [hy182]; with_reducible exact H2_) | (have H2_ := (Option.bind_some _ _).symm.trans H; with_reducible exact H2_) | with_reducible exact H | (rw [hy182]; exact H) | exact H
 have Ny182 := Aside0.mk hy182
 clear hy182
 have H' := Aside0.mk H
 clear H
 go_enter Tryz.func21, Tryz.ntmps21
 go_wp2_with (first | ((with_reducible refine gate_dst (N := 5) rfl ?_); refine Kd.S_lit k48 _ 48 ?hg (N := 5) ?hd (xs := ([] : List (S48))) (inner := []) (ok := fun _ => True) (okp := fun _ => True) ?hr ?hp (fun _ hk => hk) trivial (Below.refl _ _) (Nat.le_refl _) (by simp) ?_; (case hd => rfl); (case hg => rfl); (case hr => first | (go_simp; done) | (go_simp; rfl)); (case hp => exact (Reps.none _ _)); intro v183 w2 ho3 hb hg_ hnew_; clear hg_ hnew_; (first | rw [← Ny182.out] at ho3 | (simp only [Int.reduceToNat] at ho3; rw [← Ny182.out] at ho3)); have n0_ := Aside0.mk (Kd.S_lower ho3 (below_size HBa)); have n1_ := Aside0.mk (below_step HBa hb); clear HB; have HO184 := n0_; have HB := n1_; clear n0_ n1_; clear hb ho3))
 go_loopg [3, 4] k (fun kq v3 v4 w' => ∃ (x3_1 : List (S48)) (x4_1 : Int), v4 = .int .i64 x4_1 ∧ Aside0 (spec_l07Schema.l0 kq l0 x3_1 x4_1 = some r) ∧ Aside0 (kq ≤ k) ∧ Aside0 (Kd.S k48 48 w' w.heap.size (fun _ => True) v3 x3_1) ∧ Aside0 (Below w.heap.size w w'))
 case atStart => exact ⟨(y182), (0), EZc, H', ⟨Nat.le_refl _⟩, ⟨by (with_reducible repeat (first | apply Kd.S_alloc | apply Kd.S_drewN | apply Kd.S_drew)); exact HO184.out⟩, ⟨HBa⟩⟩
 case round =>
  clear H'
  try clear c2
  try clear p2
  obtain ⟨x3_1, x4_1, rfl, HA, HK1, HO_3, HB⟩ := hrel
  cases gk with
  | zero => exact absurd HA.out (by simp [spec_l07Schema.l0])
  | succ k1 =>
   have H := HA.out
   clear HA
   simp only [spec_l07Schema.l0] at H
   by_cases c4 : x4_1 < (l0.length : Int)
   ·rw [if_pos c4] at H
    have c4b0 : decide (x4_1 < (l0.length : Int)) = true := decide_eq_true c4
    clear c4
    by_cases c5 : 0 ≤ x4_1
    ·rw [if_pos c5] at H
     have c5b0 : decide (0 ≤ x4_1) = true := decide_eq_true c5
     clear c5
     replace H := Option.bind_eq_some_iff.mp H
     obtain ⟨⟨t186, t187, t190, t193⟩, A60, H⟩ := H
     replace H : (if x3_1.length < 1599289640401 then (spec_l07Schema.l0 k1 l0 (x3_1 ++ [(⟨t186, t187, t190, t193⟩ : S48)]) (wrap64 (x4_1 + 1))) else (none)) = some r := H
     have A6 := Aside0.mk A60
     clear A60
     by_cases c7 : x3_1.length < 1599289640401
     ·rw [if_pos c7] at H
      have LMc7 := Aside0.mk c7
      clear c7
      obtain ⟨y196, hy196⟩ : ∃ y_ : List (S48), y_ = (x3_1 ++ [(⟨t186, t187, t190, t193⟩ : S48)]) := ⟨_, rfl⟩
      replace H : (spec_l07Schema.l0 k1 l0 y196 (wrap64 (x4_1 + 1))) = some r := by first | (rw [hy196]; with_reducible exact H) | (have H2_ := (Option.bind_some _ _).symm.trans H; rw [hy196]; with_reducible exact H2_) | (have H2_ := (Option.bind_some _ _).symm.trans H; with_reducible exact H2_) | with_reducible exact H | (rw [hy196]; exact H) | exact H
      have Ny196 := Aside0.mk hy196
      clear hy196
      have H' := Aside0.mk H
      clear H
      have p185 : 0 ≤ (x4_1 : Int) := ODz
      have q185 : x4_1 < (l0.length : Int) := ODz
      obtain ⟨ad185, A185_1, c185_1, A185_2, c185_2, A185_3, c185_3, e185, hx185_0, hx185_1, hx185_2, hx185_3, hl185_1, hi185_1, hl185_2, hi185_2, hl185_3, hi185_3⟩ := at_T48 HR0.out x4_1 p185 q185
      cases e185
      replace hx185_0 := (HB.out.cell (World.block_lt_of_cell? w _ hx185_0)).trans hx185_0
      replace hx185_1 := (HB.out.cell (World.block_lt_of_cell? w _ hx185_1)).trans hx185_1
      replace hx185_2 := (HB.out.cell (World.block_lt_of_cell? w _ hx185_2)).trans hx185_2
      replace hx185_3 := (HB.out.cell (World.block_lt_of_cell? w _ hx185_3)).trans hx185_3
      have HR185_1 := Aside0.mk hi185_1
      have HC185_1 := Aside0.mk hl185_1
      clear hi185_1 hl185_1
      have HR185_2 := Aside0.mk hi185_2
      have HC185_2 := Aside0.mk hl185_2
      clear hi185_2 hl185_2
      have HR185_3 := Aside0.mk hi185_3
      have HC185_3 := Aside0.mk hl185_3
      clear hi185_3 hl185_3
      replace p185 := eq_true p185
      replace q185 := eq_true q185
      go_wp2_with (first | ((with_reducible refine gate_callee (f := 42) rfl ?_); refine goesL_ (some 17) rfl rfl Tryz.func42 (by kernel_rfl) rfl #[.agg #[.string ((rd_T48 l0 x4_1).f0), .slice A185_1 ((rd_T48 l0 x4_1).f1).length c185_1, .slice A185_2 ((rd_T48 l0 x4_1).f2).length c185_2, .slice A185_3 ((rd_T48 l0 x4_1).f3).length c185_3]] rfl MPz ?_; (with_reducible refine (spec_l05Copy.calls ((rd_T48 l0 x4_1).f0) _ _ ((rd_T48 l0 x4_1).f1) _ _ ((rd_T48 l0 x4_1).f2) _ _ ((rd_T48 l0 x4_1).f3) t186 t187 t190 t193 _ ?side1 ?side2 ?side3 ?side4 ?side5 ?side6 A6.out).mono ?_); (case side1 => repeat (first | exact (Kd.C_below HR185_1.out HB.out) | (with_reducible refine Kd.C_alloc ?_ _) | (with_reducible refine Kd.C_drewN ?_ _) | (with_reducible refine Kd.C_drew ?_))); (case side2 => exact HC185_1.out); (case side3 => repeat (first | exact (Kd.C_below HR185_2.out HB.out) | (with_reducible refine Kd.C_alloc ?_ _) | (with_reducible refine Kd.C_drewN ?_ _) | (with_reducible refine Kd.C_drew ?_))); (case side4 => exact HC185_2.out); (case side5 => repeat (first | exact (Kd.C_below HR185_3.out HB.out) | (with_reducible refine Kd.C_alloc ?_ _) | (with_reducible refine Kd.C_drewN ?_ _) | (with_reducible refine Kd.C_drew ?_))); (case side6 => exact HC185_3.out); rintro e w8 ⟨v188, v191, v194, rfl, ho0, ho1, ho2, hb⟩; refine ⟨_, rfl, ?_⟩; have n0_ := Aside0.mk (Kd.S_mono (Kd.S_told (Kd.S_told (Kd.S_told (Kd.S_old (by (with_reducible repeat (first | apply Kd.S_alloc | apply Kd.S_drewN | apply Kd.S_drew)); exact HO_3.out) hb) (Kd.R_base ho0)) (Kd.R_base ho1)) (Kd.R_base ho2)) (fun _ h_ => h_.1)); have n1_ := Aside0.mk (Kd.R_lower ho0 (below_size HBa)); have n2_ := Aside0.mk (Kd.R_lower ho1 (below_size HBa)); have n3_ := Aside0.mk (Kd.R_lower ho2 (below_size HBa)); have n4_ := Aside0.mk (below_step HBa hb); clear HO_3; clear HB; have HO_3 := n0_; have HO189 := n1_; have HO192 := n2_; have HO195 := n3_; have HB := n4_; clear n0_ n1_ n2_ n3_ n4_; (try clear hb); (try clear hb2); (try clear hk); (try clear hi); (try clear ho0); (try clear ho1); (try clear ho2); obtain ⟨Ao10, co10, eo10⟩ := Kd.R_slice HO189.out; subst eo10; obtain ⟨Ao11, co11, eo11⟩ := Kd.R_slice HO192.out; subst eo11; obtain ⟨Ao12, co12, eo12⟩ := Kd.R_slice HO195.out; subst eo12) | ((with_reducible refine gate_builtin (b := .append) (xs := #[.tmp 12, .tmp 18]) rfl ?_); at_builtin; refine Kd.S_append k48 (w0 := w) w.heap.size rfl (.tmp 12) (.tmp 18) 24 48 (.agg #[(.string ⟨#[]⟩), (.slice none 0 0), (.slice none 0 0), (.slice none 0 0)]) 88 rfl Tryz.underlying24 info48 rfl (by decide) (by omega) u3 x3_1 (⟨t186, t187, t190, t193⟩ : S48) [.string t186, .slice Ao10 t187.length co10, .slice Ao11 t190.length co11, .slice Ao12 t193.length co12] (fun _ => True) (fun k_ => some k_ = (.slice Ao10 t187.length co10 : Value).ownBlock ∨ some k_ = (.slice Ao11 t190.length co11 : Value).ownBlock ∨ some k_ = (.slice Ao12 t193.length co12 : Value).ownBlock) rfl rfl ?aP (fun k_ hk_ => hk_.elim (fun h_ => ((Kd.R_mono (ok' := fun k_ => ((fun _ => True)) k_ ∧ some k_ ≠ (u3 : Value).ownBlock) (Kd.R_apart' (HO189.out) (Kd.S_typed HO_3.out) (by decide)) (fun k_ hk => ⟨trivial, hk.2⟩))).1 k_ h_.symm) (fun h_ => h_.elim (fun h_ => ((Kd.R_mono (ok' := fun k_ => ((fun _ => True)) k_ ∧ some k_ ≠ (u3 : Value).ownBlock) (Kd.R_apart' (HO192.out) (Kd.S_typed HO_3.out) (by decide)) (fun k_ hk => ⟨trivial, hk.2⟩))).1 k_ h_.symm) (fun h_ => ((Kd.R_mono (ok' := fun k_ => ((fun _ => True)) k_ ∧ some k_ ≠ (u3 : Value).ownBlock) (Kd.R_apart' (HO195.out) (Kd.S_typed HO_3.out) (by decide)) (fun k_ hk => ⟨trivial, hk.2⟩))).1 k_ h_.symm))) ?aF ?aO ?aB ?aS ?aL ?_; (case aP => exact k48_mkM _ _ _ (⟨t186, t187, t190, t193⟩ : S48) (Kd.R_mono (Kd.R_tight rfl (Kd.R_mono (ok' := fun k_ => ((fun _ => True)) k_ ∧ some k_ ≠ (u3 : Value).ownBlock) (Kd.R_apart' (HO189.out) (Kd.S_typed HO_3.out) (by decide)) (fun k_ hk => ⟨trivial, hk.2⟩))) (fun _ h_ => Or.inl h_)) (Kd.R_mono (Kd.R_tight rfl (Kd.R_mono (ok' := fun k_ => ((fun _ => True)) k_ ∧ some k_ ≠ (u3 : Value).ownBlock) (Kd.R_apart' (HO192.out) (Kd.S_typed HO_3.out) (by decide)) (fun k_ hk => ⟨trivial, hk.2⟩))) (fun _ h_ => Or.inr (Or.inl h_))) (Kd.R_mono (Kd.R_tight rfl (Kd.R_mono (ok' := fun k_ => ((fun _ => True)) k_ ∧ some k_ ≠ (u3 : Value).ownBlock) (Kd.R_apart' (HO195.out) (Kd.S_typed HO_3.out) (by decide)) (fun k_ hk => ⟨trivial, hk.2⟩))) (fun _ h_ => Or.inr (Or.inr (h_))))); (case aB => exact HBa); (case aF => exact (fun _ _ => trivial)); (case aO => exact (by (with_reducible repeat (first | apply Kd.S_alloc | apply Kd.S_drewN | apply Kd.S_drew)); exact Kd.S_mono HO_3.out (fun k_ hk => ⟨trivial, fun e_ => e_.elim (fun h_ => hk.1.1.2 h_) (fun h_ => h_.elim (fun h_ => hk.1.2 h_) (fun h_ => hk.2 h_))⟩))); (case aS => exact (below_size HBa)); (case aL => have := LMc7.out; omega); intro v197 w9 ho hb hg hat; rw [← Ny196.out] at ho; have n0_ := Aside0.mk (hb); have n1_ := Aside0.mk (ho); clear HB; clear HO_3; clear HO189; clear HO192; clear HO195; have HB := n0_; have HO198 := n1_; clear n0_ n1_; clear ho hb hg hat))
      go_roundg k1
      case measure => have := HK1.out; omega
      case rel => exact ⟨(y196), (wrap64 (x4_1 + 1)), EZc, H', ⟨by have := HK1.out; omega⟩, ⟨by (with_reducible repeat (first | apply Kd.S_alloc | apply Kd.S_drewN | apply Kd.S_drew)); exact HO198.out⟩, ⟨HBa⟩⟩
     ·rw [if_neg c7] at H
      exact absurd H (by simp)
    ·rw [if_neg c5] at H
     exact absurd H (by simp)
   ·rw [if_neg c4] at H
    have c4b0 : decide (x4_1 < (l0.length : Int)) = false := decide_eq_false c4
    clear c4
    obtain rfl := Option.some.inj H
    go_wp2
    go_ret
    exact ⟨_, EZa, by (with_reducible repeat (first | apply Kd.S_alloc | apply Kd.S_drewN | apply Kd.S_drew)); exact HO_3.out, HBa⟩
def spec_TreeNew.f (k : Nat) (l0 : List (S48)) : Option ((List (S48)) × (List (S73))) := if (l0.length : Int) > 400 then (some (([] : List (S48)), ([] : List (S73)))) else ((spec_SchemaRight.f k l0).bind fun t200 => (if t200 = true then ((spec_l07Schema.f k l0).bind fun t201 => (some (t201, ([] : List (S73))))) else (some (([] : List (S48)), ([] : List (S73))))))
theorem spec_TreeNew.mono : ∀ a0 k, LeO (spec_TreeNew.f k a0) (spec_TreeNew.f (k + 1) a0) := by
 intro a0 k
 unfold spec_TreeNew.f
 repeat' first
   | (with_reducible exact spec_SchemaRight.mono _ _)
   | (with_reducible exact spec_l07Schema.mono _ _)
   | (with_reducible exact LeO.refl _)
   | (with_reducible exact LeO.none _)
   | (with_reducible refine LeO.ite ?_ ?_)
   | (with_reducible refine LeO.bind ?_ (fun _ => ?_))
   | exact spec_SchemaRight.mono _ _
   | exact spec_l07Schema.mono _ _
   | exact LeO.none _
   | refine LeO.ite ?_ ?_
   | refine LeO.bind ?_ (fun _ => ?_)
set_option maxHeartbeats 8000000 in
set_option maxRecDepth 100000 in
theorem spec_TreeNew.calls (k : Nat) (A0 : Option Addr) (c0 : Nat) (l0 : List (S48)) (r1 : List (S48)) (r2 : List (S73)) (w : World) (hr0 : Kd.C k48 w A0 l0.length l0) (hc0 : l0.length ≤ c0) (h : spec_TreeNew.f k l0 = some (r1, r2)) :
  Calls Tryz.prog 6 #[.slice A0 l0.length c0] w fun e w' => ∃ v0_ v1_ : Value, e = .returned (.agg #[v0_, v1_]) ∧ Kd.S k48 48 w' w.heap.size (fun _ => True) v0_ r1 ∧ Kd.R k73 73 w' w.heap.size (fun _ => True) v1_ r2 ∧ Below w.heap.size w w' := by
 have hu27 := Tryz.underlying27
 have HR0 := Aside0.mk hr0
 have HC0 := Aside0.mk hc0
 clear hr0 hc0
 have HB := Aside0.mk (Below.refl w.heap.size w)
 have H : (if (l0.length : Int) > 400 then (some (([] : List (S48)), ([] : List (S73)))) else ((spec_SchemaRight.f k l0).bind fun t200 => (if t200 = true then ((spec_l07Schema.f k l0).bind fun t201 => (some (t201, ([] : List (S73))))) else (some (([] : List (S48)), ([] : List (S73))))))) = some (r1, r2) := h
 clear h
 by_cases c2 : (l0.length : Int) > 400
 ·rw [if_pos c2] at H
  have c2b0 : decide (400 < (l0.length : Int)) = true := decide_eq_true c2
  have c2b1 : decide (400 < l0.length) = true := decide_eq_true (by omega)
  clear c2
  simp only [Option.some.injEq, Prod.mk.injEq] at H
  obtain ⟨rfl, rfl⟩ := H
  go_enter Tryz.func6, Tryz.ntmps6
  go_wp2_with (first | ((with_reducible refine gate_dst (N := 2) rfl ?_); refine box_event ?hg (N := 2) ?hd (cs := #[.slice none 0 0, .slice none 0 0]) (t := 27) ?hr ?_; (case hd => rfl); (case hg => rfl); (case hr => first | (go_simp; done) | (go_simp; rfl)); intro gb199 hg w3 hbox hb; have n0_ := Aside0.mk (below_step HBa hb); have n1_ := Aside0.mk (hbox); have n2_ := Aside0.mk ((by rw [hg]; exact (below_size HBa) : w.heap.size ≤ gb199)); have n3_ := Aside0.mk ((by rw [hg]; exact (below_size HBa) : w.heap.size ≤ gb199)); clear HB; have HB := n0_; have BK199 := n1_; have GW199 := n2_; have GE199 := n3_; clear n0_ n1_ n2_ n3_; clear hb hbox hg; have hcz4_0 : w3.cell? ⟨gb199, 0, none⟩ = some (.slice none 0 0) := (blk_cell BK199.out 0).trans rfl; have hcz4_1 : w3.cell? ⟨gb199, 1, none⟩ = some (.slice none 0 0) := (blk_cell BK199.out 1).trans rfl; have hfz4_0 := blk_frozen BK199.out 0; have hfz4_1 := blk_frozen BK199.out 1))
  refine bodyPost_ret (results_cell_row rfl _ _ gb199 27 #[.slice none 0 0, .slice none 0 0] (0, 0) _ rfl (by (with_reducible repeat (first | refine blk_drewN ?_ _ | refine blk_drew ?_ | refine blk_alloc ?_ _)); refine blk_put (cs := #[.slice none 0 0, .slice none 0 0]) ?_ 1 _ rfl; (with_reducible repeat (first | refine blk_drewN ?_ _ | refine blk_drew ?_ | refine blk_alloc ?_ _)); refine blk_put (cs := #[.slice none 0 0, .slice none 0 0]) ?_ 0 _ rfl; (with_reducible repeat (first | refine blk_drewN ?_ _ | refine blk_drew ?_ | refine blk_alloc ?_ _)); exact BK199.out) Tryz.underlying27 rfl (by kernel_rfl)) rfl ?_
  exact ⟨_, _, EZa, by first | exact Kd.S_nil _ _ _ _ _ | exact Kd.N_nil _ _ _ _ _ | exact Kd.V_nil _ _ _ _ _ | exact Kd.Q_nil _ _ _ _ _ | exact Kd.R_nil _ _ _ _ _, by first | exact Kd.R_nil _ _ _ _ _ | exact Kd.N_nil _ _ _ _ _ | exact Kd.V_nil _ _ _ _ _ | exact Kd.Q_nil _ _ _ _ _ | exact Kd.S_nil _ _ _ _ _, HBb GE199⟩
 ·rw [if_neg c2] at H
  have c2b0 : decide (400 < (l0.length : Int)) = false := decide_eq_false c2
  have c2b1 : decide (400 < l0.length) = false := decide_eq_false (by omega)
  clear c2
  replace H := Option.bind_eq_some_iff.mp H
  obtain ⟨t200, A50, H⟩ := H
  replace H : (if t200 = true then ((spec_l07Schema.f k l0).bind fun t201 => (some (t201, ([] : List (S73))))) else (some (([] : List (S48)), ([] : List (S73))))) = some (r1, r2) := H
  have A5 := Aside0.mk A50
  clear A50
  by_cases c6 : t200 = true
  ·subst c6
   have H1 : ((spec_l07Schema.f k l0).bind fun t201 => (some (t201, ([] : List (S73))))) = some (r1, r2) := by rw [if_pos rfl] at H; exact H
   clear H
   have H := H1
   clear H1
   replace H := Option.bind_eq_some_iff.mp H
   obtain ⟨t201, A70, H⟩ := H
   replace H : (some (t201, ([] : List (S73)))) = some (r1, r2) := H
   have A7 := Aside0.mk A70
   clear A70
   simp only [Option.some.injEq, Prod.mk.injEq] at H
   obtain ⟨rfl, rfl⟩ := H
   go_enter Tryz.func6, Tryz.ntmps6
   go_wp2_with (first | ((with_reducible refine gate_dst (N := 2) rfl ?_); refine box_event ?hg (N := 2) ?hd (cs := #[.slice none 0 0, .slice none 0 0]) (t := 27) ?hr ?_; (case hd => rfl); (case hg => rfl); (case hr => first | (go_simp; done) | (go_simp; rfl)); intro gb199 hg w8 hbox hb; have n0_ := Aside0.mk (below_step HBa hb); have n1_ := Aside0.mk (hbox); have n2_ := Aside0.mk ((by rw [hg]; exact (below_size HBa) : w.heap.size ≤ gb199)); have n3_ := Aside0.mk ((by rw [hg]; exact (below_size HBa) : w.heap.size ≤ gb199)); clear HB; have HB := n0_; have BK199 := n1_; have GW199 := n2_; have GE199 := n3_; clear n0_ n1_ n2_ n3_; clear hb hbox hg) | (go_at_call 20; (with_reducible refine (spec_SchemaRight.calls k _ _ l0 true _ ?side1 ?side2 A5.out).mono ?_); (case side1 => repeat (first | exact (Kd.C_below HR0.out HB.out) | (with_reducible refine Kd.C_alloc ?_ _) | (with_reducible refine Kd.C_drewN ?_ _) | (with_reducible refine Kd.C_drew ?_))); (case side2 => exact HC0.out); rintro e w9 ⟨rfl, hb⟩; have n0_ := Aside0.mk (blk_below (g := gb199) (o := .cells #[.slice none 0 0, .slice none 0 0] 27 (0, 0)) (BKz BK199) hb); have n1_ := Aside0.mk (below_step (HBb GE199) hb); clear BK199; clear HB; have BK199 := n0_; have HB := n1_; clear n0_ n1_; (try clear hb); (try clear hb2); (try clear hk); (try clear hi)) | ((with_reducible refine gate_callee (f := 21) rfl ?_); refine goesL_ (some 13) rfl rfl Tryz.func21 (by kernel_rfl) rfl #[.slice A0 l0.length c0] rfl MPz ?_; (with_reducible refine (spec_l07Schema.calls k _ _ l0 t201 _ ?side1 ?side2 A7.out).mono ?_); (case side1 => repeat (first | exact (Kd.C_below HR0.out HB.out) | (with_reducible refine Kd.C_alloc ?_ _) | (with_reducible refine Kd.C_drewN ?_ _) | (with_reducible refine Kd.C_drew ?_))); (case side2 => exact HC0.out); rintro e w10 ⟨v202, rfl, ho0, hb⟩; refine ⟨_, rfl, ?_⟩; have n0_ := Aside0.mk (Kd.S_lower ho0 (below_size (HBb GE199))); have n1_ := Aside0.mk (blk_below (g := gb199) (o := .cells #[.slice none 0 0, .slice none 0 0] 27 (0, 0)) (BKz BK199) hb); have n2_ := Aside0.mk (below_step (HBb GE199) hb); clear BK199; clear HB; have HO203 := n0_; have BK199 := n1_; have HB := n2_; clear n0_ n1_ n2_; (try clear hb); (try clear hb2); (try clear hk); (try clear hi); (try clear ho0); obtain ⟨Ao11, co11, eo11⟩ := Kd.S_slice HO203.out; subst eo11; have hcz12_0 : w10.cell? ⟨gb199, 0, none⟩ = some (.slice none 0 0) := (blk_cell BK199.out 0).trans rfl; have hcz12_1 : w10.cell? ⟨gb199, 1, none⟩ = some (.slice none 0 0) := (blk_cell BK199.out 1).trans rfl; have hfz12_0 := blk_frozen BK199.out 0; have hfz12_1 := blk_frozen BK199.out 1))
   refine bodyPost_ret (results_cell_row rfl _ _ gb199 27 #[.slice Ao11 t201.length co11, .slice none 0 0] (0, 0) _ rfl (by (with_reducible repeat (first | refine blk_drewN ?_ _ | refine blk_drew ?_ | refine blk_alloc ?_ _)); refine blk_put (cs := #[.slice Ao11 t201.length co11, .slice none 0 0]) ?_ 1 _ rfl; (with_reducible repeat (first | refine blk_drewN ?_ _ | refine blk_drew ?_ | refine blk_alloc ?_ _)); refine blk_put (cs := #[.slice none 0 0, .slice none 0 0]) ?_ 0 _ rfl; (with_reducible repeat (first | refine blk_drewN ?_ _ | refine blk_drew ?_ | refine blk_alloc ?_ _)); exact BK199.out) Tryz.underlying27 rfl (by kernel_rfl)) rfl ?_
   exact ⟨_, _, EZa, by (with_reducible repeat (first | apply Kd.S_alloc | apply Kd.S_drewN | apply Kd.S_drew)); exact Kd.S_mono (Kd.S_far (p := ⟨gb199, 1, none⟩) (Kd.S_far (p := ⟨gb199, 0, none⟩) (Kd.S_types HO203.out BK199.out (by decide)) (fun _ hk => hk.2) (.slice Ao11 t201.length co11)) (fun _ hk => hk.2) (.slice none 0 0)) (fun _ hk => trivial), by first | exact Kd.R_nil _ _ _ _ _ | exact Kd.N_nil _ _ _ _ _ | exact Kd.V_nil _ _ _ _ _ | exact Kd.Q_nil _ _ _ _ _ | exact Kd.S_nil _ _ _ _ _, HBb GE199⟩
  ·replace c6 := Bool.eq_false_iff.mpr c6
   subst c6
   have H1 : (some (([] : List (S48)), ([] : List (S73)))) = some (r1, r2) := by rw [if_neg (show ¬ (false = true) by decide)] at H; exact H
   clear H
   have H := H1
   clear H1
   simp only [Option.some.injEq, Prod.mk.injEq] at H
   obtain ⟨rfl, rfl⟩ := H
   go_enter Tryz.func6, Tryz.ntmps6
   go_wp2_with (first | ((with_reducible refine gate_dst (N := 2) rfl ?_); refine box_event ?hg (N := 2) ?hd (cs := #[.slice none 0 0, .slice none 0 0]) (t := 27) ?hr ?_; (case hd => rfl); (case hg => rfl); (case hr => first | (go_simp; done) | (go_simp; rfl)); intro gb199 hg w13 hbox hb; have n0_ := Aside0.mk (below_step HBa hb); have n1_ := Aside0.mk (hbox); have n2_ := Aside0.mk ((by rw [hg]; exact (below_size HBa) : w.heap.size ≤ gb199)); have n3_ := Aside0.mk ((by rw [hg]; exact (below_size HBa) : w.heap.size ≤ gb199)); clear HB; have HB := n0_; have BK199 := n1_; have GW199 := n2_; have GE199 := n3_; clear n0_ n1_ n2_ n3_; clear hb hbox hg) | (go_at_call 20; (with_reducible refine (spec_SchemaRight.calls k _ _ l0 false _ ?side1 ?side2 A5.out).mono ?_); (case side1 => repeat (first | exact (Kd.C_below HR0.out HB.out) | (with_reducible refine Kd.C_alloc ?_ _) | (with_reducible refine Kd.C_drewN ?_ _) | (with_reducible refine Kd.C_drew ?_))); (case side2 => exact HC0.out); rintro e w14 ⟨rfl, hb⟩; have n0_ := Aside0.mk (blk_below (g := gb199) (o := .cells #[.slice none 0 0, .slice none 0 0] 27 (0, 0)) (BKz BK199) hb); have n1_ := Aside0.mk (below_step (HBb GE199) hb); clear BK199; clear HB; have BK199 := n0_; have HB := n1_; clear n0_ n1_; (try clear hb); (try clear hb2); (try clear hk); (try clear hi); have hcz15_0 : w14.cell? ⟨gb199, 0, none⟩ = some (.slice none 0 0) := (blk_cell BK199.out 0).trans rfl; have hcz15_1 : w14.cell? ⟨gb199, 1, none⟩ = some (.slice none 0 0) := (blk_cell BK199.out 1).trans rfl; have hfz15_0 := blk_frozen BK199.out 0; have hfz15_1 := blk_frozen BK199.out 1))
   refine bodyPost_ret (results_cell_row rfl _ _ gb199 27 #[.slice none 0 0, .slice none 0 0] (0, 0) _ rfl (by (with_reducible repeat (first | refine blk_drewN ?_ _ | refine blk_drew ?_ | refine blk_alloc ?_ _)); refine blk_put (cs := #[.slice none 0 0, .slice none 0 0]) ?_ 1 _ rfl; (with_reducible repeat (first | refine blk_drewN ?_ _ | refine blk_drew ?_ | refine blk_alloc ?_ _)); refine blk_put (cs := #[.slice none 0 0, .slice none 0 0]) ?_ 0 _ rfl; (with_reducible repeat (first | refine blk_drewN ?_ _ | refine blk_drew ?_ | refine blk_alloc ?_ _)); exact BK199.out) Tryz.underlying27 rfl (by kernel_rfl)) rfl ?_
   exact ⟨_, _, EZa, by first | exact Kd.S_nil _ _ _ _ _ | exact Kd.N_nil _ _ _ _ _ | exact Kd.V_nil _ _ _ _ _ | exact Kd.Q_nil _ _ _ _ _ | exact Kd.R_nil _ _ _ _ _, by first | exact Kd.R_nil _ _ _ _ _ | exact Kd.N_nil _ _ _ _ _ | exact Kd.V_nil _ _ _ _ _ | exact Kd.Q_nil _ _ _ _ _ | exact Kd.S_nil _ _ _ _ _, HBb GE199⟩
def slices_Clone_string_string.f (l0 : List ByteArray) : Option (List ByteArray) := (some (([] : List ByteArray) : List ByteArray)).bind fun y204 => (if y204.length + l0.length < 8796093022208 then (some (y204 ++ l0)) else (none))
set_option maxHeartbeats 8000000 in
set_option maxRecDepth 100000 in
theorem slices_Clone_string_string.calls (A0 : Option Addr) (c0 : Nat) (l0 : List ByteArray) (r : List ByteArray) (w : World) (hr0 : Kd.C Kd.string w A0 l0.length l0) (hc0 : l0.length ≤ c0) (h : slices_Clone_string_string.f l0 = some r) :
  Calls Tryz.prog 75 #[.slice A0 l0.length c0] w fun e w' => ∃ v0_ : Value, e = .returned (v0_) ∧ Kd.R Kd.string 9 w' w.heap.size (fun _ => True) v0_ r ∧ Below w.heap.size w w' := by
 have hq43 : ∀ (W_ : World) (a : Option Addr) (n c n' c' : Nat), (binOp .eql 43 (.slice a n c) (.slice none n' c')).run Tryz.prog W_ = .ok (.bool a.isNone) W_ := fun W_ a n c n' c' => Go.Lib.run_eql_slice_nil W_ _ _ a n c n' c' Tryz.underlying43
 have HR0 := Aside0.mk hr0
 have HC0 := Aside0.mk hc0
 clear hr0 hc0
 have HB := Aside0.mk (Below.refl w.heap.size w)
 have H : ((some (([] : List ByteArray) : List ByteArray)).bind fun y204 => (if y204.length + l0.length < 8796093022208 then (some (y204 ++ l0)) else (none))) = some r := h
 clear h
 by_cases c2 : A0.isNone = true
 ·have c2l : l0 = [] := nil_of_none_ HR0.out c2
  have H1 : (some ([] : List ByteArray)) = some r := by (subst c2l; simpa using H)
  clear H
  have H := H1
  clear H1
  have c2b0 := c2
  clear c2l
  obtain rfl := Option.some.inj H
  go_enter Tryz.func75, Tryz.ntmps75
  go_wp2
  go_ret
  exact ⟨_, EZa, by first | exact Kd.R_nil _ _ _ _ _ | exact Kd.N_nil _ _ _ _ _ | exact Kd.V_nil _ _ _ _ _ | exact Kd.Q_nil _ _ _ _ _ | exact Kd.S_nil _ _ _ _ _, HBa⟩
 ·have c2b0 : A0.isNone = false := Bool.eq_false_iff.mpr c2
  clear c2
  obtain ⟨y204, hy204⟩ : ∃ y_ : List ByteArray, y_ = (([] : List ByteArray)) := ⟨_, rfl⟩
  replace H : (if y204.length + l0.length < 8796093022208 then (some (y204 ++ l0)) else (none)) = some r := by first | (rw [hy204]; with_reducible exact H) | (have H2_ := (Option.bind_some _ _).symm.trans H; rw [hy204]; with_reducible exact H2_) | (have H2_ := (Option.bind_some _ _).symm.trans H; with_reducible exact H2_) | with_reducible exact H | (rw [hy204]; exact H) | exact H
  have Ny204 := Aside0.mk hy204
  clear hy204
  by_cases c3 : y204.length + l0.length < 8796093022208
  ·rw [if_pos c3] at H
   have LMc3 := Aside0.mk c3
   clear c3
   obtain ⟨y207, hy207⟩ : ∃ y_ : List ByteArray, y_ = (y204 ++ l0) := ⟨_, rfl⟩
   replace H : (some y207) = some r := by first | (rw [hy207]; with_reducible exact H) | (have H2_ := (Option.bind_some _ _).symm.trans H; rw [hy207]; with_reducible exact H2_) | (have H2_ := (Option.bind_some _ _).symm.trans H; with_reducible exact H2_) | with_reducible exact H | (rw [hy207]; exact H) | exact H
   have Ny207 := Aside0.mk hy207
   clear hy207
   obtain rfl := Option.some.inj H
   go_enter Tryz.func75, Tryz.ntmps75
   go_wp2_with (first | ((with_reducible refine gate_dst (N := 5) rfl ?_); refine Kd.R_lit Kd.string _ 9 ?hg (N := 5) ?hd (xs := ([] : List ByteArray)) (inner := []) (ok := fun _ => True) (okp := fun _ => True) ?hr ?hp (fun _ hk => hk) trivial (Below.refl _ _) (Nat.le_refl _) (by simp) ?_; (case hd => rfl); (case hg => rfl); (case hr => first | (go_simp; done) | (go_simp; rfl)); (case hp => exact (Reps.none _ _)); intro v205 w4 ho5 hb hg_ hnew_; clear hg_ hnew_; (first | rw [← Ny204.out] at ho5 | (simp only [Int.reduceToNat] at ho5; rw [← Ny204.out] at ho5)); have n0_ := Aside0.mk (Kd.R_lower ho5 (below_size HBa)); have n1_ := Aside0.mk (below_step HBa hb); clear HB; have HO206 := n0_; have HB := n1_; clear n0_ n1_; clear hb ho5) | ((with_reducible refine gate_builtin (b := .append) (xs := #[.tmp 5, .tmp 6]) rfl ?_); at_builtin; refine Kd.R_append_rows Kd.string (w0 := w) w.heap.size rfl (.tmp 5) (.tmp 6) 43 9 (.string ⟨#[]⟩) 16 rfl Tryz.underlying43 info9 rfl (by decide) (by omega) v205 y204 l0 _ _ _ (fun _ => True) (fun _ => False) rfl rfl ?aO ?aR (fun _ _ h => h) (fun _ h => h.elim) ?aF ?aB ?aS ?aL ?_; (case aR => repeat (first | exact (Kd.C_below HR0.out HB.out) | (with_reducible refine Kd.C_alloc ?_ _) | (with_reducible refine Kd.C_drewN ?_ _) | (with_reducible refine Kd.C_drew ?_))); (case aB => exact HBa); (case aF => exact (fun _ _ => trivial)); (case aO => exact (by (with_reducible repeat (first | apply Kd.R_alloc | apply Kd.R_drewN | apply Kd.R_drew)); exact HO206.out)); (case aS => exact (below_size HBa)); (case aL => have := LMc3.out; omega); intro v208 w6 ho hb hg hat; rw [← Ny207.out] at ho; have n0_ := Aside0.mk (hb); have n1_ := Aside0.mk (ho); clear HB; clear HO206; have HB := n0_; have HO209 := n1_; clear n0_ n1_; clear ho hb hg hat))
   go_ret
   exact ⟨_, EZa, by (with_reducible repeat (first | apply Kd.R_alloc | apply Kd.R_drewN | apply Kd.R_drew)); exact HO209.out, HBa⟩
  ·rw [if_neg c3] at H
   exact absurd H (by simp)
def impl_classOf.ix (t : ByteArray) : List (S48) → Int → Int
 | [], _ => -1
 | x :: xs, i => if x.f0.toList = t.toList then i else impl_classOf.ix t xs (i + 1)
def impl_classOf.f (l0 : List (S48)) (a1 : ByteArray) : Option (ByteArray × List ByteArray × List ByteArray × List ByteArray × Bool) :=
 if 0 ≤ impl_classOf.ix a1 l0 0 then (slices_Clone_string_string.f (rd_T48 l0 (impl_classOf.ix a1 l0 0)).f1).bind fun x1 => (slices_Clone_string_string.f (rd_T48 l0 (impl_classOf.ix a1 l0 0)).f2).bind fun x2 => (slices_Clone_string_string.f (rd_T48 l0 (impl_classOf.ix a1 l0 0)).f3).bind fun x3 => some ((rd_T48 l0 (impl_classOf.ix a1 l0 0)).f0, x1, x2, x3, true)
 else some (⟨#[]⟩, [], [], [], false)
theorem impl_classOf.ix_lt (t : ByteArray) : ∀ (l : List (S48)) (i : Int), 0 ≤ i → impl_classOf.ix t l i < 0 ∨ impl_classOf.ix t l i < i + l.length
 | [], i, h0 => by simp only [impl_classOf.ix]; omega
 | x :: xs, i, h0 => by
  simp only [impl_classOf.ix]
  by_cases c : x.f0.toList = t.toList
  ·rw [if_pos c]; simp only [List.length_cons]; omega
  ·rw [if_neg c]
   have := impl_classOf.ix_lt t xs (i + 1) (by omega)
   simp only [List.length_cons]; omega
set_option maxHeartbeats 8000000 in
set_option maxRecDepth 100000 in
theorem impl_classOf.clo_calls (na : Nat) (t a0 : ByteArray) (A1 A2 A3 : Option Addr) (n1 c1 n2 c2 n3 c3 : Nat) (w : World) (hl : w.cell? ⟨na, 0, none⟩ = some (.string t)) :
  Calls Tryz.prog 74 #[.agg #[.string a0, .slice A1 n1 c1, .slice A2 n2 c2, .slice A3 n3 c3], .pointer (some ⟨na, 0, none⟩)] w fun e w' => e = .returned (.bool (a0.toList == t.toList)) ∧ Below w.heap.size w w' := by
 have hu := Tryz.underlying48
 have HL := Aside0.mk hl
 have HB := Aside0.mk (Below.refl w.heap.size w)
 clear hl
 go_enter Tryz.func74, Tryz.ntmps74
 go_wp2_with ((with_reducible refine gate_dst (N := 2) rfl ?_); refine box_event ?hg (N := 2) ?hd (cs := #[.string a0, .slice A1 n1 c1, .slice A2 n2 c2, .slice A3 n3 c3]) (t := 48) ?hr ?_; (case hd => rfl); (case hg => rfl); (case hr => first | (go_simp; done) | (go_simp; rfl)); intro gb hg w9 hbox hb; have BKgb := Aside0.mk hbox; have GEgb := Aside0.mk (show w.heap.size ≤ gb by rw [hg]; exact below_size HB.out); have n0_ := Aside0.mk (below_step HB.out hb); clear HB; have HB := n0_; clear n0_ hb hbox hg; have hcz : w9.cell? ⟨gb, 0, none⟩ = some (.string a0) := (blk_cell BKgb.out 0).trans rfl; have hna : w9.cell? ⟨na, 0, none⟩ = some (.string t) := (HB.out.cell (World.block_lt_of_cell? w _ HL.out)).trans HL.out)
 go_ret
 exact ⟨by first | rfl | (simp [*]; done), HBa⟩
set_option maxHeartbeats 8000000 in
set_option maxRecDepth 100000 in
theorem impl_classOf.index (na : Nat) (t : ByteArray) (A0 : Option Addr) (c0 : Nat) (l0 : List (S48)) (w : World) (hl : w.cell? ⟨na, 0, none⟩ = some (.string t)) (hr0 : Kd.C k48 w A0 l0.length l0) :
  Calls Tryz.prog 73 #[.slice A0 l0.length c0, .func (.func 74) #[] #[.pointer (some ⟨na, 0, none⟩)]] w fun e w' => e = .returned (.int .i64 (impl_classOf.ix t l0 0)) ∧ Below w.heap.size w w' := by
 have hu := Tryz.underlying48
 obtain ⟨r, hr⟩ : ∃ r, r = impl_classOf.ix t l0 0 := ⟨_, rfl⟩
 rw [← hr]
 have HR0 := Aside0.mk hr0
 have HL := Aside0.mk hl
 clear hr0 hl
 have HB := Aside0.mk (Below.refl w.heap.size w)
 have H' := Aside0.mk hr
 clear hr
 go_enter Tryz.func73, Tryz.ntmps73
 go_wp2
 go_loopg [5, 8] l0.length (fun kq _ v8 w' => ∃ j : Nat, v8 = .int .i64 (j : Int) ∧ Aside0 (r = impl_classOf.ix t (l0.drop j) (j : Int)) ∧ Aside0 (l0.length - j ≤ kq) ∧ Aside0 (Below w.heap.size w w'))
 case atStart => exact ⟨0, rfl, H', ⟨by omega⟩, HB⟩
 case round =>
  clear H'
  obtain ⟨j, rfl, HA, HK, HB⟩ := hrel
  by_cases c1 : (j : Int) < (l0.length : Int)
  ·have c1b0 : decide ((j : Int) < (l0.length : Int)) = true := decide_eq_true c1
   have c1b1 : decide (j < l0.length) = true := decide_eq_true (by omega)
   have H := HA.out
   clear HA
   have hj : j < l0.length := by omega
   have p1 : 0 ≤ (j : Int) := by omega
   obtain ⟨ad1, B1, b1, B2, b2, B3, b3, e1, hx1_0, hx1_1, hx1_2, hx1_3, m1, g1, m2, g2, m3, g3⟩ := at_T48 HR0.out (j : Int) p1 c1
   cases e1
   replace hx1_0 := (HB.out.cell (World.block_lt_of_cell? w _ hx1_0)).trans hx1_0
   replace hx1_1 := (HB.out.cell (World.block_lt_of_cell? w _ hx1_1)).trans hx1_1
   replace hx1_2 := (HB.out.cell (World.block_lt_of_cell? w _ hx1_2)).trans hx1_2
   replace hx1_3 := (HB.out.cell (World.block_lt_of_cell? w _ hx1_3)).trans hx1_3
   simp only [Int.toNat_natCast] at hx1_0 hx1_1 hx1_2 hx1_3
   clear g1 g2 g3 m1 m2 m3
   have hel : l0.drop j = rd_T48 l0 (j : Int) :: l0.drop (j + 1) := by
    rw [List.drop_eq_getElem_cons hj]
    congr 1
    unfold rd_T48
    rw [List.getD_eq_getElem?_getD, show (j : Int).toNat = j from rfl, List.getElem?_eq_getElem hj]; rfl
   rw [hel] at H
   simp only [impl_classOf.ix] at H
   have c1i := eq_true c1
   clear hel
   by_cases c2 : (rd_T48 l0 (j : Int)).f0.toList = t.toList
   ·rw [if_pos c2] at H
    have c2b0 : ((rd_T48 l0 (j : Int)).f0.toList == t.toList) = true := beq_iff_eq.mpr c2
    subst H
    clear hj c1 c2
    go_wp2_with (go_at_call 74; (with_reducible refine (impl_classOf.clo_calls na t _ _ _ _ _ _ _ _ _ _ _ ?sl).mono ?_); (case sl => exact (HB.out.cell (World.block_lt_of_cell? w _ HL.out)).trans HL.out); rintro e w5 ⟨rfl, hb⟩; have n0_ := Aside0.mk (below_step HB.out hb); clear HB; have HB := n0_; clear n0_; clear hb)
    go_ret
    exact ⟨rfl, HB.out⟩
   ·rw [if_neg c2] at H
    have c2b0 : ((rd_T48 l0 (j : Int)).f0.toList == t.toList) = false := beq_eq_false_iff_ne.mpr c2
    have HN := Aside0.mk H
    have HJ := Aside0.mk hj
    clear hj c1 c2 H
    go_wp2_with (go_at_call 74; (with_reducible refine (impl_classOf.clo_calls na t _ _ _ _ _ _ _ _ _ _ _ ?sl).mono ?_); (case sl => exact (HB.out.cell (World.block_lt_of_cell? w _ HL.out)).trans HL.out); rintro e w5 ⟨rfl, hb⟩; have n0_ := Aside0.mk (below_step HB.out hb); clear HB; have HB := n0_; clear n0_; clear hb)
    go_roundg (l0.length - (j + 1))
    case measure => have := HK.out; have := HJ.out; omega
    case rel => exact ⟨j + 1, by have hb := HR0.out.2.1; have := HJ.out; first | rfl | go_num | (congr 1; unfold wrap64; omega), by have h2 := HN.out; rw [show (j : Int) + 1 = ((j + 1 : Nat) : Int) by omega] at h2; exact ⟨h2⟩, ⟨Nat.le_refl _⟩, HB⟩
  ·have c1b0 : decide ((j : Int) < (l0.length : Int)) = false := decide_eq_false c1
   have c1b1 : decide (j < l0.length) = false := decide_eq_false (by omega)
   have H := HA.out
   rw [List.drop_of_length_le (by omega)] at H
   simp only [impl_classOf.ix] at H
   subst H
   clear c1
   go_wp2
   go_ret
   exact ⟨rfl, HB.out⟩
def impl_classOf.T5 : Bool × List (List Nat × List Nat) := (true, [([], []), ([0], [0]), ([], []), ([2], [2]), ([3], [3]), ([], []), ([5], [5]), ([6, 4], [6]), ([], []), ([8], [8]), ([9, 7], [9]), ([1, 4, 7, 10], [1, 4, 7, 10]), ([11, 10, 0, 1, 2, 3, 4, 5, 6, 7, 8, 9, 10, 11], [11]), ([12, 0, 1, 2, 3, 4, 5, 6, 7, 8, 9, 10, 11, 12], [])])
def impl_classOf.B5 : List Nat := [0, 1, 0, 4, 12, 0, 32, 124, 0, 256, 1020, 2047, 4095, 8191]
theorem impl_classOf.tab5 : rtab .any (opsOf Tryz.f45 5) = impl_classOf.T5 := by kernel_rfl
theorem impl_classOf.bits5 : waitsOk impl_classOf.T5.2 impl_classOf.B5 = true := by kernel_rfl
set_option maxHeartbeats 8000000 in
set_option maxRecDepth 100000 in
theorem impl_classOf.calls (A0 : Option Addr) (c0 : Nat) (l0 : List (S48)) (a1 : ByteArray) (r1 : ByteArray) (r2 : List ByteArray) (r3 : List ByteArray) (r4 : List ByteArray) (r5 : Bool) (w : World) (hr0 : Kd.C k48 w A0 l0.length l0) (hc0 : l0.length ≤ c0) (h : impl_classOf.f l0 a1 = some (r1, r2, r3, r4, r5)) :
  Calls Tryz.prog 45 #[.slice A0 l0.length c0, .string a1] w fun e w' => ∃ v1_ v2_ v3_ : Value, e = .returned (.tuple #[.agg #[.string r1, v1_, v2_, v3_], .bool r5]) ∧ Kd.R Kd.string 9 w' w.heap.size (fun k_ => some k_ ≠ (v2_ : Value).ownBlock ∧ some k_ ≠ (v3_ : Value).ownBlock) v1_ r2 ∧ Kd.R Kd.string 9 w' w.heap.size (fun k_ => some k_ ≠ (v1_ : Value).ownBlock ∧ some k_ ≠ (v3_ : Value).ownBlock) v2_ r3 ∧ Kd.R Kd.string 9 w' w.heap.size (fun k_ => some k_ ≠ (v1_ : Value).ownBlock ∧ some k_ ≠ (v2_ : Value).ownBlock) v3_ r4 ∧ Below w.heap.size w w' := by
 have hu := Tryz.underlying48
 have HR0 := Aside0.mk hr0
 clear hr0 hc0
 have HB := Aside0.mk (Below.refl w.heap.size w)
 unfold impl_classOf.f at h
 have hlt := impl_classOf.ix_lt a1 l0 0 (by omega)
 obtain ⟨i, hi⟩ : ∃ i, impl_classOf.ix a1 l0 0 = i := ⟨_, rfl⟩
 rw [hi] at h hlt
 have HI := Aside0.mk hi
 clear hi
 by_cases ci : 0 ≤ i
 case neg =>
  rw [if_neg ci] at h
  simp only [Option.some.injEq, Prod.mk.injEq] at h
  obtain ⟨rfl, rfl, rfl, rfl, rfl⟩ := h
  have cib : decide (i < 0) = true := decide_eq_true (by omega)
  clear ci hlt
  go_enter Tryz.func45, Tryz.ntmps45
  go_wp2_with (first | ((with_reducible refine gate_dst (N := 3) rfl ?_); refine box_event ?hg (N := 3) ?hd (cs := #[.string a1]) (t := 9) ?hr ?_; (case hd => rfl); (case hg => rfl); (case hr => first | (go_simp; done) | (go_simp; rfl)); intro gx hg w1 hbox hb; have BKgx := Aside0.mk hbox; have GEgx := Aside0.mk (show w.heap.size ≤ gx by rw [hg]; exact below_size HB.out); have n0_ := Aside0.mk (below_step HB.out hb); clear HB; have HB := n0_; clear n0_ hb hbox hg) | ((with_reducible refine gate_dst (N := 4) rfl ?_); refine box_event ?hg (N := 4) ?hd (cs := #[.string (⟨#[]⟩ : ByteArray), .slice none 0 0, .slice none 0 0, .slice none 0 0]) (t := 48) ?hr ?_; (case hd => rfl); (case hg => rfl); (case hr => first | (go_simp; done) | (go_simp; rfl)); intro g4 hg w2 hbox hb; have BKg4 := Aside0.mk hbox; have GEg4 := Aside0.mk (show w.heap.size ≤ g4 by rw [hg]; exact below_size HB.out); have nkgx := Aside0.mk (blk_below (g := gx) (o := .cells #[.string a1] 9 (0, 0)) BKgx.out hb); clear BKgx; have BKgx := nkgx; clear nkgx; have n0_ := Aside0.mk (below_step HB.out hb); clear HB; have HB := n0_; clear n0_ hb hbox hg) | (go_at_call 73; (with_reducible refine (impl_classOf.index gx a1 _ c0 l0 _ ?sl ?s0).mono ?_); (case sl => exact (blk_cell BKgx.out 0).trans rfl); (case s0 => exact Kd.C_below HR0.out HB.out); rw [HI.out]; rintro e w3 ⟨rfl, hb⟩; clear BKgx; have nkg4 := Aside0.mk (blk_below (g := g4) (o := .cells #[.string (⟨#[]⟩ : ByteArray), .slice none 0 0, .slice none 0 0, .slice none 0 0] 48 (0, 0)) BKg4.out hb); clear BKg4; have BKg4 := nkg4; clear nkg4; have n0_ := Aside0.mk (below_step HB.out hb); clear HB; have HB := n0_; clear n0_; clear hb; have hq0w3 : w3.cell? ⟨g4, 0, none⟩ = some (.string (⟨#[]⟩ : ByteArray)) := (blk_cell BKg4.out 0).trans rfl; have hf0w3 := blk_frozen BKg4.out 0; have hq1w3 : w3.cell? ⟨g4, 1, none⟩ = some (.slice none 0 0) := (blk_cell BKg4.out 1).trans rfl; have hf1w3 := blk_frozen BKg4.out 1; have hq2w3 : w3.cell? ⟨g4, 2, none⟩ = some (.slice none 0 0) := (blk_cell BKg4.out 2).trans rfl; have hf2w3 := blk_frozen BKg4.out 2; have hq3w3 : w3.cell? ⟨g4, 3, none⟩ = some (.slice none 0 0) := (blk_cell BKg4.out 3).trans rfl; have hf3w3 := blk_frozen BKg4.out 3))
  refine bodyPost_ret (results_ct rfl _ _ g4 48 #[.string (⟨#[]⟩ : ByteArray), .slice none 0 0, .slice none 0 0, .slice none 0 0] (0, 0) _ rfl (by (with_reducible repeat (first | refine blk_drewN ?_ _ | refine blk_drew ?_ | refine blk_alloc ?_ _)); refine blk_put (cs := #[.string (⟨#[]⟩ : ByteArray), .slice none 0 0, .slice none 0 0, .slice none 0 0]) ?_ 3 _ rfl; refine blk_put (cs := #[.string (⟨#[]⟩ : ByteArray), .slice none 0 0, .slice none 0 0, .slice none 0 0]) ?_ 2 _ rfl; refine blk_put (cs := #[.string (⟨#[]⟩ : ByteArray), .slice none 0 0, .slice none 0 0, .slice none 0 0]) ?_ 1 _ rfl; refine blk_put (cs := #[.string (⟨#[]⟩ : ByteArray), .slice none 0 0, .slice none 0 0, .slice none 0 0]) ?_ 0 _ rfl; exact BKg4.out) Tryz.underlying48 rfl (by kernel_rfl)) rfl ?_
  exact ⟨_, _, _, rfl, Kd.R_nil _ _ _ _ _, Kd.R_nil _ _ _ _ _, Kd.R_nil _ _ _ _ _, by repeat (first | (with_reducible first | exact HB.out | refine below_set ?_ GEg4.out) | exact HB.out)⟩
 rw [if_pos ci] at h
 have qi : i < (l0.length : Int) := by omega
 have cib : decide (i < 0) = false := decide_eq_false (by omega)
 obtain ⟨x1, AX10, h⟩ := Option.bind_eq_some_iff.1 h
 obtain ⟨x2, AX20, h⟩ := Option.bind_eq_some_iff.1 h
 obtain ⟨x3, AX30, h⟩ := Option.bind_eq_some_iff.1 h
 have AX1 := Aside0.mk AX10
 have AX2 := Aside0.mk AX20
 have AX3 := Aside0.mk AX30
 clear AX10 AX20 AX30 hlt
 simp only [Option.some.injEq, Prod.mk.injEq] at h
 obtain ⟨rfl, rfl, rfl, rfl, rfl⟩ := h
 obtain ⟨ad, B1, b1, B2, b2, B3, b3, e1, hx0, hx1, hx2, hx3, m1, g1, m2, g2, m3, g3⟩ := at_T48 HR0.out i ci qi
 cases e1
 have cie := eq_true ci
 have qie := eq_true qi
 have X0 := Aside0.mk hx0
 have X1 := Aside0.mk hx1
 have X2 := Aside0.mk hx2
 have X3 := Aside0.mk hx3
 have G1 := Aside0.mk g1
 have G2 := Aside0.mk g2
 have G3 := Aside0.mk g3
 have M1 := Aside0.mk m1
 have M2 := Aside0.mk m2
 have M3 := Aside0.mk m3
 obtain ⟨y, hy⟩ : ∃ y, rd_T48 l0 i = y := ⟨_, rfl⟩
 rw [hy] at X0 X1 X2 X3 G1 G2 G3 M1 M2 M3 AX1 AX2 AX3 ⊢
 clear hx0 hx1 hx2 hx3 g1 g2 g3 m1 m2 m3 ci qi hy
 go_enter Tryz.func45, Tryz.ntmps45
 go_upto_region 5 with (first | ((with_reducible refine gate_dst (N := 3) rfl ?_); refine box_event ?hg (N := 3) ?hd (cs := #[.string a1]) (t := 9) ?hr ?_; (case hd => rfl); (case hg => rfl); (case hr => first | (go_simp; done) | (go_simp; rfl)); intro gx hg w1 hbox hb; have BKgx := Aside0.mk hbox; have GEgx := Aside0.mk (show w.heap.size ≤ gx by rw [hg]; exact below_size HB.out); have n0_ := Aside0.mk (below_step HB.out hb); clear HB; have HB := n0_; clear n0_ hb hbox hg) | ((with_reducible refine gate_dst (N := 4) rfl ?_); refine box_event ?hg (N := 4) ?hd (cs := #[.string (⟨#[]⟩ : ByteArray), .slice none 0 0, .slice none 0 0, .slice none 0 0]) (t := 48) ?hr ?_; (case hd => rfl); (case hg => rfl); (case hr => first | (go_simp; done) | (go_simp; rfl)); intro g4 hg w2 hbox hb; have BKg4 := Aside0.mk hbox; have GEg4 := Aside0.mk (show w.heap.size ≤ g4 by rw [hg]; exact below_size HB.out); have nkgx := Aside0.mk (blk_below (g := gx) (o := .cells #[.string a1] 9 (0, 0)) BKgx.out hb); clear BKgx; have BKgx := nkgx; clear nkgx; have n0_ := Aside0.mk (below_step HB.out hb); clear HB; have HB := n0_; clear n0_ hb hbox hg) | (go_at_call 73; (with_reducible refine (impl_classOf.index gx a1 _ c0 l0 _ ?sl ?s0).mono ?_); (case sl => exact (blk_cell BKgx.out 0).trans rfl); (case s0 => exact Kd.C_below HR0.out HB.out); rw [HI.out]; rintro e w3 ⟨rfl, hb⟩; clear BKgx; have nkg4 := Aside0.mk (blk_below (g := g4) (o := .cells #[.string (⟨#[]⟩ : ByteArray), .slice none 0 0, .slice none 0 0, .slice none 0 0] 48 (0, 0)) BKg4.out hb); clear BKg4; have BKg4 := nkg4; clear nkg4; have n0_ := Aside0.mk (below_step HB.out hb); clear HB; have HB := n0_; clear n0_; clear hb; have hz0 := (HB.out.cell (World.block_lt_of_cell? w _ X0.out)).trans X0.out; have hz1 := (HB.out.cell (World.block_lt_of_cell? w _ X1.out)).trans X1.out; have hz2 := (HB.out.cell (World.block_lt_of_cell? w _ X2.out)).trans X2.out; have hz3 := (HB.out.cell (World.block_lt_of_cell? w _ X3.out)).trans X3.out) | ((with_reducible refine gate_dst (N := 7) rfl ?_); refine box_event ?hg (N := 7) ?hd (cs := #[.string (⟨#[]⟩ : ByteArray), .slice none 0 0, .slice none 0 0, .slice none 0 0]) (t := 48) ?hr ?_; (case hd => rfl); (case hg => rfl); (case hr => first | (go_simp; done) | (go_simp; rfl)); intro g7 hg w4 hbox hb; have BKg7 := Aside0.mk hbox; have GEg7 := Aside0.mk (show w.heap.size ≤ g7 by rw [hg]; exact below_size HB.out); have NE := Aside0.mk (show g4 ≠ g7 by rw [hg]; exact Nat.ne_of_lt (blk_lt BKg4.out)); have nkg4 := Aside0.mk (blk_below (g := g4) (o := .cells #[.string (⟨#[]⟩ : ByteArray), .slice none 0 0, .slice none 0 0, .slice none 0 0] 48 (0, 0)) BKg4.out hb); clear BKg4; have BKg4 := nkg4; clear nkg4; have n0_ := Aside0.mk (below_step HB.out hb); clear HB; have HB := n0_; clear n0_ hb hbox hg; have hq0w4 : w4.cell? ⟨g7, 0, none⟩ = some (.string (⟨#[]⟩ : ByteArray)) := (blk_cell BKg7.out 0).trans rfl; have hf0w4 := blk_frozen BKg7.out 0; have hq1w4 : w4.cell? ⟨g7, 1, none⟩ = some (.slice none 0 0) := (blk_cell BKg7.out 1).trans rfl; have hf1w4 := blk_frozen BKg7.out 1; have hq2w4 : w4.cell? ⟨g7, 2, none⟩ = some (.slice none 0 0) := (blk_cell BKg7.out 2).trans rfl; have hf2w4 := blk_frozen BKg7.out 2; have hq3w4 : w4.cell? ⟨g7, 3, none⟩ = some (.slice none 0 0) := (blk_cell BKg7.out 3).trans rfl; have hf3w4 := blk_frozen BKg7.out 3))
 have n0_ : Aside0 (Below w.heap.size w (World.setCell (World.setCell (World.setCell (World.setCell w4 ⟨g7, 0, none⟩ (.string y.f0)) ⟨g7, 1, none⟩ (.slice B1 y.f1.length b1)) ⟨g7, 2, none⟩ (.slice B2 y.f2.length b2)) ⟨g7, 3, none⟩ (.slice B3 y.f3.length b3))) := ⟨by repeat (first | (with_reducible first | exact HB.out | refine below_set ?_ GEg7.out) | exact HB.out)⟩
 have n1_ : Aside0 ((World.heap (World.setCell (World.setCell (World.setCell (World.setCell w4 ⟨g7, 0, none⟩ (.string y.f0)) ⟨g7, 1, none⟩ (.slice B1 y.f1.length b1)) ⟨g7, 2, none⟩ (.slice B2 y.f2.length b2)) ⟨g7, 3, none⟩ (.slice B3 y.f3.length b3)))[g4]? = some (.cells #[.string (⟨#[]⟩ : ByteArray), .slice none 0 0, .slice none 0 0, .slice none 0 0] 48 (0, 0))) := ⟨by refine blk_far ?_ NE.out _; refine blk_far ?_ NE.out _; refine blk_far ?_ NE.out _; refine blk_far ?_ NE.out _; exact BKg4.out⟩
 have n2_ : Aside0 ((World.heap (World.setCell (World.setCell (World.setCell (World.setCell w4 ⟨g7, 0, none⟩ (.string y.f0)) ⟨g7, 1, none⟩ (.slice B1 y.f1.length b1)) ⟨g7, 2, none⟩ (.slice B2 y.f2.length b2)) ⟨g7, 3, none⟩ (.slice B3 y.f3.length b3)))[g7]? = some (.cells #[.string y.f0, .slice B1 y.f1.length b1, .slice B2 y.f2.length b2, .slice B3 y.f3.length b3] 48 (0, 0))) := ⟨by refine blk_put (cs := #[.string y.f0, .slice B1 y.f1.length b1, .slice B2 y.f2.length b2, .slice none 0 0]) ?_ 3 _ rfl; refine blk_put (cs := #[.string y.f0, .slice B1 y.f1.length b1, .slice none 0 0, .slice none 0 0]) ?_ 2 _ rfl; refine blk_put (cs := #[.string y.f0, .slice none 0 0, .slice none 0 0, .slice none 0 0]) ?_ 1 _ rfl; refine blk_put (cs := #[.string (⟨#[]⟩ : ByteArray), .slice none 0 0, .slice none 0 0, .slice none 0 0]) ?_ 0 _ rfl; exact BKg7.out⟩
 clear HB BKg4 BKg7
 have HB := n0_
 have BKg4 := n1_
 have BKg7 := n2_
 clear n0_ n1_ n2_
 generalize World.setCell (World.setCell (World.setCell (World.setCell w4 _ _) _ _) _ _) _ _ = w5 at HB BKg4 BKg7 ⊢
 have n0_ := Aside0.mk (below_drew1 HB.out)
 have n1_ := Aside0.mk (blk_drew BKg4.out)
 have n2_ := Aside0.mk (blk_drew BKg7.out)
 clear HB BKg4 BKg7
 have HB := n0_
 have BKg4 := n1_
 have BKg7 := n2_
 clear n0_ n1_ n2_
 refine start_ (n := 14) (S := fun w' => w'.cell? ⟨g7, 0, none⟩ = some (.string y.f0) ∧ w'.cell? ⟨g7, 1, none⟩ = some (.slice B1 y.f1.length b1) ∧ w'.cell? ⟨g7, 2, none⟩ = some (.slice B2 y.f2.length b2) ∧ w'.cell? ⟨g7, 3, none⟩ = some (.slice B3 y.f3.length b3)) (ds := [12]) #[false, false, false, false, false, false, false, false, false, false, false, false, false, false] (by kernel_rfl) rfl rfl ⟨(blk_cell BKg7.out 0).trans rfl, (blk_cell BKg7.out 1).trans rfl, (blk_cell BKg7.out 2).trans rfl, (blk_cell BKg7.out 3).trans rfl⟩ (fun hHeld => ?_)
 refine with_tabW impl_classOf.tab5 impl_classOf.bits5 (fun HT_ HW_ => ?_)
 generalize World.drew _ = u0 at HB BKg4 BKg7 hHeld ⊢
 refine pure_ (i := 0) (N := some 18) (v := ?_) (a' := ?_) #[true, false, false, false, false, false, false, false, false, false, false, false, false, false] rfl rfl (any_of HT_.out (by kernel_rfl)) (fun _ _ _ h => h) (Or.inl ⟨by rfl, ?_⟩) ?_ ?_
 rotate_left
 ·intro w'
  go_simp
  with_reducible rfl
 rotate_left
 ·simp only [Act.put, List.setIfInBounds_toArray, List.set_cons_zero, List.set_cons_succ, i64_w, i32_w]
  rfl
 refine pure_ (i := 2) (N := some 20) (v := ?_) (a' := ?_) #[true, false, true, false, false, false, false, false, false, false, false, false, false, false] rfl rfl (any_of HT_.out (by kernel_rfl)) (fun _ _ _ h => h) (Or.inl ⟨by rfl, ?_⟩) ?_ ?_
 rotate_left
 ·intro w'
  go_simp
  with_reducible rfl
 rotate_left
 ·simp only [Act.put, List.setIfInBounds_toArray, List.set_cons_zero, List.set_cons_succ, i64_w, i32_w]
  rfl
 refine pure_ (i := 5) (N := some 23) (v := ?_) (a' := ?_) #[true, false, true, false, false, true, false, false, false, false, false, false, false, false] rfl rfl (any_of HT_.out (by kernel_rfl)) (fun _ _ _ h => h) (Or.inl ⟨by rfl, ?_⟩) ?_ ?_
 rotate_left
 ·intro w'
  go_simp
  with_reducible rfl
 rotate_left
 ·simp only [Act.put, List.setIfInBounds_toArray, List.set_cons_zero, List.set_cons_succ, i64_w, i32_w]
  rfl
 refine pure_ (i := 8) (N := some 26) (v := ?_) (a' := ?_) #[true, false, true, false, false, true, false, false, true, false, false, false, false, false] rfl rfl (any_of HT_.out (by kernel_rfl)) (fun _ _ _ h => h) (Or.inl ⟨by rfl, ?_⟩) ?_ ?_
 rotate_left
 ·intro w'
  go_simp
  with_reducible rfl
 rotate_left
 ·simp only [Act.put, List.setIfInBounds_toArray, List.set_cons_zero, List.set_cons_succ, i64_w, i32_w]
  rfl
 refine take_ (i := 1) (N := some 19) (v := ?_) (a' := ?_) #[true, true, true, false, false, true, false, false, true, false, false, false, false, false] rfl rfl (take_ofW HT_.out HW_.out (by kernel_rfl)) (fun _ _ _ h => h) (Or.inl ⟨by rfl, ?_⟩) hHeld ?_ ?_
 rotate_left
 ·rintro w' ⟨s0, s1, s2, s3⟩
  go_simp
  with_reducible rfl
 rotate_left
 ·simp only [Act.put, List.setIfInBounds_toArray, List.set_cons_zero, List.set_cons_succ, i64_w, i32_w]
  rfl
 refine take_ (i := 3) (N := some 21) (v := ?_) (a' := ?_) #[true, true, true, true, false, true, false, false, true, false, false, false, false, false] rfl rfl (take_ofW HT_.out HW_.out (by kernel_rfl)) (fun _ _ _ h => h) (Or.inl ⟨by rfl, ?_⟩) hHeld ?_ ?_
 rotate_left
 ·rintro w' ⟨s0, s1, s2, s3⟩
  go_simp
  with_reducible rfl
 rotate_left
 ·simp only [Act.put, List.setIfInBounds_toArray, List.set_cons_zero, List.set_cons_succ, i64_w, i32_w]
  rfl
 refine take_ (i := 6) (N := some 24) (v := ?_) (a' := ?_) #[true, true, true, true, false, true, true, false, true, false, false, false, false, false] rfl rfl (take_ofW HT_.out HW_.out (by kernel_rfl)) (fun _ _ _ h => h) (Or.inl ⟨by rfl, ?_⟩) hHeld ?_ ?_
 rotate_left
 ·rintro w' ⟨s0, s1, s2, s3⟩
  go_simp
  with_reducible rfl
 rotate_left
 ·simp only [Act.put, List.setIfInBounds_toArray, List.set_cons_zero, List.set_cons_succ, i64_w, i32_w]
  rfl
 refine take_ (i := 9) (N := some 27) (v := ?_) (a' := ?_) #[true, true, true, true, false, true, true, false, true, true, false, false, false, false] rfl rfl (take_ofW HT_.out HW_.out (by kernel_rfl)) (fun _ _ _ h => h) (Or.inl ⟨by rfl, ?_⟩) hHeld ?_ ?_
 rotate_left
 ·rintro w' ⟨s0, s1, s2, s3⟩
  go_simp
  with_reducible rfl
 rotate_left
 ·simp only [Act.put, List.setIfInBounds_toArray, List.set_cons_zero, List.set_cons_succ, i64_w, i32_w]
  rfl
 refine one_ (i := 4) (N := some 22) #[true, true, true, true, true, true, true, false, true, true, false, false, false, false] rfl rfl (one_of HT_.out (by kernel_rfl)) (by decide) (fun K hK => ?_)
 refine goes_ Tryz.func75 (by kernel_rfl) rfl #[.slice B1 y.f1.length b1] (by rfl) rfl rfl (by simp only [List.map_toArray, List.map_cons, List.map_nil]; rfl) ?_
 with_reducible refine (slices_Clone_string_string.calls _ _ y.f1 x1 _ (Kd.C_below G1.out HB.out) M1.out AX1.out).mono ?_
 rintro e u1 ⟨v1, rfl, ho, hb⟩
 refine ⟨_, rfl, ?_⟩
 have LO1 := Aside0.mk hb.size
 have nr1 := Aside0.mk (Kd.R_mono (ok' := fun k => u0.heap.size ≤ k ∧ k < u1.heap.size) (Kd.R_lower (Kd.R_bound ho) (below_size HB.out)) (fun b hk => ⟨hk.2.1, hk.2.2.1⟩))
 have nkg4 := Aside0.mk (blk_below (g := g4) (o := .cells #[.string (⟨#[]⟩ : ByteArray), .slice none 0 0, .slice none 0 0, .slice none 0 0] 48 (0, 0)) BKg4.out hb)
 clear BKg4
 have BKg4 := nkg4
 clear nkg4
 have nkg7 := Aside0.mk (blk_below (g := g7) (o := .cells #[.string y.f0, .slice B1 y.f1.length b1, .slice B2 y.f2.length b2, .slice B3 y.f3.length b3] 48 (0, 0)) BKg7.out hb)
 clear BKg7
 have BKg7 := nkg7
 clear nkg7
 have n0_ := Aside0.mk (below_step HB.out hb)
 clear HB
 have HB := n0_
 clear n0_
 clear hb ho
 have O1 := nr1
 clear nr1
 obtain ⟨Av1, cv1, ev1⟩ := Kd.R_slice O1.out
 subst ev1
 refine hK.out _ _ ⟨(blk_cell BKg7.out 0).trans rfl, (blk_cell BKg7.out 1).trans rfl, (blk_cell BKg7.out 2).trans rfl, (blk_cell BKg7.out 3).trans rfl⟩ (fun hHeld => ?_)
 clear hK K
 refine norm_ (a' := ?_) ?_ ?_
 rotate_left
 ·show Act.put _ (some 22) _ = _
  simp only [Act.put, List.setIfInBounds_toArray, List.set_cons_zero, List.set_cons_succ, i64_w, i32_w]
  rfl
 refine one_ (i := 7) (N := some 25) #[true, true, true, true, true, true, true, true, true, true, false, false, false, false] rfl rfl (one_of HT_.out (by kernel_rfl)) (by decide) (fun K hK => ?_)
 refine goes_ Tryz.func75 (by kernel_rfl) rfl #[.slice B2 y.f2.length b2] (by rfl) rfl rfl (by simp only [List.map_toArray, List.map_cons, List.map_nil]; rfl) ?_
 with_reducible refine (slices_Clone_string_string.calls _ _ y.f2 x2 _ (Kd.C_below G2.out HB.out) M2.out AX2.out).mono ?_
 rintro e u2 ⟨v2, rfl, ho, hb⟩
 refine ⟨_, rfl, ?_⟩
 have LO2 := Aside0.mk hb.size
 have nr2 := Aside0.mk (Kd.R_mono (ok' := fun k => u1.heap.size ≤ k ∧ k < u2.heap.size) (Kd.R_lower (Kd.R_bound ho) (below_size HB.out)) (fun b hk => ⟨hk.2.1, hk.2.2.1⟩))
 have nr1 := Aside0.mk (Kd.R_below O1.out hb)
 clear O1
 have nkg4 := Aside0.mk (blk_below (g := g4) (o := .cells #[.string (⟨#[]⟩ : ByteArray), .slice none 0 0, .slice none 0 0, .slice none 0 0] 48 (0, 0)) BKg4.out hb)
 clear BKg4
 have BKg4 := nkg4
 clear nkg4
 have nkg7 := Aside0.mk (blk_below (g := g7) (o := .cells #[.string y.f0, .slice B1 y.f1.length b1, .slice B2 y.f2.length b2, .slice B3 y.f3.length b3] 48 (0, 0)) BKg7.out hb)
 clear BKg7
 have BKg7 := nkg7
 clear nkg7
 have n0_ := Aside0.mk (below_step HB.out hb)
 clear HB
 have HB := n0_
 clear n0_
 clear hb ho
 have O1 := nr1
 clear nr1
 have O2 := nr2
 clear nr2
 obtain ⟨Av2, cv2, ev2⟩ := Kd.R_slice O2.out
 subst ev2
 refine hK.out _ _ ⟨(blk_cell BKg7.out 0).trans rfl, (blk_cell BKg7.out 1).trans rfl, (blk_cell BKg7.out 2).trans rfl, (blk_cell BKg7.out 3).trans rfl⟩ (fun hHeld => ?_)
 clear hK K
 refine norm_ (a' := ?_) ?_ ?_
 rotate_left
 ·show Act.put _ (some 25) _ = _
  simp only [Act.put, List.setIfInBounds_toArray, List.set_cons_zero, List.set_cons_succ, i64_w, i32_w]
  rfl
 refine one_ (i := 10) (N := some 28) #[true, true, true, true, true, true, true, true, true, true, true, false, false, false] rfl rfl (one_of HT_.out (by kernel_rfl)) (by decide) (fun K hK => ?_)
 refine goes_ Tryz.func75 (by kernel_rfl) rfl #[.slice B3 y.f3.length b3] (by rfl) rfl rfl (by simp only [List.map_toArray, List.map_cons, List.map_nil]; rfl) ?_
 with_reducible refine (slices_Clone_string_string.calls _ _ y.f3 x3 _ (Kd.C_below G3.out HB.out) M3.out AX3.out).mono ?_
 rintro e u3 ⟨v3, rfl, ho, hb⟩
 refine ⟨_, rfl, ?_⟩
 have LO3 := Aside0.mk hb.size
 have nr3 := Aside0.mk (Kd.R_mono (ok' := fun k => u2.heap.size ≤ k ∧ k < u3.heap.size) (Kd.R_lower (Kd.R_bound ho) (below_size HB.out)) (fun b hk => ⟨hk.2.1, hk.2.2.1⟩))
 have nr1 := Aside0.mk (Kd.R_below O1.out hb)
 clear O1
 have nr2 := Aside0.mk (Kd.R_below O2.out hb)
 clear O2
 have nkg4 := Aside0.mk (blk_below (g := g4) (o := .cells #[.string (⟨#[]⟩ : ByteArray), .slice none 0 0, .slice none 0 0, .slice none 0 0] 48 (0, 0)) BKg4.out hb)
 clear BKg4
 have BKg4 := nkg4
 clear nkg4
 have nkg7 := Aside0.mk (blk_below (g := g7) (o := .cells #[.string y.f0, .slice B1 y.f1.length b1, .slice B2 y.f2.length b2, .slice B3 y.f3.length b3] 48 (0, 0)) BKg7.out hb)
 clear BKg7
 have BKg7 := nkg7
 clear nkg7
 have n0_ := Aside0.mk (below_step HB.out hb)
 clear HB
 have HB := n0_
 clear n0_
 clear hb ho
 have O1 := nr1
 clear nr1
 have O2 := nr2
 clear nr2
 have O3 := nr3
 clear nr3
 obtain ⟨Av3, cv3, ev3⟩ := Kd.R_slice O3.out
 subst ev3
 refine hK.out _ _ ⟨(blk_cell BKg7.out 0).trans rfl, (blk_cell BKg7.out 1).trans rfl, (blk_cell BKg7.out 2).trans rfl, (blk_cell BKg7.out 3).trans rfl⟩ (fun hHeld => ?_)
 clear hK K
 refine norm_ (a' := ?_) ?_ ?_
 rotate_left
 ·show Act.put _ (some 28) _ = _
  simp only [Act.put, List.setIfInBounds_toArray, List.set_cons_zero, List.set_cons_succ, i64_w, i32_w]
  rfl
 refine pure_ (i := 11) (N := some 29) (v := ?_) (a' := ?_) #[true, true, true, true, true, true, true, true, true, true, true, true, false, false] rfl rfl (any_of HT_.out (by kernel_rfl)) (fun _ _ _ h => h) (Or.inl ⟨by rfl, ?_⟩) ?_ ?_
 rotate_left
 ·intro w'
  go_simp
  with_reducible rfl
 rotate_left
 ·simp only [Act.put, List.setIfInBounds_toArray, List.set_cons_zero, List.set_cons_succ, i64_w, i32_w]
  rfl
 refine last_ (i := 12) (N := none) #[true, true, true, true, true, true, true, true, true, true, true, true, true, false] rfl rfl (one_of HT_.out (by kernel_rfl)) (by decide) (fun K hK => ?_)
 have hq0u3 : u3.cell? ⟨g4, 0, none⟩ = some (.string (⟨#[]⟩ : ByteArray)) := (blk_cell BKg4.out 0).trans rfl
 have hf0u3 := blk_frozen BKg4.out 0
 have hq1u3 : u3.cell? ⟨g4, 1, none⟩ = some (.slice none 0 0) := (blk_cell BKg4.out 1).trans rfl
 have hf1u3 := blk_frozen BKg4.out 1
 have hq2u3 : u3.cell? ⟨g4, 2, none⟩ = some (.slice none 0 0) := (blk_cell BKg4.out 2).trans rfl
 have hf2u3 := blk_frozen BKg4.out 2
 have hq3u3 : u3.cell? ⟨g4, 3, none⟩ = some (.slice none 0 0) := (blk_cell BKg4.out 3).trans rfl
 have hf3u3 := blk_frozen BKg4.out 3
 refine skip_ (w1 := ?_) (by rfl) rfl ?_ ?_
 rotate_left
 ·go_simp
  rfl
 refine hK.out _ _ ?_
 clear hK K
 refine pure_ (i := 13) (N := some 5) (v := ?_) (a' := ?_) #[true, true, true, true, true, true, true, true, true, true, true, true, true, true] rfl rfl (any_of HT_.out (by kernel_rfl)) (fun _ _ _ h => h) (Or.inl ⟨by rfl, ?_⟩) ?_ ?_
 rotate_left
 ·intro w'
  go_simp
  with_reducible rfl
 rotate_left
 ·simp only [Act.put, List.setIfInBounds_toArray, List.set_cons_zero, List.set_cons_succ, i64_w, i32_w]
  rfl
 refine done_ (done_of HT_.out (by kernel_rfl)) ?_
 go_wp2
 refine bodyPost_ret (results_ct rfl _ _ g4 48 #[.string y.f0, .slice Av1 x1.length cv1, .slice Av2 x2.length cv2, .slice Av3 x3.length cv3] (0, 0) _ rfl (by (with_reducible repeat (first | refine blk_drewN ?_ _ | refine blk_drew ?_ | refine blk_alloc ?_ _)); refine blk_put (cs := #[.string y.f0, .slice Av1 x1.length cv1, .slice Av2 x2.length cv2, .slice none 0 0]) ?_ 3 _ rfl; refine blk_put (cs := #[.string y.f0, .slice Av1 x1.length cv1, .slice none 0 0, .slice none 0 0]) ?_ 2 _ rfl; refine blk_put (cs := #[.string y.f0, .slice none 0 0, .slice none 0 0, .slice none 0 0]) ?_ 1 _ rfl; refine blk_put (cs := #[.string (⟨#[]⟩ : ByteArray), .slice none 0 0, .slice none 0 0, .slice none 0 0]) ?_ 0 _ rfl; exact BKg4.out) Tryz.underlying48 rfl (by kernel_rfl)) rfl ?_
 have b1_ := O1.out.1
 have b2_ := O2.out.1
 have b3_ := O3.out.1
 have l2_ := LO2.out
 have l3_ := LO3.out
 exact ⟨_, _, _, rfl, Kd.R_mono (Kd.R_far (p := ⟨g4, 3, none⟩) (Kd.R_far (p := ⟨g4, 2, none⟩) (Kd.R_far (p := ⟨g4, 1, none⟩) (Kd.R_far (p := ⟨g4, 0, none⟩) (Kd.R_types O1.out BKg4.out (by decide)) (fun _ hk => hk.2) (.string y.f0)) (fun _ hk => hk.2) (.slice Av1 x1.length cv1)) (fun _ hk => hk.2) (.slice Av2 x2.length cv2)) (fun _ hk => hk.2) (.slice Av3 x3.length cv3)) (fun k hk => ⟨fun e => by have := b2_ k e.symm; have := hk.1; omega, fun e => by have := b3_ k e.symm; have := hk.1; omega⟩), Kd.R_mono (Kd.R_far (p := ⟨g4, 3, none⟩) (Kd.R_far (p := ⟨g4, 2, none⟩) (Kd.R_far (p := ⟨g4, 1, none⟩) (Kd.R_far (p := ⟨g4, 0, none⟩) (Kd.R_types O2.out BKg4.out (by decide)) (fun _ hk => hk.2) (.string y.f0)) (fun _ hk => hk.2) (.slice Av1 x1.length cv1)) (fun _ hk => hk.2) (.slice Av2 x2.length cv2)) (fun _ hk => hk.2) (.slice Av3 x3.length cv3)) (fun k hk => ⟨fun e => by have := b1_ k e.symm; have := hk.1; omega, fun e => by have := b3_ k e.symm; have := hk.1; omega⟩), Kd.R_mono (Kd.R_far (p := ⟨g4, 3, none⟩) (Kd.R_far (p := ⟨g4, 2, none⟩) (Kd.R_far (p := ⟨g4, 1, none⟩) (Kd.R_far (p := ⟨g4, 0, none⟩) (Kd.R_types O3.out BKg4.out (by decide)) (fun _ hk => hk.2) (.string y.f0)) (fun _ hk => hk.2) (.slice Av1 x1.length cv1)) (fun _ hk => hk.2) (.slice Av2 x2.length cv2)) (fun _ hk => hk.2) (.slice Av3 x3.length cv3)) (fun k hk => ⟨fun e => by have := b1_ k e.symm; have := hk.1; omega, fun e => by have := b2_ k e.symm; have := hk.1; omega⟩), by repeat (first | (with_reducible first | exact HB.out | refine below_set ?_ GEg4.out) | exact HB.out)⟩
end Go.Proofs.YtdlbcamnimdfjaaGreatDoor.PFnExactTreeNew
