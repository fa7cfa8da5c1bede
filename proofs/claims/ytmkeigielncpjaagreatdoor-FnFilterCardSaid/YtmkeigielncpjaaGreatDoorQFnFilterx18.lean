-- Laid by this session's own program out of the translation; Lean checks it.
import Derived.Test.YtmkeigielncpjaaGreatDoorQFnFilterx0
import Derived.Test.YtmkeigielncpjaaGreatDoorQFnFilterx11
import Derived.Test.YtmkeigielncpjaaGreatDoorQFnFilterx17
import Derived.Shelf.Sort.Plain
import Derived.Shelf.Slices.In.SortNone
import Derived.Shelf.Slices.CompactS
import Derived.Sort.OwnSorted
import Derived.Lib.OwnBridge
import Derived.Lib.AppendZeros
import Derived.Test.YtmkeigielncpjaaGreatDoorLaySort
import Derived.Test.YtmkeigielncpjaaGreatDoorLayCompact
namespace Go.Proofs.YtmkeigielncpjaaGreatDoor.PFnFilter
open Go.RowKit Go.Proofs.YtmkeigielncpjaaGreatDoorW.PrintWords Go.Proofs.YtmkeigielncpjaaGreatDoorW.PrintLast Go.Proofs.YtmkeigielncpjaaGreatDoorW.PrintMore
attribute [local go_sem] max2_int min2_int max_two min_two max_three min_three max_four min_four   -- for this text's walks alone
set_option linter.unusedVariables false
set_option linter.unusedSimpArgs false
def Gx.f (k : Nat) (a0 : ByteArray) : Option ((List (S64)) × Int) := if (a0.size : Int) > 8000 then (some (([] : List (S64)), 2)) else ((Qr.f k a0).bind fun bt285 => (if bt285.2 = true then (some (bt285.1, 0)) else (some (([] : List (S64)), 3))))
theorem Gx.mono : ∀ a0 k, LeO (Gx.f k a0) (Gx.f (k + 1) a0) := by
 intro a0 k
 unfold Gx.f
 with_reducible repeat' first | exact Qr.mono _ _ | exact LeO.refl _ | exact LeO.none _ | refine LeO.ite ?_ ?_ | refine LeO.bind ?_ (fun _ => ?_)
set_option maxHeartbeats 8000000 in
set_option maxRecDepth 100000 in
theorem Gx.calls (k : Nat) (a0 : ByteArray) (r1 : List (S64)) (r2 : Int) (w : World) (h : Gx.f k a0 = some (r1, r2)) :
  Calls Tryz.prog 12 #[.string a0] w fun e w' => ∃ v0_ : Value, e = .returned (.agg #[v0_, .int .i64 r2]) ∧ Kd.R k64 64 w' w.heap.size (fun _ => True) v0_ r1 ∧ Below w.heap.size w w' := by
 have hu30 := Tryz.underlying30
 have HB := Aside0.mk (Below.refl w.heap.size w)
 have H : (if (a0.size : Int) > 8000 then (some (([] : List (S64)), 2)) else ((Qr.f k a0).bind fun bt285 => (if bt285.2 = true then (some (bt285.1, 0)) else (some (([] : List (S64)), 3))))) = some (r1, r2) := h
 clear h
 by_cases c2 : (a0.size : Int) > 8000
 ·rw [if_pos c2] at H
  have c2b0 : decide (8000 < (a0.size : Int)) = true := decide_eq_true c2
  have c2b1 : decide (8000 < a0.size) = true := decide_eq_true (by omega)
  clear c2
  obtain ⟨rfl, rfl⟩ := SPz H
  go_enter Tryz.func12, Tryz.ntmps12
  go_wp2_with (first | ((with_reducible refine gate_dst (N := 2) rfl ?_); refine box_event ?hg (N := 2) ?hd (cs := #[.slice none 0 0, .int .i64 0]) (t := 30) ?hr ?_; (case hd => rfl); (case hg => rfl); (case hr => first | (go_simp; done) | (go_simp; rfl)); intro gb284 hg w3 hbox hb; have n0_ := Aside0.mk (below_step HBa hb); have n1_ := Aside0.mk (hbox); have n2_ := BSz w hg HBa; have n3_ := BSz w hg HBa; clear HB; have HB := n0_; have BK284 := n1_; have GW284 := n2_; have GE284 := n3_; clear n0_ n1_ n2_ n3_; clear hb hbox hg; have hcz4_0 := C1z BK284; have hcz4_1 := C2z BK284; have hfz4_0 := blk_frozen BK284.out 0; have hfz4_1 := blk_frozen BK284.out 1))
  refine bodyPost_ret (results_cell_row rfl _ _ gb284 30 #[.slice none 0 0, .int .i64 2] (0, 0) _ rfl (by (with_reducible repeat first | apply blk_drewN | apply blk_drew | apply blk_alloc); refine blk_put (cs := #[.slice none 0 0, .int .i64 0]) ?_ 1 _ rfl; (with_reducible repeat first | apply blk_drewN | apply blk_drew | apply blk_alloc); refine blk_put (cs := #[.slice none 0 0, .int .i64 0]) ?_ 0 _ rfl; (with_reducible repeat first | apply blk_drewN | apply blk_drew | apply blk_alloc); exact BK284.out) Tryz.underlying30 rfl (by kernel_rfl)) rfl ?_
  exact ⟨_, EZa, by first | exact Kd.R_nil _ _ _ _ _ | exact Kd.N_nil _ _ _ _ _ | exact Kd.V_nil _ _ _ _ _ | exact Kd.Q_nil _ _ _ _ _ | exact Kd.S_nil _ _ _ _ _, HBb GE284⟩
 rw [if_neg c2] at H
 have c2b0 : decide (8000 < (a0.size : Int)) = false := decide_eq_false c2
 have c2b1 : decide (8000 < a0.size) = false := decide_eq_false (by omega)
 clear c2
 replace H := Option.bind_eq_some_iff.mp H
 obtain ⟨⟨t285, t286⟩, A50, H⟩ := H
 replace H : (if t286 = true then (some (t285, 0)) else (some (([] : List (S64)), 3))) = some (r1, r2) := H
 have A5 := Aside0.mk A50
 clear A50
 by_cases c6 : t286 = true
 ·subst c6
  have H1 : (some (t285, 0)) = some (r1, r2) := by rw [if_pos rfl] at H; exact H
  clear H
  have H := H1
  clear H1
  obtain ⟨rfl, rfl⟩ := SPz H
  go_enter Tryz.func12, Tryz.ntmps12
  go_wp2_with (first | ((with_reducible refine gate_dst (N := 2) rfl ?_); refine box_event ?hg (N := 2) ?hd (cs := #[.slice none 0 0, .int .i64 0]) (t := 30) ?hr ?_; (case hd => rfl); (case hg => rfl); (case hr => first | (go_simp; done) | (go_simp; rfl)); intro gb284 hg w7 hbox hb; have n0_ := Aside0.mk (below_step HBa hb); have n1_ := Aside0.mk (hbox); have n2_ := BSz w hg HBa; have n3_ := BSz w hg HBa; clear HB; have HB := n0_; have BK284 := n1_; have GW284 := n2_; have GE284 := n3_; clear n0_ n1_ n2_ n3_; clear hb hbox hg) | ((with_reducible refine gate_callee (f := 42) rfl ?_); refine goesL_ (some 11) rfl rfl Tryz.func42 (by kernel_rfl) rfl #[.string a0] rfl MPz ?_; (with_reducible refine (Qr.calls k a0 t285 true _ A5.out).mono ?_); rintro e w8 ⟨v287, rfl, ho0, hb⟩; refine ⟨_, rfl, ?_⟩; have n0_ := Aside0.mk (Kd.R_lower ho0 (below_size (HBb GE284))); have n1_ := BBz BK284 hb; have n2_ := Aside0.mk (below_step (HBb GE284) hb); clear BK284; clear HB; have HO288 := n0_; have BK284 := n1_; have HB := n2_; clear n0_ n1_ n2_; (try clear hb); (try clear hb2); (try clear hk); (try clear hi); (try clear ho0); obtain ⟨Ao9, co9, eo9⟩ := Kd.R_slice HO288.out; subst eo9; have hcz10_0 := C1z BK284; have hcz10_1 := C2z BK284; have hfz10_0 := blk_frozen BK284.out 0; have hfz10_1 := blk_frozen BK284.out 1))
  refine bodyPost_ret (results_cell_row rfl _ _ gb284 30 #[.slice Ao9 t285.length co9, .int .i64 0] (0, 0) _ rfl (by (with_reducible repeat first | apply blk_drewN | apply blk_drew | apply blk_alloc); refine blk_put (cs := #[.slice Ao9 t285.length co9, .int .i64 0]) ?_ 1 _ rfl; (with_reducible repeat first | apply blk_drewN | apply blk_drew | apply blk_alloc); refine blk_put (cs := #[.slice none 0 0, .int .i64 0]) ?_ 0 _ rfl; (with_reducible repeat first | apply blk_drewN | apply blk_drew | apply blk_alloc); exact BK284.out) Tryz.underlying30 rfl (by kernel_rfl)) rfl ?_
  exact ⟨_, EZa, by (with_reducible repeat (first | apply Kd.R_alloc | apply Kd.R_drewN | apply Kd.R_drew)); exact Kd.R_mono (Kd.R_far (p := ⟨gb284, 1, none⟩) (Kd.R_far (p := ⟨gb284, 0, none⟩) (Kd.R_types HO288.out BK284.out (by decide)) (fun _ hk => hk.2) (.slice Ao9 t285.length co9)) (fun _ hk => hk.2) (.int .i64 0)) (fun _ hk => trivial), HBb GE284⟩
 replace c6 := Bool.eq_false_iff.mpr c6
 subst c6
 have H1 : (some (([] : List (S64)), 3)) = some (r1, r2) := by rw [if_neg (show ¬ (false = true) by decide)] at H; exact H
 clear H
 have H := H1
 clear H1
 obtain ⟨rfl, rfl⟩ := SPz H
 go_enter Tryz.func12, Tryz.ntmps12
 go_wp2_with (first | ((with_reducible refine gate_dst (N := 2) rfl ?_); refine box_event ?hg (N := 2) ?hd (cs := #[.slice none 0 0, .int .i64 0]) (t := 30) ?hr ?_; (case hd => rfl); (case hg => rfl); (case hr => first | (go_simp; done) | (go_simp; rfl)); intro gb284 hg w11 hbox hb; have n0_ := Aside0.mk (below_step HBa hb); have n1_ := Aside0.mk (hbox); have n2_ := BSz w hg HBa; have n3_ := BSz w hg HBa; clear HB; have HB := n0_; have BK284 := n1_; have GW284 := n2_; have GE284 := n3_; clear n0_ n1_ n2_ n3_; clear hb hbox hg) | ((with_reducible refine gate_callee (f := 42) rfl ?_); refine goesL_ (some 11) rfl rfl Tryz.func42 (by kernel_rfl) rfl #[.string a0] rfl MPz ?_; (with_reducible refine (Qr.calls k a0 t285 false _ A5.out).mono ?_); rintro e w12 ⟨v287, rfl, ho0, hb⟩; refine ⟨_, rfl, ?_⟩; have n0_ := Aside0.mk (Kd.R_lower ho0 (below_size (HBb GE284))); have n1_ := BBz BK284 hb; have n2_ := Aside0.mk (below_step (HBb GE284) hb); clear BK284; clear HB; have HO288 := n0_; have BK284 := n1_; have HB := n2_; clear n0_ n1_ n2_; (try clear hb); (try clear hb2); (try clear hk); (try clear hi); (try clear ho0); have hcz13_0 := C1z BK284; have hcz13_1 := C2z BK284; have hfz13_0 := blk_frozen BK284.out 0; have hfz13_1 := blk_frozen BK284.out 1))
 refine bodyPost_ret (results_cell_row rfl _ _ gb284 30 #[.slice none 0 0, .int .i64 3] (0, 0) _ rfl (by (with_reducible repeat first | apply blk_drewN | apply blk_drew | apply blk_alloc); refine blk_put (cs := #[.slice none 0 0, .int .i64 0]) ?_ 1 _ rfl; (with_reducible repeat first | apply blk_drewN | apply blk_drew | apply blk_alloc); refine blk_put (cs := #[.slice none 0 0, .int .i64 0]) ?_ 0 _ rfl; (with_reducible repeat first | apply blk_drewN | apply blk_drew | apply blk_alloc); exact BK284.out) Tryz.underlying30 rfl (by kernel_rfl)) rfl ?_
 exact ⟨_, EZa, by first | exact Kd.R_nil _ _ _ _ _ | exact Kd.N_nil _ _ _ _ _ | exact Kd.V_nil _ _ _ _ _ | exact Kd.Q_nil _ _ _ _ _ | exact Kd.S_nil _ _ _ _ _, HBb GE284⟩
def Gr.u (l : List ByteArray) : List ByteArray := (Lib.compact ((l.map (·.data.toList)).mergeSort fun x y => decide (x ≤ y))).map fun b => (⟨b.toArray⟩ : ByteArray)
def Gr.f (l0 : List (List ByteArray)) : Option (List ByteArray) := if l0.flatten.length < 4398046511104 then some (Gr.u l0.flatten) else none
theorem Gr.u_back (l : List (List UInt8)) : (l.map fun b => (⟨b.toArray⟩ : ByteArray)).map Value.string = l.map Go.Proofs.encStr := by
 rw [List.map_map]; rfl
theorem Gr.own_of (w : World) (g cap base : Nat) (cur : Array Value) (h : w.heap[g]? = some (.cells cur 9 (0, 0))) (hb : base ≤ g) (hc : cap ≤ 9223372036854775807) (hs : cur.size = cap) : Kd.R Kd.string 9 w base (fun _ => True) (.slice (some ⟨g, 0, none⟩) 0 cap) [] :=
 ⟨fun _ _ => trivial, [], ⟨rfl, .inr ⟨g, cap, cur, rfl, hb, h, Nat.zero_le _, hc, (by show cur.size = cap * 1; omega), by simp⟩⟩, Reps.none _ _⟩
set_option maxHeartbeats 8000000 in
set_option maxRecDepth 100000 in
theorem Gr.grow (n : Nat) (hn : n < 4398046511104) (w : World) :
  Calls Tryz.prog 157 #[.slice none 0 0, .int .i64 (n : Int)] w fun e w' => ∃ v0_ : Value, e = .returned v0_ ∧ Kd.R Kd.string 9 w' w.heap.size (fun _ => True) v0_ [] ∧ Below w.heap.size w w' := by
 rcases Nat.eq_zero_or_pos n with h0 | h0
 ·subst h0
  go_enter Tryz.func157, Tryz.ntmps157
  go_wp2
  go_ret
  exact ⟨_, rfl, Kd.R_nil _ _ _ _ _, Below.refl _ _⟩
 ·have c1 : decide ((n : Int) < 0) = false := decide_eq_false (by omega)
  have c2 : decide ((n : Int) > 0) = true := decide_eq_true (by omega)
  have c3 : decide (0 < (n : Int)) = true := decide_eq_true (by omega)
  have c4 : decide (0 < n) = true := decide_eq_true (by omega)
  have c5 : wrap64 (n : Int) = (n : Int) := by unfold wrap64; omega
  have hr := fun (W : World) (ty : TypeId) => Go.Lib.run_append_nil_zeros (P := Tryz.prog) W 39 3 ty 9 _ _ .i64 .i64 Tryz.underlying39 Tryz.underlying3 (by kernel_rfl : Tryz.prog.info? 9 = some Tryz.t9) rfl n h0 (by decide) (by omega) (by show n * 16 ≤ _; omega)
  have HRun := Aside0.mk hr
  clear hr
  go_enter Tryz.func157, Tryz.ntmps157
  go_wp2_with ((with_reducible refine gate_builtin (b := .append) (xs := #[.tmp 20, .tmp 21]) rfl ?_); at_builtin; refine Go.Lib.wpList_append_run _ rfl (.tmp 20) (.tmp 21) 39 3 rfl _ _ rfl rfl _ _ (HRun.out _ _) ?_)
  go_ret
  have hc := grownCap_ge w n 0 9
  exact ⟨_, rfl, Kd.R_drew (Gr.own_of _ _ (grownCap w n 0 9) _ (Builtin.zeroCells #[Value.string ⟨#[]⟩] n ++ Builtin.zeroCells #[Value.string ⟨#[]⟩] (grownCap w n 0 9 - n)) (Go.heap_alloc_new _ _) (Nat.le_refl _) (grownCap_le_maxLen w n 0 9 (by show n ≤ 9223372036854775807; omega)) (by rw [Array.size_append, Go.size_zeroCells, Go.size_zeroCells]; show n * 1 + (grownCap w n 0 9 - n) * 1 = _; omega)), below_drew (below_alloc (Below.refl _ _) _)⟩
def Gr.fl (xs : List (List ByteArray)) (j : Nat) : List ByteArray := (xs.take j).flatten
def Gr.rdL (xs : List (List ByteArray)) (i : Int) : List ByteArray := xs.getD i.toNat []
theorem Gr.at_ss {w : World} {A : Option Addr} {n : Nat} {xs : List (List ByteArray)} (h : Kd.C (Kd.slice 9 Kd.string) w A n xs) (i : Int) (h0 : 0 ≤ i) (h1 : i < n) :
  ∃ ad B c, A = some ad ∧ w.cell? (ad.add i.toNat) = some (.slice B (Gr.rdL xs i).length c) ∧ (Gr.rdL xs i).length ≤ c ∧ Kd.C Kd.string w B (Gr.rdL xs i).length (Gr.rdL xs i) := by
 obtain ⟨ad, cs, e, hl, ⟨B, c, rfl, hc, hr⟩, hcell⟩ := ReadsRow.get_ h [] i h0 h1
 refine ⟨ad, B, c, e, ?_, hc, hr⟩
 have := hcell 0 _ rfl
 rwa [show i.toNat * (Kd.slice 9 Kd.string).sz + 0 = i.toNat from Nat.mul_one _] at this
theorem Gr.take_step {xs : List (List ByteArray)} {j : Nat} (hj : j < xs.length) : Gr.fl xs (j + 1) = Gr.fl xs j ++ Gr.rdL xs (j : Int) := by
 unfold Gr.fl
 rw [List.take_succ_eq_append_getElem hj, List.flatten_append]
 congr 1
 unfold Gr.rdL
 rw [List.getD_eq_getElem?_getD, show (j : Int).toNat = j from rfl, List.getElem?_eq_getElem hj]
 simp
theorem Gr.take_le (xs : List (List ByteArray)) (j : Nat) : (Gr.fl xs j).length ≤ xs.flatten.length := by
 unfold Gr.fl
 conv => rhs; rw [← List.take_append_drop j xs, List.flatten_append, List.length_append]
 omega
set_option maxHeartbeats 8000000 in
set_option maxRecDepth 100000 in
theorem Gr.concat (A0 : Option Addr) (c0 : Nat) (l0 : List (List ByteArray)) (w : World) (hr0 : Kd.C (Kd.slice 9 Kd.string) w A0 l0.length l0) (hn : l0.flatten.length < 4398046511104) :
  Calls Tryz.prog 123 #[.slice A0 l0.length c0] w fun e w' => ∃ v0_ : Value, e = .returned v0_ ∧ Kd.R Kd.string 9 w' w.heap.size (fun _ => True) v0_ l0.flatten ∧ Below w.heap.size w w' := by
 have HR0 := Aside0.mk hr0
 have HN := Aside0.mk hn
 clear hr0 hn
 have HB := Aside0.mk (Below.refl w.heap.size w)
 go_enter Tryz.func123, Tryz.ntmps123
 go_wp2
 go_loopg [3, 11] l0.length (fun kq v3 v11 w' => ∃ j : Nat, v11 = .int .i64 (j : Int) ∧ v3 = .int .i64 ((Gr.fl l0 j).length : Int) ∧ Aside0 (j ≤ l0.length) ∧ Aside0 (l0.length - j ≤ kq) ∧ Aside0 (Below w.heap.size w w'))
 case atStart => exact ⟨0, rfl, rfl, ⟨Nat.zero_le _⟩, ⟨by omega⟩, HB⟩
 case round =>
  obtain ⟨j, rfl, rfl, HJ, HK, HB⟩ := hrel
  have hj2 := Gr.take_le l0 (j + 1)
  by_cases c1 : (j : Int) < (l0.length : Int)
  ·have c1b0 := decide_eq_true c1
   have c1b1 : decide (j < l0.length) = true := decide_eq_true (by omega)
   have hj : j < l0.length := by omega
   have p1 : 0 ≤ (j : Int) := by omega
   obtain ⟨ad1, B1, b1, e1, hx1, hl1, hr1⟩ := Gr.at_ss HR0.out (j : Int) p1 c1
   cases e1
   replace hx1 := HXz HB hx1
   simp only [Int.toNat_natCast] at hx1
   have hst := congrArg List.length (Gr.take_step hj)
   rw [List.length_append] at hst
   have hN := HN.out
   have hw : wrap64 (((Gr.fl l0 j).length : Int) + ((Gr.rdL l0 (j : Int)).length : Int)) = ((Gr.fl l0 (j + 1)).length : Int) := by unfold wrap64; omega
   have hw0 : decide (((Gr.fl l0 (j + 1)).length : Int) < 0) = false := decide_eq_false (by omega)
   clear hr1 hl1 hst hN hj2
   have c1i := eq_true c1
   have HJ2 := Aside0.mk hj
   clear hj c1
   go_wp2
   go_roundg (l0.length - (j + 1))
   case measure => have := HK.out; have := HJ2.out; omega
   case rel => exact ⟨j + 1, by have hb := HR0.out.2.1; have := HJ2.out; first | rfl | go_num | (congr 1; unfold wrap64; omega), by first | rfl | exact congrArg _ hw, ⟨HJ2.out⟩, ⟨Nat.le_refl _⟩, HB⟩
  have c1b0 := decide_eq_false c1
  have c1b1 : decide (j < l0.length) = false := decide_eq_false (by omega)
  have hje : j = l0.length := by have := HJ.out; omega
  subst hje
  clear c1 hj2
  have hgrow := fun W => Gr.grow (Gr.fl l0 l0.length).length (by have := Gr.take_le l0 l0.length; have := HN.out; omega) W
  go_wp2_with (go_at_call 157; refine (hgrow _).mono ?_; rintro e w3 ⟨v0, rfl, ho, hb⟩; have n0_ := Aside0.mk (Kd.R_lower ho (below_size HB.out)); have n1_ := Aside0.mk (below_step HB.out hb); clear HB; have HO := n0_; have HB := n1_; clear n0_ n1_ ho hb)
  go_loopg [6, 27] l0.length (fun kq v6 v27 w' => ∃ j : Nat, v27 = .int .i64 (j : Int) ∧ Aside0 (Kd.R Kd.string 9 w' w.heap.size (fun _ => True) v6 (Gr.fl l0 j)) ∧ Aside0 (j ≤ l0.length) ∧ Aside0 (l0.length - j ≤ kq) ∧ Aside0 (Below w.heap.size w w'))
  case atStart => exact ⟨0, rfl, HO, ⟨Nat.zero_le _⟩, ⟨by omega⟩, HB⟩
  case round =>
   clear HO
   rename_i gk2 wr2 _ _ _ _ _
   obtain ⟨j, rfl, HO, HJ, HK, HB⟩ := hrel
   have hj2 := Gr.take_le l0 (j + 1)
   by_cases c1 : (j : Int) < (l0.length : Int)
   rotate_left
   ·have c1b0 := decide_eq_false c1
    have c1b1 : decide (j < l0.length) = false := decide_eq_false (by omega)
    have hje : j = l0.length := by have := HJ.out; omega
    subst hje
    clear c1 hj2
    go_wp2
    go_ret
    exact ⟨_, rfl, by have h_ := HO.out; unfold Gr.fl at h_; rwa [List.take_length] at h_, HB.out⟩
   have c1b0 := decide_eq_true c1
   have c1b1 : decide (j < l0.length) = true := decide_eq_true (by omega)
   have hj : j < l0.length := by omega
   have p1 : 0 ≤ (j : Int) := by omega
   obtain ⟨ad1, B1, b1, e1, hx1, hl1, hr1⟩ := Gr.at_ss HR0.out (j : Int) p1 c1
   cases e1
   replace hx1 := HXz HB hx1
   simp only [Int.toNat_natCast] at hx1
   have hst := Gr.take_step hj
   have hlen : (Gr.fl l0 j).length + (Gr.rdL l0 (j : Int)).length < 4398046511104 := by
    have h1 := congrArg List.length hst
    rw [List.length_append] at h1
    have := HN.out
    omega
   have HS := Aside0.mk hst
   have HL := Aside0.mk hlen
   have HR1 := Aside0.mk hr1
   clear hr1 hl1 hst hlen hj2
   have c1i := eq_true c1
   have HJ2 := Aside0.mk hj
   clear hj c1
   go_wp2_with ((with_reducible refine gate_builtin (b := .append) (xs := #[.tmp 31, .tmp 32]) rfl ?_); at_builtin; refine Kd.R_append_rows Kd.string (w0 := w) w.heap.size rfl (.tmp 31) (.tmp 32) 39 9 (.string ⟨#[]⟩) 16 rfl Tryz.underlying39 info9 rfl (by decide) (by omega) _ (Gr.fl l0 j) (Gr.rdL l0 (j : Int)) _ _ _ (fun _ => True) (fun _ => False) rfl rfl ?aO ?aR (fun _ _ h => h) (fun _ h => h.elim) ?aF ?aB ?aS ?aL ?_; (case aR => exact Kd.C_below HR1.out HB.out); (case aB => exact HB.out); (case aF => exact (fun _ _ => trivial)); (case aO => exact HO.out); (case aS => exact below_size HB.out); (case aL => have := HL.out; omega); intro v1 w6 ho hb hg hat; rw [← HS.out] at ho; have n0_ := Aside0.mk hb; have n1_ := Aside0.mk ho; clear HB; clear HO; have HB := n0_; have HO := n1_; clear n0_ n1_; clear ho hb hg hat)
   go_roundg (l0.length - (j + 1))
   case measure => have := HK.out; have := HJ2.out; omega
   case rel => exact ⟨j + 1, by have hb := HR0.out.2.1; have := HJ2.out; first | rfl | go_num | (congr 1; unfold wrap64; omega), HO, ⟨HJ2.out⟩, ⟨Nat.le_refl _⟩, HB⟩
theorem Gr.left {w w1 : World} {g cap nn q : Nat} {os : Array Obj} {ss : List (List UInt8)} (hown : w1.ownsRow w.heap.size 9 1 (.slice (some ⟨g, 0, none⟩) ss.length cap) ss.length (ss.map Go.Proofs.encStr)) (hbel : Below w.heap.size w w1) (hbg : w.heap.size ≤ g) :
  let c := Lib.compact (ss.mergeSort fun x y => decide (x ≤ y))
  let w3 := Go.Sort.putRow Go.Proofs.encStr (Go.Sort.ahead (Go.Sort.grow (Go.Sort.putRow Go.Proofs.encStr (Go.Sort.ahead w1 nn) g 0 (ss.mergeSort fun x y => decide (x ≤ y)).toArray) os) q) g 0 (c ++ List.replicate (ss.length - c.length) []).toArray
  w3.ownsRow w.heap.size 9 1 (.slice (some ⟨g, 0, none⟩) c.length cap) c.length (c.map Go.Proofs.encStr) ∧ Below w.heap.size w w3 := by
 intro c w3
 have hl2 : (ss.mergeSort fun x y => decide (x ≤ y)).length = ss.length := List.length_mergeSort ss
 have hle : c.length ≤ (ss.mergeSort fun x y => decide (x ≤ y)).length := Lib.compact_length_le (ss.mergeSort fun x y => decide (x ≤ y))
 rcases hown.2 with ⟨h0, _⟩ | ⟨g', cap', cur, hv, hbase, hb, h1, h2, h3, h4⟩
 ·cases h0
 cases hv
 have hs := Go.ownsRow_sorted (n := nn) (os := os) (ts := ss.mergeSort fun x y => decide (x ≤ y)) hl2 hbase hb h1 h2 h3
 have hc := Lib.ownsRow_putRow (q := q) (k := c.length) (ys := c ++ List.replicate (ss.length - c.length) []) hs (by rw [List.length_append, List.length_replicate]; omega) (by omega)
 rw [List.take_left] at hc
 exact ⟨hc, Lib.below_putRow (hbel.grown (Go.grownBy_sorted _) hbel.size (fun j hj => by cases hj; exact hbase)) hbg⟩
theorem Gr.compact_nil : Lib.compact ([] : List (List UInt8)) = [] := rfl
theorem Gr.u_nil : Gr.u [] = [] := by unfold Gr.u; simp [Gr.compact_nil]
set_option maxHeartbeats 8000000 in
set_option maxRecDepth 100000 in
theorem Gr.calls (A0 : Option Addr) (c0 : Nat) (l0 : List (List ByteArray)) (r : List ByteArray) (w : World) (hr0 : Kd.C (Kd.slice 9 Kd.string) w A0 l0.length l0) (hc0 : l0.length ≤ c0) (h : Gr.f l0 = some r) :
  Calls Tryz.prog 90 #[.slice A0 l0.length c0] w fun e w' => ∃ v0_ : Value, e = .returned (v0_) ∧ Kd.R Kd.string 9 w' w.heap.size (fun _ => True) v0_ r ∧ Below w.heap.size w w' := by
 unfold Gr.f at h
 by_cases hn : l0.flatten.length < 4398046511104
 case neg => rw [if_neg hn] at h; cases h
 rw [if_pos hn] at h
 obtain rfl := Option.some.inj h
 have hcc := Aside0.mk (Gr.concat A0 c0 l0 w hr0 hn)
 have HN := Aside0.mk hn
 clear hr0 hc0 h hn
 have HB := Aside0.mk (Below.refl w.heap.size w)
 generalize hxs : l0.flatten = xs at hcc HN ⊢
 clear hxs
 rcases Nat.eq_zero_or_pos xs.length with h0 | h0
 ·have hx : xs = [] := List.length_eq_zero_iff.1 h0
  subst hx
  clear h0
  go_enter Tryz.func90, Tryz.ntmps90
  go_wp2_with (first | (go_at_call 123; refine hcc.out.mono ?_; rintro e w1 ⟨v0, rfl, ho, hb⟩; obtain ⟨A, c, rfl⟩ := Kd.R_slice ho; have HO := Aside0.mk ho; have n1_ := Aside0.mk (below_step HB.out hb); clear HB; have HB := n1_; clear n1_ ho hb) | (go_at_call 124; refine (show Calls Tryz.prog 124 _ _ _ from Any.slices_Sort_string_none Tryz.lays190 A c _).mono ?_; rintro e w2 ⟨rfl, rfl⟩) | (go_at_call 125; refine (show Calls Tryz.prog 125 _ _ _ from Any.slices_Compact_string_empty Tryz.lays194 A c _).mono ?_; rintro e w3 ⟨rfl, rfl⟩))
  go_ret
  exact ⟨_, rfl, by rw [Gr.u_nil]; exact HO.out, HB.out⟩
 ·have H0 := Aside0.mk h0
  clear h0
  obtain ⟨zs, hzs⟩ : ∃ z_ : List (List UInt8), z_ = xs.map (·.data.toList) := ⟨_, rfl⟩
  have hzl : zs.length = xs.length := by rw [hzs, List.length_map]
  have hze : encs Value.string xs = zs.map Go.Proofs.encStr := by rw [hzs, Go.Lib.map_encStr]; rfl
  have HZ := Aside0.mk hzs
  have HZL := Aside0.mk hzl
  have HZE := Aside0.mk hze
  clear hzs hzl hze
  go_enter Tryz.func90, Tryz.ntmps90
  go_wp2_with (first
   | (go_at_call 123; refine hcc.out.mono ?_; rintro e w1 ⟨v0, rfl, ho, hb⟩; obtain ⟨g, cap, rfl, hbg, hgl, _⟩ := Kd.R_form ho H0.out; have hown := Kd.own_of_R ho; rw [HZE.out, ← HZL.out] at hown; obtain ⟨g', cap', e', _, _, hncap, hcm, hlen, hH⟩ := Go.Lib.holds_of_ownsRow hown (by intro h_; cases h_); cases e'; have hsort := Any.slices_Sort_string Tryz.lays190 g 0 cap zs w1 hH hgl (by have := HN.out; have := HZL.out; omega); rw [HZL.out] at hsort; have X := Aside0.mk (And.intro hown (And.intro hb (And.intro hbg (And.intro hgl (And.intro hncap (And.intro hcm hH)))))); have HS := Aside0.mk hsort; clear hown hb hbg hgl hncap hcm hH hsort ho hlen)
   | (go_at_call 124; refine (show Calls Tryz.prog 124 _ _ _ from HS.out).mono ?_; rintro e w2 ⟨rfl, nn, os, rfl⟩; have hl2 : (zs.mergeSort fun x y => decide (x ≤ y)).length = xs.length := (by rw [List.length_mergeSort]; exact HZL.out); have hH2 : Go.Sort.Holds Go.Proofs.encStr (Go.Sort.grow (Go.Sort.putRow Go.Proofs.encStr (Go.Sort.ahead w1 nn) g 0 (zs.mergeSort fun x y => decide (x ≤ y)).toArray) os) g 0 (zs.mergeSort fun x y => decide (x ≤ y)).toArray :=
      Go.Sort.holds_grow Go.Proofs.encStr _ os g 0 _ (by simpa [Go.Sort.putRow, Go.Sort.mapBlock, Go.Sort.ahead] using X.out.2.2.2.1) (Go.Sort.holds_putRow Go.Proofs.encStr _ g 0 _ _ (Go.Sort.holds_ahead Go.Proofs.encStr w1 nn g 0 _ X.out.2.2.2.2.2.2) (by simp)); have hcomp := Any.slices_Compact_string Tryz.lays194 g 0 cap (zs.mergeSort fun x y => decide (x ≤ y)) _ hH2 (by have := HN.out; omega) (by have := X.out.2.2.2.2.1; have := HZL.out; omega); rw [hl2] at hcomp; have HC := Aside0.mk hcomp; clear hl2 hH2 hcomp)
   | (go_at_call 125; refine (show Calls Tryz.prog 125 _ _ _ from HC.out).mono ?_; rintro e w3 ⟨rfl, q, rfl⟩))
  go_ret
  have hfin := Gr.left (nn := nn) (q := q) (os := os) X.out.1 X.out.2.1 X.out.2.2.1
  rw [HZL.out] at hfin
  have hl3 : (Gr.u xs).length = (Lib.compact (zs.mergeSort fun x y => decide (x ≤ y))).length := by unfold Gr.u; rw [List.length_map, HZ.out]
  exact ⟨_, rfl, Kd.R_of_own (by rw [hl3]; have h_ := hfin.1; rw [HZ.out] at h_ ⊢; unfold Gr.u encs; rw [Gr.u_back]; exact h_) (fun _ _ => trivial), hfin.2⟩
def Gh.l0 : Nat → List ByteArray → List (S64) → Int → Int → Option (List ByteArray)
 | 0, _, _, _, _ => none
 | k + 1, x3, x7, x8, x9 => if x9 < x8 then (if 0 ≤ x9 then (if x9 < (x7.length : Int) then (if ((rd_T64 x7 x9).f0) > 3 then (if x3.length < 8796093022208 then (Gh.l0 k (x3 ++ [(rd_T64 x7 x9).f1]) x7 x8 (wrap64 (x9 + 1))) else (none)) else (Gh.l0 k x3 x7 x8 (wrap64 (x9 + 1)))) else (none)) else (none)) else ((Gr.f (([x3] : List (List ByteArray)))).bind fun t300 => (some t300))
def Gh.f (k : Nat) (l0 : List (S64)) : Option (List ByteArray) := Gh.l0 k (([] : List ByteArray)) l0 (l0.length : Int) 0
theorem Gh.mono_l : ∀ k, (∀ y0 y1 y2 y3, LeO (Gh.l0 k y0 y1 y2 y3) (Gh.l0 (k + 1) y0 y1 y2 y3))
 | 0 => fun _ _ _ _ r h => by simp [Gh.l0] at h
 | k + 1 => by
  have ih0 := Gh.mono_l k
  ·intro y0 y1 y2 y3
   unfold Gh.l0
   with_reducible repeat' first | exact ih0 _ _ _ _ | exact LeO.refl _ | exact LeO.none _ | refine LeO.ite ?_ ?_ | refine LeO.bind ?_ (fun _ => ?_)
theorem Gh.mono : ∀ a0 k, LeO (Gh.f k a0) (Gh.f (k + 1) a0) := by
 intro a0 k
 have ih0 := Gh.mono_l k
 unfold Gh.f
 with_reducible repeat' first | exact ih0 _ _ _ _ | exact LeO.refl _ | exact LeO.none _ | refine LeO.ite ?_ ?_ | refine LeO.bind ?_ (fun _ => ?_)
set_option maxHeartbeats 8000000 in
set_option maxRecDepth 100000 in
theorem Gh.calls (k : Nat) (A0 : Option Addr) (c0 : Nat) (l0 : List (S64)) (r : List ByteArray) (w : World) (hr0 : Kd.C k64 w A0 l0.length l0) (hc0 : l0.length ≤ c0) (h : Gh.f k l0 = some r) :
  Calls Tryz.prog 54 #[.slice A0 l0.length c0] w fun e w' => ∃ v0_ : Value, e = .returned (v0_) ∧ Kd.R Kd.string 9 w' w.heap.size (fun _ => True) v0_ r ∧ Below w.heap.size w w' := by
 have hu64 := Tryz.underlying64
 have HR0 := Aside0.mk hr0
 have HC0 := Aside0.mk hc0
 clear hr0 hc0
 have HB := Aside0.mk (Below.refl w.heap.size w)
 have H : (Gh.l0 k (([] : List ByteArray)) l0 (l0.length : Int) 0) = some r := h
 clear h
 obtain ⟨y289, hy289⟩ : ∃ y_ : List ByteArray, y_ = (([] : List ByteArray)) := ⟨_, rfl⟩
 replace H : (Gh.l0 k y289 l0 (l0.length : Int) 0) = some r := by first | (rw [hy289]; with_reducible exact H) | (have H2_ := (Option.bind_some _ _).symm.trans H; rw [hy289]; with_reducible exact H2_) | (have H2_ := (Option.bind_some _ _).symm.trans H; with_reducible exact H2_) | with_reducible exact H | (rw [hy289]; exact H) | exact H
 have Ny289 := Aside0.mk hy289
 clear hy289
 have H' := Aside0.mk H
 clear H
 go_enter Tryz.func54, Tryz.ntmps54
 go_wp2_with (first | ((with_reducible refine gate_dst (N := 6) rfl ?_); refine Kd.R_lit Kd.string _ 9 ?hg (N := 6) ?hd (xs := ([] : List ByteArray)) (inner := []) (ok := fun _ => True) (okp := fun _ => True) ?hr ?hp (fun _ hk => hk) trivial (Below.refl _ _) (Nat.le_refl _) (by simp) ?_; (case hd => rfl); (case hg => rfl); (case hr => first | (go_simp; done) | (go_simp; rfl)); (case hp => exact (Reps.none _ _)); intro v290 w2 ho3 hb hg_ hnew_; clear hg_ hnew_; (first | rw [← Ny289.out] at ho3 | (simp only [Int.reduceToNat] at ho3; rw [← Ny289.out] at ho3)); have n0_ := Aside0.mk (Kd.R_lower ho3 (below_size HBa)); have n1_ := Aside0.mk (below_step HBa hb); clear HB; have HO291 := n0_; have HB := n1_; clear n0_ n1_; clear hb ho3))
 go_loopg [3, 9] k (fun kq v3 v9 w' => ∃ (x3_1 : List ByteArray) (x9_1 : Int), v9 = .int .i64 x9_1 ∧ Aside0 (Gh.l0 kq x3_1 l0 (l0.length : Int) x9_1 = some r) ∧ Aside0 (kq ≤ k) ∧ Aside0 (Kd.R Kd.string 9 w' w.heap.size (fun _ => True) v3 x3_1) ∧ Aside0 (Below w.heap.size w w'))
 case atStart => exact ⟨(y289), (0), EZc, H', ⟨Nat.le_refl _⟩, ⟨by (with_reducible repeat (first | apply Kd.R_alloc | apply Kd.R_drewN | apply Kd.R_drew)); exact HO291.out⟩, ⟨HBa⟩⟩
 case round =>
  clear H'
  obtain ⟨x3_1, x9_1, rfl, HA, HK1, HO_3, HB⟩ := hrel
  cases gk with
  | zero => exact absurd HA.out (by simp [Gh.l0])
  | succ k1 =>
   have H := HA.out
   clear HA
   simp only [Gh.l0] at H
   by_cases c4 : x9_1 < (l0.length : Int)
   rotate_left
   ·rw [if_neg c4] at H
    have c4b0 := decide_eq_false c4
    clear c4
    obtain ⟨y297, hy297⟩ : ∃ y_ : List (List ByteArray), y_ = (([x3_1] : List (List ByteArray))) := ⟨_, rfl⟩
    replace H : ((Gr.f y297).bind fun t300 => (some t300)) = some r := by first | (rw [hy297]; with_reducible exact H) | (have H2_ := (Option.bind_some _ _).symm.trans H; rw [hy297]; with_reducible exact H2_) | (have H2_ := (Option.bind_some _ _).symm.trans H; with_reducible exact H2_) | with_reducible exact H | (rw [hy297]; exact H) | exact H
    have Ny297 := Aside0.mk hy297
    clear hy297
    replace H := Option.bind_eq_some_iff.mp H
    obtain ⟨t300, A140, H⟩ := H
    replace H : (some t300) = some r := H
    have A14 := Aside0.mk A140
    clear A140
    obtain rfl := Option.some.inj H
    clear H
    obtain ⟨Ao15, co15, eo15⟩ := Kd.R_slice HO_3.out
    subst eo15
    go_wp2_with (first | ((with_reducible refine gate_dst (N := 23) rfl ?_); refine Kd.N_lit (Kd.slice 9 Kd.string) _ 39 ?hg (N' := 23) ?hd (xs := ([x3_1] : List (List ByteArray))) (inner := [.slice Ao15 x3_1.length co15]) (ok := (fun _ => True)) (okp := (fun _ => True)) ?hr ?hp (fun _ hk => hk) ((show ∀ k_, wr.heap.size ≤ k_ → (fun _ => True) k_ from fun k_ hk => trivial) _ (Nat.le_refl _)) (Below.refl _ _) (Nat.le_refl _) (by simp) ?_; (case hd => rfl); (case hg => rfl); (case hr => first | (go_simp; done) | (go_simp; rfl)); (case hp => exact (Reps.one (show Kd.FK (Kd.slice 9 Kd.string) _ _ x3_1 [.slice Ao15 x3_1.length co15] from (Kd.FK_slice_mk (Kd.R_reads' (Kd.R_mono (ok' := (fun _ => True)) (HO_3.out) (fun k_ hk => trivial))).2.1 (Kd.R_F (Kd.R_mono (ok' := (fun _ => True)) (HO_3.out) (fun k_ hk => trivial))))) (Reps.none _ _))); intro v298 w16 ho17 hb hg_ hnew_; clear hg_ hnew_; (first | rw [← Ny297.out] at ho17 | (simp only [Int.reduceToNat] at ho17; rw [← Ny297.out] at ho17)); have n0_ := Aside0.mk (Kd.N_lower ho17 (below_size HBa)); have n1_ := Aside0.mk (below_step HBa hb); clear HB; clear HO_3; have HO299 := n0_; have HB := n1_; clear n0_ n1_; clear hb ho17; obtain ⟨Ao18, co18, eo18⟩ := Kd.N_slice HO299.out; subst eo18) | ((with_reducible refine gate_callee (f := 90) rfl ?_); refine goesL_ (some 24) rfl rfl Tryz.func90 (by kernel_rfl) rfl #[.slice Ao18 y297.length co18] rfl MPz ?_; (with_reducible refine (Gr.calls _ _ y297 t300 _ ?side1 ?side2 A14.out).mono ?_); (case side1 => repeat (first | exact (Kd.N_reads' HO299.out).2.2 | (with_reducible refine Kd.C_alloc ?_ _) | (with_reducible refine Kd.C_drewN ?_ _) | (with_reducible refine Kd.C_drew ?_))); (case side2 => exact (Kd.N_reads' HO299.out).2.1); rintro e w19 ⟨v301, rfl, ho0, hb⟩; refine ⟨_, rfl, ?_⟩; have n0_ := Aside0.mk (Kd.N_elder' (by (with_reducible repeat (first | apply Kd.N_alloc | apply Kd.N_drewN | apply Kd.N_drew)); exact HO299.out) (Kd.R_base ho0) hb); have n1_ := Aside0.mk (Kd.R_lower ho0 (below_size HBa)); have n2_ := Aside0.mk (below_step HBa hb); clear HO299; clear HB; have HO299 := n0_; have HO302 := n1_; have HB := n2_; clear n0_ n1_ n2_; (try clear hb); (try clear hb2); (try clear hk); (try clear hi); (try clear ho0)))
    go_ret
    exact ⟨_, EZa, by (with_reducible repeat (first | apply Kd.R_alloc | apply Kd.R_drewN | apply Kd.R_drew)); exact HO302.out, HBa⟩
   rw [if_pos c4] at H
   have c4b0 := decide_eq_true c4
   clear c4
   by_cases c5 : 0 ≤ x9_1
   rotate_left
   ·rw [if_neg c5] at H
    exact absurd H (by simp)
   rw [if_pos c5] at H
   have c5b0 := decide_eq_true c5
   clear c5
   by_cases c6 : x9_1 < (l0.length : Int)
   rotate_left
   ·rw [if_neg c6] at H
    exact absurd H (by simp)
   rw [if_pos c6] at H
   have c6b0 := decide_eq_true c6
   clear c6
   by_cases c7 : ((rd_T64 l0 x9_1).f0) > 3
   rotate_left
   ·rw [if_neg c7] at H
    have c7b0 : decide (3 < ((rd_T64 l0 x9_1).f0)) = false := decide_eq_false c7
    clear c7
    have H' := Aside0.mk H
    clear H
    have p292 : 0 ≤ (x9_1 : Int) := ODz
    have q292 : x9_1 < (l0.length : Int) := ODz
    obtain ⟨ad292, e292, hx292_0, hx292_1, hx292_2, hx292_3⟩ := at_T64 HR0.out x9_1 p292 q292
    cases e292
    replace hx292_0 := HXz HB hx292_0
    replace hx292_1 := HXz HB hx292_1
    replace hx292_2 := HXz HB hx292_2
    replace hx292_3 := HXz HB hx292_3
    replace p292 := eq_true p292
    replace q292 := eq_true q292
    go_wp2_with (first | ((with_reducible refine gate_dst (N := 5) rfl ?_); refine box_event ?hg (N := 5) ?hd (cs := #[.int .i64 0, .string (⟨#[]⟩ : ByteArray), .string (⟨#[]⟩ : ByteArray), .int .i64 0]) (t := 64) ?hr ?_; (case hd => rfl); (case hg => rfl); (case hr => first | (go_simp; done) | (go_simp; rfl)); intro gb293 hg w12 hbox hb; have n0_ := Aside0.mk (Kd.R_below (KRz HO_3) hb); have n1_ := Aside0.mk (below_step HBa hb); have n2_ := Aside0.mk (hbox); have n3_ := BSz w hg HBa; have n4_ := BSz w hg HBa; clear HO_3; clear HB; have HO_3 := n0_; have HB := n1_; have BK293 := n2_; have GW293 := n3_; have GE293 := n4_; clear n0_ n1_ n2_ n3_ n4_; clear hb hbox hg; have hcz13_0 := C1z BK293; have hcz13_1 := C2z BK293; have hcz13_2 := C3z BK293; have hcz13_3 := C4z BK293; have hfz13_0 := blk_frozen BK293.out 0; have hfz13_1 := blk_frozen BK293.out 1; have hfz13_2 := blk_frozen BK293.out 2; have hfz13_3 := blk_frozen BK293.out 3))
    go_roundg k1
    case measure => have := HK1.out; omega
    case rel => exact ⟨(x3_1), (wrap64 (x9_1 + 1)), EZc, H', ⟨by have := HK1.out; omega⟩, ⟨by (with_reducible repeat (first | apply Kd.R_alloc | apply Kd.R_drewN | apply Kd.R_drew)); exact Kd.R_mono (Kd.R_far (p := ⟨gb293, 3, none⟩) (Kd.R_far (p := ⟨gb293, 2, none⟩) (Kd.R_far (p := ⟨gb293, 1, none⟩) (Kd.R_far (p := ⟨gb293, 0, none⟩) (Kd.R_types HO_3.out BK293.out (by decide)) (fun _ hk => hk.2) (.int .i64 ((rd_T64 l0 x9_1).f0))) (fun _ hk => hk.2) (.string ((rd_T64 l0 x9_1).f1))) (fun _ hk => hk.2) (.string ((rd_T64 l0 x9_1).f2))) (fun _ hk => hk.2) (.int .i64 ((rd_T64 l0 x9_1).f3))) (fun _ hk => trivial)⟩, ⟨by repeat (first | (with_reducible first | exact HB.out | apply below_alloc | apply pw_below_drewN | apply below_drew1 | refine below_set ?_ GE293.out) | exact HB.out)⟩⟩
   rw [if_pos c7] at H
   have c7b0 : decide (3 < ((rd_T64 l0 x9_1).f0)) = true := decide_eq_true c7
   clear c7
   by_cases c8 : x3_1.length < 8796093022208
   rotate_left
   ·rw [if_neg c8] at H
    exact absurd H (by simp)
   rw [if_pos c8] at H
   have LMc8 := Aside0.mk c8
   clear c8
   obtain ⟨y294, hy294⟩ : ∃ y_ : List ByteArray, y_ = (x3_1 ++ [(rd_T64 l0 x9_1).f1]) := ⟨_, rfl⟩
   replace H : (Gh.l0 k1 y294 l0 (l0.length : Int) (wrap64 (x9_1 + 1))) = some r := by first | (rw [hy294]; with_reducible exact H) | (have H2_ := (Option.bind_some _ _).symm.trans H; rw [hy294]; with_reducible exact H2_) | (have H2_ := (Option.bind_some _ _).symm.trans H; with_reducible exact H2_) | with_reducible exact H | (rw [hy294]; exact H) | exact H
   have Ny294 := Aside0.mk hy294
   clear hy294
   have H' := Aside0.mk H
   clear H
   have p292 : 0 ≤ (x9_1 : Int) := ODz
   have q292 : x9_1 < (l0.length : Int) := ODz
   obtain ⟨ad292, e292, hx292_0, hx292_1, hx292_2, hx292_3⟩ := at_T64 HR0.out x9_1 p292 q292
   cases e292
   replace hx292_0 := HXz HB hx292_0
   replace hx292_1 := HXz HB hx292_1
   replace hx292_2 := HXz HB hx292_2
   replace hx292_3 := HXz HB hx292_3
   replace p292 := eq_true p292
   replace q292 := eq_true q292
   go_wp2_with (first | ((with_reducible refine gate_dst (N := 5) rfl ?_); refine box_event ?hg (N := 5) ?hd (cs := #[.int .i64 0, .string (⟨#[]⟩ : ByteArray), .string (⟨#[]⟩ : ByteArray), .int .i64 0]) (t := 64) ?hr ?_; (case hd => rfl); (case hg => rfl); (case hr => first | (go_simp; done) | (go_simp; rfl)); intro gb293 hg w9 hbox hb; have n0_ := Aside0.mk (Kd.R_below (KRz HO_3) hb); have n1_ := Aside0.mk (below_step HBa hb); have n2_ := Aside0.mk (hbox); have n3_ := BSz w hg HBa; have n4_ := BSz w hg HBa; clear HO_3; clear HB; have HO_3 := n0_; have HB := n1_; have BK293 := n2_; have GW293 := n3_; have GE293 := n4_; clear n0_ n1_ n2_ n3_ n4_; clear hb hbox hg; have hcz10_0 := C1z BK293; have hcz10_1 := C2z BK293; have hcz10_2 := C3z BK293; have hcz10_3 := C4z BK293; have hfz10_0 := blk_frozen BK293.out 0; have hfz10_1 := blk_frozen BK293.out 1; have hfz10_2 := blk_frozen BK293.out 2; have hfz10_3 := blk_frozen BK293.out 3) | ((with_reducible refine gate_builtin (b := .append) (xs := #[.tmp 16, .tmp 19]) rfl ?_); at_builtin; refine Kd.R_append Kd.string (w0 := w) w.heap.size rfl (.tmp 16) (.tmp 19) 39 9 (.string ⟨#[]⟩) 16 rfl Tryz.underlying39 info9 rfl (by decide) (by omega) u3 x3_1 ((rd_T64 l0 x9_1).f1) [.string ((rd_T64 l0 x9_1).f1)] (fun _ => True) (fun _ => False) rfl (by first | (go_simp; done) | (go_simp; rfl)) ?aP (fun _ hk => hk.elim) ?aF ?aO ?aB ?aS ?aL ?_; (case aP => exact rfl); (case aB => exact (HBb GE293)); (case aF => exact (fun _ _ => trivial)); (case aO => exact (by (with_reducible repeat (first | apply Kd.R_alloc | apply Kd.R_drewN | apply Kd.R_drew)); exact Kd.R_mono (Kd.R_far (p := ⟨gb293, 3, none⟩) (Kd.R_far (p := ⟨gb293, 2, none⟩) (Kd.R_far (p := ⟨gb293, 1, none⟩) (Kd.R_far (p := ⟨gb293, 0, none⟩) (Kd.R_types HO_3.out BK293.out (by decide)) (fun _ hk => hk.2) (.int .i64 ((rd_T64 l0 x9_1).f0))) (fun _ hk => hk.2) (.string ((rd_T64 l0 x9_1).f1))) (fun _ hk => hk.2) (.string ((rd_T64 l0 x9_1).f2))) (fun _ hk => hk.2) (.int .i64 ((rd_T64 l0 x9_1).f3))) (fun _ hk => trivial))); (case aS => exact (below_size (HBb GE293))); (case aL => have := LMc8.out; omega); intro v295 w11 ho hb hg hat; rw [← Ny294.out] at ho; have n0_ := Aside0.mk (blk_grown (g := gb293) (o := .cells #[.int .i64 ((rd_T64 l0 x9_1).f0), .string ((rd_T64 l0 x9_1).f1), .string ((rd_T64 l0 x9_1).f2), .int .i64 ((rd_T64 l0 x9_1).f3)] 64 (0, 0)) (by (with_reducible repeat first | apply blk_drewN | apply blk_drew | apply blk_alloc); refine blk_put (cs := #[.int .i64 ((rd_T64 l0 x9_1).f0), .string ((rd_T64 l0 x9_1).f1), .string ((rd_T64 l0 x9_1).f2), .int .i64 0]) ?_ 3 _ rfl; (with_reducible repeat first | apply blk_drewN | apply blk_drew | apply blk_alloc); refine blk_put (cs := #[.int .i64 ((rd_T64 l0 x9_1).f0), .string ((rd_T64 l0 x9_1).f1), .string (⟨#[]⟩ : ByteArray), .int .i64 0]) ?_ 2 _ rfl; (with_reducible repeat first | apply blk_drewN | apply blk_drew | apply blk_alloc); refine blk_put (cs := #[.int .i64 ((rd_T64 l0 x9_1).f0), .string (⟨#[]⟩ : ByteArray), .string (⟨#[]⟩ : ByteArray), .int .i64 0]) ?_ 1 _ rfl; (with_reducible repeat first | apply blk_drewN | apply blk_drew | apply blk_alloc); refine blk_put (cs := #[.int .i64 0, .string (⟨#[]⟩ : ByteArray), .string (⟨#[]⟩ : ByteArray), .int .i64 0]) ?_ 0 _ rfl; (with_reducible repeat first | apply blk_drewN | apply blk_drew | apply blk_alloc); exact BK293.out) hg (Kd.R_ne HO_3.out BK293.out (by decide))); have n1_ := Aside0.mk (hb); have n2_ := Aside0.mk (ho); clear BK293; clear HB; clear HO_3; have BK293 := n0_; have HB := n1_; have HO296 := n2_; clear n0_ n1_ n2_; clear ho hb hg hat))
   go_roundg k1
   case measure => have := HK1.out; omega
   case rel => exact ⟨(y294), (wrap64 (x9_1 + 1)), EZc, H', ⟨by have := HK1.out; omega⟩, ⟨by (with_reducible repeat (first | apply Kd.R_alloc | apply Kd.R_drewN | apply Kd.R_drew)); exact HO296.out⟩, ⟨by repeat (first | (with_reducible first | exact HB.out | apply below_alloc | apply pw_below_drewN | apply below_drew1 | refine below_set ?_ GE293.out) | exact HB.out)⟩⟩
def Ga.f (k : Nat) (l0 : List (S64)) : Option (List ByteArray) := (Gc.f k l0).bind fun t303 => (if t303 = true then ((Gh.f k l0).bind fun t304 => (some t304)) else (some ([] : List ByteArray)))
theorem Ga.mono : ∀ a0 k, LeO (Ga.f k a0) (Ga.f (k + 1) a0) := by
 intro a0 k
 unfold Ga.f
 with_reducible repeat' first | exact Gc.mono _ _ | exact Gh.mono _ _ | exact LeO.refl _ | exact LeO.none _ | refine LeO.ite ?_ ?_ | refine LeO.bind ?_ (fun _ => ?_)
set_option maxHeartbeats 8000000 in
set_option maxRecDepth 100000 in
theorem Ga.calls (k : Nat) (A0 : Option Addr) (c0 : Nat) (l0 : List (S64)) (r : List ByteArray) (w : World) (hr0 : Kd.C k64 w A0 l0.length l0) (hc0 : l0.length ≤ c0) (h : Ga.f k l0 = some r) :
  Calls Tryz.prog 23 #[.slice A0 l0.length c0] w fun e w' => ∃ v0_ : Value, e = .returned (v0_) ∧ Kd.R Kd.string 9 w' w.heap.size (fun _ => True) v0_ r ∧ Below w.heap.size w w' := by
 have HR0 := Aside0.mk hr0
 have HC0 := Aside0.mk hc0
 clear hr0 hc0
 have HB := Aside0.mk (Below.refl w.heap.size w)
 have H : ((Gc.f k l0).bind fun t303 => (if t303 = true then ((Gh.f k l0).bind fun t304 => (some t304)) else (some ([] : List ByteArray)))) = some r := h
 clear h
 replace H := Option.bind_eq_some_iff.mp H
 obtain ⟨t303, A20, H⟩ := H
 replace H : (if t303 = true then ((Gh.f k l0).bind fun t304 => (some t304)) else (some ([] : List ByteArray))) = some r := H
 have A2 := Aside0.mk A20
 clear A20
 by_cases c3 : t303 = true
 rotate_left
 ·replace c3 := Bool.eq_false_iff.mpr c3
  subst c3
  have H1 : (some ([] : List ByteArray)) = some r := by rw [if_neg (show ¬ (false = true) by decide)] at H; exact H
  clear H
  have H := H1
  clear H1
  obtain rfl := Option.some.inj H
  clear H
  go_enter Tryz.func23, Tryz.ntmps23
  go_wp2_with (first | ((with_reducible refine gate_callee (f := 18) rfl ?_); refine goesL_ (some 4) rfl rfl Tryz.func18 (by kernel_rfl) rfl #[.slice A0 l0.length c0] rfl MPz ?_; (with_reducible refine (Gc.calls k _ _ l0 false _ ?side1 ?side2 A2.out).mono ?_); (case side1 => exact KCz HR0.out); (case side2 => exact HC0.out); rintro e w7 ⟨rfl, hb⟩; refine ⟨_, rfl, ?_⟩; have n0_ := Aside0.mk (below_step HBa hb); clear HB; have HB := n0_; clear n0_; (try clear hb); (try clear hb2); (try clear hk); (try clear hi)))
  go_ret
  exact ⟨_, EZa, by first | exact Kd.R_nil _ _ _ _ _ | exact Kd.N_nil _ _ _ _ _ | exact Kd.V_nil _ _ _ _ _ | exact Kd.Q_nil _ _ _ _ _ | exact Kd.S_nil _ _ _ _ _, HBa⟩
 subst c3
 have H1 : ((Gh.f k l0).bind fun t304 => (some t304)) = some r := by rw [if_pos rfl] at H; exact H
 clear H
 have H := H1
 clear H1
 replace H := Option.bind_eq_some_iff.mp H
 obtain ⟨t304, A40, H⟩ := H
 replace H : (some t304) = some r := H
 have A4 := Aside0.mk A40
 clear A40
 obtain rfl := Option.some.inj H
 clear H
 go_enter Tryz.func23, Tryz.ntmps23
 go_wp2_with (first | ((with_reducible refine gate_callee (f := 18) rfl ?_); refine goesL_ (some 4) rfl rfl Tryz.func18 (by kernel_rfl) rfl #[.slice A0 l0.length c0] rfl MPz ?_; (with_reducible refine (Gc.calls k _ _ l0 true _ ?side1 ?side2 A2.out).mono ?_); (case side1 => exact KCz HR0.out); (case side2 => exact HC0.out); rintro e w5 ⟨rfl, hb⟩; refine ⟨_, rfl, ?_⟩; have n0_ := Aside0.mk (below_step HBa hb); clear HB; have HB := n0_; clear n0_; (try clear hb); (try clear hb2); (try clear hk); (try clear hi)) | ((with_reducible refine gate_callee (f := 54) rfl ?_); refine goesL_ (some 7) rfl rfl Tryz.func54 (by kernel_rfl) rfl #[.slice A0 l0.length c0] rfl MPz ?_; (with_reducible refine (Gh.calls k _ _ l0 t304 _ ?side1 ?side2 A4.out).mono ?_); (case side1 => exact KCz (Kd.C_below HR0.out HB.out)); (case side2 => exact HC0.out); rintro e w6 ⟨v305, rfl, ho0, hb⟩; refine ⟨_, rfl, ?_⟩; have n0_ := Aside0.mk (Kd.R_lower ho0 (below_size HBa)); have n1_ := Aside0.mk (below_step HBa hb); clear HB; have HO306 := n0_; have HB := n1_; clear n0_ n1_; (try clear hb); (try clear hb2); (try clear hk); (try clear hi); (try clear ho0)))
 go_ret
 exact ⟨_, EZa, by (with_reducible repeat (first | apply Kd.R_alloc | apply Kd.R_drewN | apply Kd.R_drew)); exact HO306.out, HBa⟩
def Qn.f (a0_0 : Int) (a0_1 : ByteArray) (a0_2 : ByteArray) (a0_3 : Int) : Option (Bool) := if a0_0 = 1 then (some true) else (if a0_0 = 2 then (some true) else (some (a0_0 == 3)))
set_option maxHeartbeats 8000000 in
set_option maxRecDepth 100000 in
theorem Qn.calls (a0_0 : Int) (a0_1 : ByteArray) (a0_2 : ByteArray) (a0_3 : Int) (r : Bool) (w : World) (h : Qn.f a0_0 a0_1 a0_2 a0_3 = some r) :
  Calls Tryz.prog 55 #[.agg #[.int .i64 a0_0, .string a0_1, .string a0_2, .int .i64 a0_3]] w fun e w' => e = .returned (.bool r) ∧ Below w.heap.size w w' := by
 have hu64 := Tryz.underlying64
 have HB := Aside0.mk (Below.refl w.heap.size w)
 have H : (if a0_0 = 1 then (some true) else (if a0_0 = 2 then (some true) else (some (a0_0 == 3)))) = some r := h
 clear h
 by_cases c2 : a0_0 = 1
 ·rw [if_pos c2] at H
  obtain ⟨c2b0, c2b1⟩ := QTz c2
  clear c2
  obtain rfl := Option.some.inj H
  clear H
  go_enter Tryz.func55, Tryz.ntmps55
  go_wp2_with (first | ((with_reducible refine gate_dst (N := 1) rfl ?_); refine box_event ?hg (N := 1) ?hd (cs := #[.int .i64 a0_0, .string a0_1, .string a0_2, .int .i64 a0_3]) (t := 64) ?hr ?_; (case hd => rfl); (case hg => rfl); (case hr => first | (go_simp; done) | (go_simp; rfl)); intro gb307 hg w3 hbox hb; have n0_ := Aside0.mk (below_step HBa hb); have n1_ := Aside0.mk (hbox); have n2_ := BSz w hg HBa; have n3_ := BSz w hg HBa; clear HB; have HB := n0_; have BK307 := n1_; have GW307 := n2_; have GE307 := n3_; clear n0_ n1_ n2_ n3_; clear hb hbox hg; have hcz4_0 := C1z BK307; have hcz4_1 := C2z BK307; have hcz4_2 := C3z BK307; have hcz4_3 := C4z BK307; have hfz4_0 := blk_frozen BK307.out 0; have hfz4_1 := blk_frozen BK307.out 1; have hfz4_2 := blk_frozen BK307.out 2; have hfz4_3 := blk_frozen BK307.out 3))
  go_ret
  exact ⟨EZa, HBb GE307⟩
 rw [if_neg c2] at H
 obtain ⟨c2b0, c2b1⟩ := QFz c2
 by_cases c5 : a0_0 = 2
 ·rw [if_pos c5] at H
  obtain ⟨c5b0, c5b1⟩ := QTz c5
  clear c5
  obtain rfl := Option.some.inj H
  clear H
  go_enter Tryz.func55, Tryz.ntmps55
  go_wp2_with (first | ((with_reducible refine gate_dst (N := 1) rfl ?_); refine box_event ?hg (N := 1) ?hd (cs := #[.int .i64 a0_0, .string a0_1, .string a0_2, .int .i64 a0_3]) (t := 64) ?hr ?_; (case hd => rfl); (case hg => rfl); (case hr => first | (go_simp; done) | (go_simp; rfl)); intro gb307 hg w6 hbox hb; have n0_ := Aside0.mk (below_step HBa hb); have n1_ := Aside0.mk (hbox); have n2_ := BSz w hg HBa; have n3_ := BSz w hg HBa; clear HB; have HB := n0_; have BK307 := n1_; have GW307 := n2_; have GE307 := n3_; clear n0_ n1_ n2_ n3_; clear hb hbox hg; have hcz7_0 := C1z BK307; have hcz7_1 := C2z BK307; have hcz7_2 := C3z BK307; have hcz7_3 := C4z BK307; have hfz7_0 := blk_frozen BK307.out 0; have hfz7_1 := blk_frozen BK307.out 1; have hfz7_2 := blk_frozen BK307.out 2; have hfz7_3 := blk_frozen BK307.out 3))
  go_ret
  exact ⟨EZa, HBb GE307⟩
 rw [if_neg c5] at H
 obtain ⟨c5b0, c5b1⟩ := QFz c5
 obtain rfl := Option.some.inj H
 clear H
 go_enter Tryz.func55, Tryz.ntmps55
 go_wp2_with (first | ((with_reducible refine gate_dst (N := 1) rfl ?_); refine box_event ?hg (N := 1) ?hd (cs := #[.int .i64 a0_0, .string a0_1, .string a0_2, .int .i64 a0_3]) (t := 64) ?hr ?_; (case hd => rfl); (case hg => rfl); (case hr => first | (go_simp; done) | (go_simp; rfl)); intro gb307 hg w8 hbox hb; have n0_ := Aside0.mk (below_step HBa hb); have n1_ := Aside0.mk (hbox); have n2_ := BSz w hg HBa; have n3_ := BSz w hg HBa; clear HB; have HB := n0_; have BK307 := n1_; have GW307 := n2_; have GE307 := n3_; clear n0_ n1_ n2_ n3_; clear hb hbox hg; have hcz9_0 := C1z BK307; have hcz9_1 := C2z BK307; have hcz9_2 := C3z BK307; have hcz9_3 := C4z BK307; have hfz9_0 := blk_frozen BK307.out 0; have hfz9_1 := blk_frozen BK307.out 1; have hfz9_2 := blk_frozen BK307.out 2; have hfz9_3 := blk_frozen BK307.out 3))
 go_ret
 exact ⟨EZa, HBb GE307⟩
end Go.Proofs.YtmkeigielncpjaaGreatDoor.PFnFilter
