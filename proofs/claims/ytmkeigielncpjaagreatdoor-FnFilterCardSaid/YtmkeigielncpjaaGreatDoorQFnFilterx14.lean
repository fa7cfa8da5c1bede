-- Laid by this session's own program out of the translation; Lean checks it.
import Derived.Test.YtmkeigielncpjaaGreatDoorQFnFilterx0
import Derived.Test.YtmkeigielncpjaaGreatDoorQFnFilterx12
import Derived.Deep.MidRow
import Derived.Deep.WholeRow
import Derived.Lib.AppendStr
import Derived.Laws.MakeOwn
import Derived.RegionCalls
import Derived.Deep.RegionWith
namespace Go.Proofs.YtmkeigielncpjaaGreatDoor.PFnFilter
open Go.RowKit Go.Proofs.YtmkeigielncpjaaGreatDoorW.PrintWords Go.Proofs.YtmkeigielncpjaaGreatDoorW.PrintLast Go.Proofs.YtmkeigielncpjaaGreatDoorW.PrintMore
attribute [local go_sem] max2_int min2_int max_two min_two max_three min_three max_four min_four   -- for this text's walks alone
set_option linter.unusedVariables false
set_option linter.unusedSimpArgs false
theorem Gs.c5 {w : World} {n : Nat} {t : TypeId} {a b c d e : Value} (h : w.heap[n]? = some (.cells #[a, b, c, d, e] t (0, 0))) : w.cell? ⟨n, 0, none⟩ = some a ∧ w.frozen? ⟨n, 0, none⟩ = false ∧ w.cell? ⟨n, 1, none⟩ = some b ∧ w.frozen? ⟨n, 1, none⟩ = false ∧ w.cell? ⟨n, 2, none⟩ = some c ∧ w.frozen? ⟨n, 2, none⟩ = false ∧ w.cell? ⟨n, 3, none⟩ = some d ∧ w.frozen? ⟨n, 3, none⟩ = false ∧ w.cell? ⟨n, 4, none⟩ = some e ∧ w.frozen? ⟨n, 4, none⟩ = false :=
 ⟨blk_cell h 0, blk_frozen h 0, blk_cell h 1, blk_frozen h 1, blk_cell h 2, blk_frozen h 2, blk_cell h 3, blk_frozen h 3, blk_cell h 4, blk_frozen h 4⟩
abbrev Gs.ptr (m : Nat) : Value := .pointer (some ⟨m, 0, none⟩)
abbrev Gs.nd (v : ByteArray) (p : Int) (pre : ByteArray) (nx tb : Value) : Obj := .cells #[.string v, .int .i64 p, .string pre, nx, tb] 221 (0, 0)
abbrev Gs.nil0 : ByteArray := ⟨#[]⟩
def Gs.FK (w w' : World) (S : Nat → Prop) : Prop := w'.os = w.os ∧ w'.tape = w.tape ∧ w'.output = w.output ∧ w.heap.size ≤ w'.heap.size ∧ ∀ k, k < w.heap.size → ¬ S k → w'.heap[k]? = w.heap[k]?
theorem Gs.FK_refl (w : World) (S : Nat → Prop) : Gs.FK w w S := ⟨rfl, rfl, rfl, Nat.le_refl _, fun _ _ _ => rfl⟩
theorem Gs.FK_then {w w1 w2 : World} {S S1 : Nat → Prop} (h : Gs.FK w w1 S) (k : Gs.FK w1 w2 S1) (hs : ∀ i, S1 i → S i ∨ w.heap.size ≤ i) : Gs.FK w w2 S :=
 ⟨k.1.trans h.1, k.2.1.trans h.2.1, k.2.2.1.trans h.2.2.1, Nat.le_trans h.2.2.2.1 k.2.2.2.1, fun i hi hn => (k.2.2.2.2 i (Nat.lt_of_lt_of_le hi h.2.2.2.1) (fun h1 => (hs i h1).elim hn (fun h2 => by omega))).trans (h.2.2.2.2 i hi hn)⟩
theorem Gs.FK_set {w w1 : World} {S : Nat → Prop} (h : Gs.FK w w1 S) {n i : Nat} (u : Value) (hn : S n ∨ w.heap.size ≤ n) : Gs.FK w (w1.setCell ⟨n, i, none⟩ u) S :=
 Gs.FK_then h (S1 := fun k => k = n) ⟨rfl, rfl, rfl, by simp [World.setCell], fun k _ hk => Below.heap_setCell _ ⟨n, i, none⟩ _ k hk⟩ (fun i e => by subst e; exact hn)
theorem Gs.FK_below {w w1 w2 : World} {S : Nat → Prop} (h : Gs.FK w w1 S) (hb : Below w1.heap.size w1 w2) : Gs.FK w w2 S :=
 Gs.FK_then h (S1 := fun _ => False) ⟨hb.os, hb.tape, hb.output, hb.size, fun k hk _ => hb.block k hk⟩ (fun _ e => e.elim)
theorem Gs.FK_obj {w w1 : World} {S : Nat → Prop} (h : Gs.FK w w1 S) {k : Nat} {o : Obj} (hk : w.heap[k]? = some o) (hn : ¬ S k) : w1.heap[k]? = some o := (h.2.2.2.2 k (blk_lt hk) hn).trans hk
theorem Gs.FK_mono {w w1 : World} {S S' : Nat → Prop} (h : Gs.FK w w1 S) (hs : ∀ k, S k → S' k) : Gs.FK w w1 S' := ⟨h.1, h.2.1, h.2.2.1, h.2.2.2.1, fun k hk hn => h.2.2.2.2 k hk (fun h1 => hn (hs k h1))⟩
set_option maxRecDepth 100000 in
set_option maxHeartbeats 4000000 in
theorem Gs.addE (n : Nat) (x pre v : ByteArray) (nx tb r : Value) (p : Int) (w : World) (hb : w.heap[n]? = some (Gs.nd x 0 pre nx tb)) :
  Calls Tryz.prog 203 #[Gs.ptr n, .string Gs.nil0, .string v, .int .i64 p, r] w fun e w' => e = .returned (.tuple #[]) ∧ w'.heap[n]? = some (Gs.nd v p pre nx tb) ∧ Gs.FK w w' (fun k => k = n) := by
 have hu := Tryz.underlying221
 have h0 : w.cell? ⟨n, 0, none⟩ = some (.string x) := (blk_cell hb 0).trans rfl
 have h1 : w.cell? ⟨n, 1, none⟩ = some (.int .i64 0) := (blk_cell hb 1).trans rfl
 have f0 := blk_frozen hb 0
 have f1 := blk_frozen hb 1
 have HB := Aside0.mk hb
 clear hb
 go_enter Tryz.func203, Tryz.ntmps203
 go_wp2
 refine bodyPost_ret (results_none rfl _ _ _) rfl ?_
 exact ⟨rfl, blk_put (blk_put HB.out 0 (.string v) rfl) 1 (.int .i64 p) rfl, Gs.FK_set (S := fun k => k = n) (Gs.FK_set (S := fun k => k = n) (Gs.FK_refl _ _) _ (.inl rfl)) _ (.inl rfl)⟩
set_option maxRecDepth 100000 in
set_option maxHeartbeats 8000000 in
theorem Gs.addF2a (n : Nat) (v : ByteArray) (r : Value) (p : Int) (w : World) (hb : w.heap[n]? = some (Gs.nd Gs.nil0 0 Gs.nil0 (.pointer none) (.slice none 0 0))) :
  Calls Tryz.prog 203 #[Gs.ptr n, .string (⟨#[50, 97]⟩ : ByteArray), .string v, .int .i64 p, r] w fun e w' => e = .returned (.tuple #[]) ∧ (∃ m, w.heap.size ≤ m ∧ w'.heap[n]? = some (Gs.nd Gs.nil0 0 (⟨#[50, 97]⟩ : ByteArray) (Gs.ptr m) (.slice none 0 0)) ∧ w'.heap[m]? = some (Gs.nd v p Gs.nil0 (.pointer none) (.slice none 0 0))) ∧ Gs.FK w w' (fun k => k = n) := by
 have hu := Tryz.underlying221
 have qT : ∀ (w : World) (a : Option Addr) (n c n' c' : Nat), (binOp .neq 219 (.slice a n c) (.slice none n' c')).run Tryz.prog w = .ok (.bool (!a.isNone)) w := fun w a n c n' c' => run_neq_slice_nil_any w _ _ a n c n' c' Tryz.underlying219
 have hn0 : w.cell? ⟨n, 0, none⟩ = some (.string Gs.nil0) := (blk_cell hb 0).trans rfl
 have fn0 := blk_frozen hb 0
 have hn1 : w.cell? ⟨n, 1, none⟩ = some (.int .i64 0) := (blk_cell hb 1).trans rfl
 have fn1 := blk_frozen hb 1
 have hn2 : w.cell? ⟨n, 2, none⟩ = some (.string Gs.nil0) := (blk_cell hb 2).trans rfl
 have fn2 := blk_frozen hb 2
 have hn3 : w.cell? ⟨n, 3, none⟩ = some (.pointer none) := (blk_cell hb 3).trans rfl
 have fn3 := blk_frozen hb 3
 have hn4 : w.cell? ⟨n, 4, none⟩ = some (.slice none 0 0) := (blk_cell hb 4).trans rfl
 have fn4 := blk_frozen hb 4
 have HB := Aside0.mk hb
 clear hb
 go_enter Tryz.func203, Tryz.ntmps203
 go_upto_region 33 with fail
 clear hn0 fn0 hn1 fn1 hn2 fn2 hn3 fn3 hn4 fn4
 have n0_ := Aside0.mk (blk_put HB.out 2 (.string (⟨#[50, 97]⟩ : ByteArray)) (show _ = #[.string Gs.nil0, .int .i64 0, .string (⟨#[50, 97]⟩ : ByteArray), .pointer none, .slice none 0 0] from rfl))
 have n1_ := Aside0.mk (Gs.FK_set (Gs.FK_refl w (fun k => k = n)) (i := 2) (.string (⟨#[50, 97]⟩ : ByteArray)) (.inl rfl))
 clear HB
 have HB := n0_
 have HF := n1_
 clear n0_ n1_
 generalize w.setCell ⟨n, 2, none⟩ (.string (⟨#[50, 97]⟩ : ByteArray)) = w1 at HB HF ⊢
 have hz3 : w1.cell? ⟨n, 3, none⟩ = some (.pointer none) := (blk_cell HB.out 3).trans rfl
 have hy3 := blk_frozen HB.out 3
 go_upto_region 34 with ((with_reducible refine gate_dst (N := 230) rfl ?_); refine box_event ?hg (N := 230) ?hd (cs := #[.string Gs.nil0, .int .i64 0, .string Gs.nil0, .pointer none, .slice none 0 0]) (t := 221) ?hr ?_; (case hd => rfl); (case hg => rfl); (case hr => first | (go_simp; done) | (go_simp; rfl)); intro m hg w2 hbox hb; clear hz3 hy3; have HM := Aside0.mk (show w.heap.size ≤ m by rw [hg]; exact HF.out.2.2.2.1); have HMN := Aside0.mk (show n ≠ m by rw [hg]; exact Nat.ne_of_lt (blk_lt HB.out)); have BM := Aside0.mk hbox; have n0_ := Aside0.mk (blk_below HB.out hb); have n1_ := Aside0.mk (Gs.FK_below HF.out hb); clear HB HF hb hbox hg; have HB := n0_; have HF := n1_; clear n0_ n1_; have hz3 : w2.cell? ⟨n, 3, none⟩ = some (.pointer none) := (blk_cell HB.out 3).trans rfl; have hy3 := blk_frozen HB.out 3)
 clear hz3 hy3
 have n0_ := Aside0.mk (blk_put HB.out 3 (Gs.ptr m) (show _ = #[.string Gs.nil0, .int .i64 0, .string (⟨#[50, 97]⟩ : ByteArray), Gs.ptr m, .slice none 0 0] from rfl))
 have n1_ := Aside0.mk (Gs.FK_set HF.out (i := 3) (Gs.ptr m) (.inl rfl))
 have n2_ := Aside0.mk (blk_far BM.out (p := ⟨n, 3, none⟩) (Ne.symm HMN.out) (Gs.ptr m))
 clear HB HF BM
 have HB := n0_
 have HF := n1_
 have BM := n2_
 clear n0_ n1_ n2_
 generalize w2.setCell ⟨n, 3, none⟩ (Gs.ptr m) = w3 at HB HF BM ⊢
 have hz3 : w3.cell? ⟨n, 3, none⟩ = some (Gs.ptr m) := (blk_cell HB.out 3).trans rfl
 go_wp2_with (go_at_call 203; refine (Gs.addE m Gs.nil0 Gs.nil0 v (.pointer none) (.slice none 0 0) r p _ BM.out).mono ?_; rintro e w4 ⟨rfl, hm4, hf4⟩; have HM4 := Aside0.mk hm4; have HF4 := Aside0.mk hf4; clear hm4 hf4)
 go_end0
 exact ⟨rfl, ⟨m, HM.out, Gs.FK_obj HF4.out HB.out HMN.out, HM4.out⟩, Gs.FK_then HF.out HF4.out (fun i e => by subst e; exact .inr HM.out)⟩
set_option maxRecDepth 100000 in
set_option maxHeartbeats 8000000 in
theorem Gs.addFc (n : Nat) (v : ByteArray) (r : Value) (p : Int) (w : World) (hb : w.heap[n]? = some (Gs.nd Gs.nil0 0 Gs.nil0 (.pointer none) (.slice none 0 0))) :
  Calls Tryz.prog 203 #[Gs.ptr n, .string (⟨#[99]⟩ : ByteArray), .string v, .int .i64 p, r] w fun e w' => e = .returned (.tuple #[]) ∧ (∃ m, w.heap.size ≤ m ∧ w'.heap[n]? = some (Gs.nd Gs.nil0 0 (⟨#[99]⟩ : ByteArray) (Gs.ptr m) (.slice none 0 0)) ∧ w'.heap[m]? = some (Gs.nd v p Gs.nil0 (.pointer none) (.slice none 0 0))) ∧ Gs.FK w w' (fun k => k = n) := by
 have hu := Tryz.underlying221
 have qT : ∀ (w : World) (a : Option Addr) (n c n' c' : Nat), (binOp .neq 219 (.slice a n c) (.slice none n' c')).run Tryz.prog w = .ok (.bool (!a.isNone)) w := fun w a n c n' c' => run_neq_slice_nil_any w _ _ a n c n' c' Tryz.underlying219
 have hn0 : w.cell? ⟨n, 0, none⟩ = some (.string Gs.nil0) := (blk_cell hb 0).trans rfl
 have fn0 := blk_frozen hb 0
 have hn1 : w.cell? ⟨n, 1, none⟩ = some (.int .i64 0) := (blk_cell hb 1).trans rfl
 have fn1 := blk_frozen hb 1
 have hn2 : w.cell? ⟨n, 2, none⟩ = some (.string Gs.nil0) := (blk_cell hb 2).trans rfl
 have fn2 := blk_frozen hb 2
 have hn3 : w.cell? ⟨n, 3, none⟩ = some (.pointer none) := (blk_cell hb 3).trans rfl
 have fn3 := blk_frozen hb 3
 have hn4 : w.cell? ⟨n, 4, none⟩ = some (.slice none 0 0) := (blk_cell hb 4).trans rfl
 have fn4 := blk_frozen hb 4
 have HB := Aside0.mk hb
 clear hb
 go_enter Tryz.func203, Tryz.ntmps203
 go_upto_region 33 with fail
 clear hn0 fn0 hn1 fn1 hn2 fn2 hn3 fn3 hn4 fn4
 have n0_ := Aside0.mk (blk_put HB.out 2 (.string (⟨#[99]⟩ : ByteArray)) (show _ = #[.string Gs.nil0, .int .i64 0, .string (⟨#[99]⟩ : ByteArray), .pointer none, .slice none 0 0] from rfl))
 have n1_ := Aside0.mk (Gs.FK_set (Gs.FK_refl w (fun k => k = n)) (i := 2) (.string (⟨#[99]⟩ : ByteArray)) (.inl rfl))
 clear HB
 have HB := n0_
 have HF := n1_
 clear n0_ n1_
 generalize w.setCell ⟨n, 2, none⟩ (.string (⟨#[99]⟩ : ByteArray)) = w1 at HB HF ⊢
 have hz3 : w1.cell? ⟨n, 3, none⟩ = some (.pointer none) := (blk_cell HB.out 3).trans rfl
 have hy3 := blk_frozen HB.out 3
 go_upto_region 34 with ((with_reducible refine gate_dst (N := 230) rfl ?_); refine box_event ?hg (N := 230) ?hd (cs := #[.string Gs.nil0, .int .i64 0, .string Gs.nil0, .pointer none, .slice none 0 0]) (t := 221) ?hr ?_; (case hd => rfl); (case hg => rfl); (case hr => first | (go_simp; done) | (go_simp; rfl)); intro m hg w2 hbox hb; clear hz3 hy3; have HM := Aside0.mk (show w.heap.size ≤ m by rw [hg]; exact HF.out.2.2.2.1); have HMN := Aside0.mk (show n ≠ m by rw [hg]; exact Nat.ne_of_lt (blk_lt HB.out)); have BM := Aside0.mk hbox; have n0_ := Aside0.mk (blk_below HB.out hb); have n1_ := Aside0.mk (Gs.FK_below HF.out hb); clear HB HF hb hbox hg; have HB := n0_; have HF := n1_; clear n0_ n1_; have hz3 : w2.cell? ⟨n, 3, none⟩ = some (.pointer none) := (blk_cell HB.out 3).trans rfl; have hy3 := blk_frozen HB.out 3)
 clear hz3 hy3
 have n0_ := Aside0.mk (blk_put HB.out 3 (Gs.ptr m) (show _ = #[.string Gs.nil0, .int .i64 0, .string (⟨#[99]⟩ : ByteArray), Gs.ptr m, .slice none 0 0] from rfl))
 have n1_ := Aside0.mk (Gs.FK_set HF.out (i := 3) (Gs.ptr m) (.inl rfl))
 have n2_ := Aside0.mk (blk_far BM.out (p := ⟨n, 3, none⟩) (Ne.symm HMN.out) (Gs.ptr m))
 clear HB HF BM
 have HB := n0_
 have HF := n1_
 have BM := n2_
 clear n0_ n1_ n2_
 generalize w2.setCell ⟨n, 3, none⟩ (Gs.ptr m) = w3 at HB HF BM ⊢
 have hz3 : w3.cell? ⟨n, 3, none⟩ = some (Gs.ptr m) := (blk_cell HB.out 3).trans rfl
 go_wp2_with (go_at_call 203; refine (Gs.addE m Gs.nil0 Gs.nil0 v (.pointer none) (.slice none 0 0) r p _ BM.out).mono ?_; rintro e w4 ⟨rfl, hm4, hf4⟩; have HM4 := Aside0.mk hm4; have HF4 := Aside0.mk hf4; clear hm4 hf4)
 go_end0
 exact ⟨rfl, ⟨m, HM.out, Gs.FK_obj HF4.out HB.out HMN.out, HM4.out⟩, Gs.FK_then HF.out HF4.out (fun i e => by subst e; exact .inr HM.out)⟩
theorem Gs.mk7 (W : World) : (Instr.makeSlice 219 (.int .i64 7) (.int .i64 7)).run Tryz.prog W = .ok (.slice (some ⟨W.heap.size, 0, none⟩) 7 7) (W.alloc (.cells #[.pointer none, .pointer none, .pointer none, .pointer none, .pointer none, .pointer none, .pointer none] 218)) := by
 obtain ⟨i0, hi, hz0, hz1, hz2⟩ := info_parts (show (Tryz.prog.info? 218).map (fun i => (i.zero, i.size, i.bytes)) = some (some (.pointer none), 1, 8) from by kernel_rfl)
 have h := run_make (P := Tryz.prog) W 219 218 i0 (.pointer none) Tryz.underlying219 hi hz0 .i64 .i64 7 7 (by omega) (by omega) (by rw [hz2]; decide) (by omega)
 rw [hz1] at h
 rw [show madeCells (Value.pointer none).cells (Int.toNat 7 * 1) = #[.pointer none, .pointer none, .pointer none, .pointer none, .pointer none, .pointer none, .pointer none] from by kernel_rfl] at h
 exact h
set_option maxRecDepth 100000 in
set_option maxHeartbeats 8000000 in
theorem Gs.addD8 (n q X : Nat) (x v : ByteArray) (pr : Int) (p : Int) (cur : Array Value) (w : World) (hb : w.heap[n]? = some (Gs.nd x pr (⟨#[97]⟩ : ByteArray) (Gs.ptr X) (.slice none 0 0))) (hq : w.heap[q]? = some (.cells cur 223 (0, 0))) (hts : cur[5]? = some (.int .i64 7)) (hmi : cur[6 + 97]? = some (.int .u8 5)) (hmj : cur[6 + 56]? = some (.int .u8 2)) (hnq : n ≠ q) (POST : World → Prop)
  (hk : ∀ T K w2, w.heap.size ≤ T → w.heap.size ≤ K → T ≠ K → w2.heap[n]? = some (Gs.nd x pr Gs.nil0 (.pointer none) (.slice (some ⟨T, 0, none⟩) 7 7)) → w2.heap[T]? = some (.cells #[.pointer none, .pointer none, Gs.ptr K, .pointer none, .pointer none, Gs.ptr X, .pointer none] 218 (0, 0)) → w2.heap[K]? = some (.cells #[.string Gs.nil0, .int .i64 0, .string Gs.nil0, .pointer none, .slice none 0 0] 221 (0, 0)) → Gs.FK w w2 (fun k => k = n) → Calls Tryz.prog 203 #[Gs.ptr K, .string (⟨#[]⟩ : ByteArray), .string v, .int .i64 p, Gs.ptr q] w2 fun e w' => e = .returned (.tuple #[]) ∧ POST w') :
  Calls Tryz.prog 203 #[Gs.ptr n, .string (⟨#[56]⟩ : ByteArray), .string v, .int .i64 p, Gs.ptr q] w fun e w' => e = .returned (.tuple #[]) ∧ POST w' := by
 have hu := Tryz.underlying221
 have qT : ∀ (w : World) (a : Option Addr) (n c n' c' : Nat), (binOp .neq 219 (.slice a n c) (.slice none n' c')).run Tryz.prog w = .ok (.bool (!a.isNone)) w := fun w a n c n' c' => run_neq_slice_nil_any w _ _ a n c n' c' Tryz.underlying219
 have hbp : ∀ h : 0 < (⟨#[97]⟩ : ByteArray).size, (((⟨#[97]⟩ : ByteArray)[0]'h).toNat : Int) = 97 := fun _ => rfl
 have hbk : ∀ h : 0 < (⟨#[56]⟩ : ByteArray).size, (((⟨#[56]⟩ : ByteArray)[0]'h).toNat : Int) = 56 := fun _ => rfl
 have hxs : (⟨#[56]⟩ : ByteArray).extract 1 1 = (⟨#[]⟩ : ByteArray) := by decide
 have HBn := Aside0.mk hb
 have HBq := Aside0.mk hq
 have HTS := Aside0.mk hts
 have HMI := Aside0.mk hmi
 have HMJ := Aside0.mk hmj
 have HK := Aside0.mk hk
 have HNnq := Aside0.mk hnq
 have HF := Aside0.mk (Gs.FK_refl w (fun k => k = n))
 clear hb hq hts hmi hmj hnq hk
 obtain ⟨cn0, zcn0, cn1, zcn1, cn2, zcn2, cn3, zcn3, cn4, zcn4⟩ := Gs.c5 HBn.out
 go_enter Tryz.func203, Tryz.ntmps203
 go_upto_region 6 with fail
 go_loopg [10] 1 (fun kq v10 w' => v10 = .int .i64 0 ∧ w' = w)
 case atStart => exact ⟨rfl, rfl⟩
 case round =>
  obtain ⟨rfl, hw⟩ := hrel
  replace hw := hw.symm
  subst hw
  go_upto_region 8 with fail
  go_region
  clear cn0 zcn0 cn1 zcn1 cn2 zcn2 cn3 zcn3 cn4 zcn4
  replace HBn := Aside0.mk (blk_drew HBn.out)
  replace HBq := Aside0.mk (blk_drew HBq.out)
  replace HF := Aside0.mk (show Gs.FK w (w.drew) (fun k => k = n) from HF.out)
  generalize w.drew = w1 at HBn HBq HF ⊢
  obtain ⟨cn0, zcn0, cn1, zcn1, cn2, zcn2, cn3, zcn3, cn4, zcn4⟩ := Gs.c5 HBn.out
  go_upto_region 16 with fail
  go_upto_region 17 with ((with_reducible refine gate_dst (N := 101) rfl ?_); refine box_event ?hg (N := 101) ?hd (cs := #[.string Gs.nil0, .int .i64 0, .string Gs.nil0, .pointer none, .slice none 0 0]) (t := 221) ?hr ?_; (case hd => rfl); (case hg => rfl); (case hr => first | (go_simp; done) | (go_simp; rfl)); intro K hg wb hbox hb; clear cn0 zcn0 cn1 zcn1 cn2 zcn2 cn3 zcn3 cn4 zcn4; have HGK := Aside0.mk (show w.heap.size ≤ K by rw [hg]; exact HF.out.2.2.2.1); have HNnK := Aside0.mk (show n ≠ K by rw [hg]; exact Nat.ne_of_lt (blk_lt HBn.out)); have HNqK := Aside0.mk (show q ≠ K by rw [hg]; exact Nat.ne_of_lt (blk_lt HBq.out)); have HBK := Aside0.mk hbox; have mn := Aside0.mk (blk_below HBn.out hb); have mq := Aside0.mk (blk_below HBq.out hb); have mF := Aside0.mk (Gs.FK_below HF.out hb); clear HF HBn HBq hb hbox hg; have HBn := mn; have HBq := mq; have HF := mF; clear mF mn mq)
  have cq5 : wb.cell? ⟨q, 5, none⟩ = some (.int .i64 7) := (blk_cell (HBq.out) 5).trans HTS.out
  have hmk := Gs.mk7
  have cn4 : (wb.alloc (Obj.cells #[.pointer none, .pointer none, .pointer none, .pointer none, .pointer none, .pointer none, .pointer none] 218)).cell? ⟨n, 4, none⟩ = some (.slice none 0 0) := (blk_cell (blk_alloc HBn.out (Obj.cells #[.pointer none, .pointer none, .pointer none, .pointer none, .pointer none, .pointer none, .pointer none] 218)) 4).trans rfl
  have zcn4 := blk_frozen (blk_alloc HBn.out (Obj.cells #[.pointer none, .pointer none, .pointer none, .pointer none, .pointer none, .pointer none, .pointer none] 218)) 4
  go_upto_region 18 with fail
  clear cq5 cn4 zcn4
  clear hmk
  generalize hwA : wb.alloc (Obj.cells #[.pointer none, .pointer none, .pointer none, .pointer none, .pointer none, .pointer none, .pointer none] 218) = wA
  obtain ⟨T, hT⟩ : ∃ q_, q_ = wb.heap.size := ⟨_, rfl⟩
  have HGT := Aside0.mk (show w.heap.size ≤ T by rw [hT]; exact HF.out.2.2.2.1)
  have HNnT := Aside0.mk (show n ≠ T by rw [hT]; exact Nat.ne_of_lt (blk_lt HBn.out))
  have HNqT := Aside0.mk (show q ≠ T by rw [hT]; exact Nat.ne_of_lt (blk_lt HBq.out))
  have HNKT := Aside0.mk (show K ≠ T by rw [hT]; exact Nat.ne_of_lt (blk_lt HBK.out))
  have HBT := Aside0.mk (show wA.heap[T]? = some (.cells #[.pointer none, .pointer none, .pointer none, .pointer none, .pointer none, .pointer none, .pointer none] 218 (0, 0)) by rw [← hwA, hT]; exact blk_new _ _)
  have mn := Aside0.mk (show wA.heap[n]? = some (.cells #[.string x, .int .i64 pr, .string (⟨#[97]⟩ : ByteArray), Gs.ptr X, .slice none 0 0] 221 (0, 0)) from hwA ▸ blk_alloc HBn.out _)
  have mq := Aside0.mk (show wA.heap[q]? = some (.cells cur 223 (0, 0)) from hwA ▸ blk_alloc HBq.out _)
  have mK := Aside0.mk (show wA.heap[K]? = some (.cells #[.string Gs.nil0, .int .i64 0, .string Gs.nil0, .pointer none, .slice none 0 0] 221 (0, 0)) from hwA ▸ blk_alloc HBK.out _)
  have mF := Aside0.mk (show Gs.FK w wA (fun k => k = n) from hwA ▸ Gs.FK_below HF.out (below_alloc (Below.refl _ _) _))
  rw [← hT]
  clear hT hwA HF HBn HBq HBK
  have HBn := mn
  have HBq := mq
  have HBK := mK
  have HF := mF
  clear mF mn mq mK
  replace HBn := Aside0.mk (show (wA.setCell ⟨n, 4, none⟩ (.slice (some ⟨T, 0, none⟩) 7 7)).heap[n]? = some (.cells #[.string x, .int .i64 pr, .string (⟨#[97]⟩ : ByteArray), Gs.ptr X, .slice (some ⟨T, 0, none⟩) 7 7] 221 (0, 0)) from blk_put HBn.out 4 (.slice (some ⟨T, 0, none⟩) 7 7) rfl)
  replace HBq := Aside0.mk (blk_far HBq.out (p := ⟨n, 4, none⟩) (Ne.symm HNnq.out) (.slice (some ⟨T, 0, none⟩) 7 7))
  replace HBK := Aside0.mk (blk_far HBK.out (p := ⟨n, 4, none⟩) (Ne.symm HNnK.out) (.slice (some ⟨T, 0, none⟩) 7 7))
  replace HBT := Aside0.mk (blk_far HBT.out (p := ⟨n, 4, none⟩) (Ne.symm HNnT.out) (.slice (some ⟨T, 0, none⟩) 7 7))
  replace HF := Aside0.mk (show Gs.FK w (wA.setCell ⟨n, 4, none⟩ (.slice (some ⟨T, 0, none⟩) 7 7)) (fun k => k = n) from Gs.FK_set HF.out (i := 4) (.slice (some ⟨T, 0, none⟩) 7 7) (.inl rfl))
  generalize wA.setCell ⟨n, 4, none⟩ (.slice (some ⟨T, 0, none⟩) 7 7) = w2 at HBn HBq HBK HBT HF ⊢
  obtain ⟨cn0, zcn0, cn1, zcn1, cn2, zcn2, cn3, zcn3, cn4, zcn4⟩ := Gs.c5 HBn.out
  have cq103 : w2.cell? ⟨q, 103, none⟩ = some (.int .u8 5) := (blk_cell (HBq.out) 103).trans HMI.out
  have cT5 : w2.cell? ⟨T, 5, none⟩ = some (.pointer none) := (blk_cell (HBT.out) 5).trans rfl
  have zcT5 := blk_frozen (HBT.out) 5
  go_upto_region 18 with fail
  go_region
  clear cn0 zcn0 cn1 zcn1 cn2 zcn2 cn3 zcn3 cn4 zcn4 cq103 cT5 zcT5
  replace HBn := Aside0.mk (show ((w2.setCell ⟨T, 5, none⟩ (Gs.ptr X)).drew).heap[n]? = some (.cells #[.string x, .int .i64 pr, .string (⟨#[97]⟩ : ByteArray), Gs.ptr X, .slice (some ⟨T, 0, none⟩) 7 7] 221 (0, 0)) from blk_far HBn.out (p := ⟨T, 5, none⟩) HNnT.out (Gs.ptr X))
  replace HBq := Aside0.mk (show ((w2.setCell ⟨T, 5, none⟩ (Gs.ptr X)).drew).heap[q]? = some (.cells cur 223 (0, 0)) from blk_far HBq.out (p := ⟨T, 5, none⟩) HNqT.out (Gs.ptr X))
  replace HBK := Aside0.mk (show ((w2.setCell ⟨T, 5, none⟩ (Gs.ptr X)).drew).heap[K]? = some (.cells #[.string Gs.nil0, .int .i64 0, .string Gs.nil0, .pointer none, .slice none 0 0] 221 (0, 0)) from blk_far HBK.out (p := ⟨T, 5, none⟩) HNKT.out (Gs.ptr X))
  replace HBT := Aside0.mk (show ((w2.setCell ⟨T, 5, none⟩ (Gs.ptr X)).drew).heap[T]? = some (.cells #[.pointer none, .pointer none, .pointer none, .pointer none, .pointer none, Gs.ptr X, .pointer none] 218 (0, 0)) from blk_put HBT.out 5 (Gs.ptr X) rfl)
  replace HF := Aside0.mk (show Gs.FK w ((w2.setCell ⟨T, 5, none⟩ (Gs.ptr X)).drew) (fun k => k = n) from Gs.FK_set HF.out (i := 5) (Gs.ptr X) (.inr HGT.out))
  generalize (w2.setCell ⟨T, 5, none⟩ (Gs.ptr X)).drew = w3 at HBn HBq HBK HBT HF ⊢
  obtain ⟨cn0, zcn0, cn1, zcn1, cn2, zcn2, cn3, zcn3, cn4, zcn4⟩ := Gs.c5 HBn.out
  have cq62 : w3.cell? ⟨q, 62, none⟩ = some (.int .u8 2) := (blk_cell (HBq.out) 62).trans HMJ.out
  have cT2 : w3.cell? ⟨T, 2, none⟩ = some (.pointer none) := (blk_cell (HBT.out) 2).trans rfl
  have zcT2 := blk_frozen (HBT.out) 2
  go_upto_region 19 with fail
  go_region
  clear cn0 zcn0 cn1 zcn1 cn2 zcn2 cn3 zcn3 cn4 zcn4 cq62 cT2 zcT2
  replace HBn := Aside0.mk (show ((w3.setCell ⟨T, 2, none⟩ (Gs.ptr K)).drew).heap[n]? = some (.cells #[.string x, .int .i64 pr, .string (⟨#[97]⟩ : ByteArray), Gs.ptr X, .slice (some ⟨T, 0, none⟩) 7 7] 221 (0, 0)) from blk_far HBn.out (p := ⟨T, 2, none⟩) HNnT.out (Gs.ptr K))
  replace HBq := Aside0.mk (show ((w3.setCell ⟨T, 2, none⟩ (Gs.ptr K)).drew).heap[q]? = some (.cells cur 223 (0, 0)) from blk_far HBq.out (p := ⟨T, 2, none⟩) HNqT.out (Gs.ptr K))
  replace HBK := Aside0.mk (show ((w3.setCell ⟨T, 2, none⟩ (Gs.ptr K)).drew).heap[K]? = some (.cells #[.string Gs.nil0, .int .i64 0, .string Gs.nil0, .pointer none, .slice none 0 0] 221 (0, 0)) from blk_far HBK.out (p := ⟨T, 2, none⟩) HNKT.out (Gs.ptr K))
  replace HBT := Aside0.mk (show ((w3.setCell ⟨T, 2, none⟩ (Gs.ptr K)).drew).heap[T]? = some (.cells #[.pointer none, .pointer none, Gs.ptr K, .pointer none, .pointer none, Gs.ptr X, .pointer none] 218 (0, 0)) from blk_put HBT.out 2 (Gs.ptr K) rfl)
  replace HF := Aside0.mk (show Gs.FK w ((w3.setCell ⟨T, 2, none⟩ (Gs.ptr K)).drew) (fun k => k = n) from Gs.FK_set HF.out (i := 2) (Gs.ptr K) (.inr HGT.out))
  generalize (w3.setCell ⟨T, 2, none⟩ (Gs.ptr K)).drew = w4 at HBn HBq HBK HBT HF ⊢
  obtain ⟨cn0, zcn0, cn1, zcn1, cn2, zcn2, cn3, zcn3, cn4, zcn4⟩ := Gs.c5 HBn.out
  go_upto_region 21 with fail
  clear cn0 zcn0 cn1 zcn1 cn2 zcn2 cn3 zcn3 cn4 zcn4
  replace HBn := Aside0.mk (show (w4.setCell ⟨n, 2, none⟩ (.string Gs.nil0)).heap[n]? = some (.cells #[.string x, .int .i64 pr, .string Gs.nil0, Gs.ptr X, .slice (some ⟨T, 0, none⟩) 7 7] 221 (0, 0)) from blk_put HBn.out 2 (.string Gs.nil0) rfl)
  replace HBq := Aside0.mk (blk_far HBq.out (p := ⟨n, 2, none⟩) (Ne.symm HNnq.out) (.string Gs.nil0))
  replace HBK := Aside0.mk (blk_far HBK.out (p := ⟨n, 2, none⟩) (Ne.symm HNnK.out) (.string Gs.nil0))
  replace HBT := Aside0.mk (blk_far HBT.out (p := ⟨n, 2, none⟩) (Ne.symm HNnT.out) (.string Gs.nil0))
  replace HF := Aside0.mk (show Gs.FK w (w4.setCell ⟨n, 2, none⟩ (.string Gs.nil0)) (fun k => k = n) from Gs.FK_set HF.out (i := 2) (.string Gs.nil0) (.inl rfl))
  generalize w4.setCell ⟨n, 2, none⟩ (.string Gs.nil0) = w5 at HBn HBq HBK HBT HF ⊢
  obtain ⟨cn0, zcn0, cn1, zcn1, cn2, zcn2, cn3, zcn3, cn4, zcn4⟩ := Gs.c5 HBn.out
  go_upto_region 22 with fail
  clear cn0 zcn0 cn1 zcn1 cn2 zcn2 cn3 zcn3 cn4 zcn4
  replace HBn := Aside0.mk (show (w5.setCell ⟨n, 3, none⟩ (.pointer none)).heap[n]? = some (.cells #[.string x, .int .i64 pr, .string Gs.nil0, .pointer none, .slice (some ⟨T, 0, none⟩) 7 7] 221 (0, 0)) from blk_put HBn.out 3 (.pointer none) rfl)
  replace HBq := Aside0.mk (blk_far HBq.out (p := ⟨n, 3, none⟩) (Ne.symm HNnq.out) (.pointer none))
  replace HBK := Aside0.mk (blk_far HBK.out (p := ⟨n, 3, none⟩) (Ne.symm HNnK.out) (.pointer none))
  replace HBT := Aside0.mk (blk_far HBT.out (p := ⟨n, 3, none⟩) (Ne.symm HNnT.out) (.pointer none))
  replace HF := Aside0.mk (show Gs.FK w (w5.setCell ⟨n, 3, none⟩ (.pointer none)) (fun k => k = n) from Gs.FK_set HF.out (i := 3) (.pointer none) (.inl rfl))
  generalize w5.setCell ⟨n, 3, none⟩ (.pointer none) = w6 at HBn HBq HBK HBT HF ⊢
  go_wp2_with (go_at_call 203; refine (HK.out T K _ HGT.out HGK.out (Ne.symm HNKT.out) HBn.out HBT.out HBK.out HF.out).mono ?_; rintro e w5 ⟨rfl, hpost⟩)
  go_end0
  exact ⟨rfl, hpost⟩
set_option maxRecDepth 100000 in
set_option maxHeartbeats 8000000 in
theorem Gs.addD5c (n q X : Nat) (x v : ByteArray) (pr : Int) (p : Int) (cur : Array Value) (w : World) (hb : w.heap[n]? = some (Gs.nd x pr (⟨#[50]⟩ : ByteArray) (Gs.ptr X) (.slice none 0 0))) (hq : w.heap[q]? = some (.cells cur 223 (0, 0))) (hts : cur[5]? = some (.int .i64 7)) (hmi : cur[6 + 50]? = some (.int .u8 0)) (hmj : cur[6 + 53]? = some (.int .u8 1)) (hnq : n ≠ q) (POST : World → Prop)
  (hk : ∀ T K w2, w.heap.size ≤ T → w.heap.size ≤ K → T ≠ K → w2.heap[n]? = some (Gs.nd x pr Gs.nil0 (.pointer none) (.slice (some ⟨T, 0, none⟩) 7 7)) → w2.heap[T]? = some (.cells #[Gs.ptr X, Gs.ptr K, .pointer none, .pointer none, .pointer none, .pointer none, .pointer none] 218 (0, 0)) → w2.heap[K]? = some (.cells #[.string Gs.nil0, .int .i64 0, .string Gs.nil0, .pointer none, .slice none 0 0] 221 (0, 0)) → Gs.FK w w2 (fun k => k = n) → Calls Tryz.prog 203 #[Gs.ptr K, .string (⟨#[99]⟩ : ByteArray), .string v, .int .i64 p, Gs.ptr q] w2 fun e w' => e = .returned (.tuple #[]) ∧ POST w') :
  Calls Tryz.prog 203 #[Gs.ptr n, .string (⟨#[53, 99]⟩ : ByteArray), .string v, .int .i64 p, Gs.ptr q] w fun e w' => e = .returned (.tuple #[]) ∧ POST w' := by
 have hu := Tryz.underlying221
 have qT : ∀ (w : World) (a : Option Addr) (n c n' c' : Nat), (binOp .neq 219 (.slice a n c) (.slice none n' c')).run Tryz.prog w = .ok (.bool (!a.isNone)) w := fun w a n c n' c' => run_neq_slice_nil_any w _ _ a n c n' c' Tryz.underlying219
 have hbp : ∀ h : 0 < (⟨#[50]⟩ : ByteArray).size, (((⟨#[50]⟩ : ByteArray)[0]'h).toNat : Int) = 50 := fun _ => rfl
 have hbk : ∀ h : 0 < (⟨#[53, 99]⟩ : ByteArray).size, (((⟨#[53, 99]⟩ : ByteArray)[0]'h).toNat : Int) = 53 := fun _ => rfl
 have hxs : (⟨#[53, 99]⟩ : ByteArray).extract 1 2 = (⟨#[99]⟩ : ByteArray) := by decide
 have HBn := Aside0.mk hb
 have HBq := Aside0.mk hq
 have HTS := Aside0.mk hts
 have HMI := Aside0.mk hmi
 have HMJ := Aside0.mk hmj
 have HK := Aside0.mk hk
 have HNnq := Aside0.mk hnq
 have HF := Aside0.mk (Gs.FK_refl w (fun k => k = n))
 clear hb hq hts hmi hmj hnq hk
 obtain ⟨cn0, zcn0, cn1, zcn1, cn2, zcn2, cn3, zcn3, cn4, zcn4⟩ := Gs.c5 HBn.out
 go_enter Tryz.func203, Tryz.ntmps203
 go_upto_region 6 with fail
 go_loopg [10] 1 (fun kq v10 w' => v10 = .int .i64 0 ∧ w' = w)
 case atStart => exact ⟨rfl, rfl⟩
 case round =>
  obtain ⟨rfl, hw⟩ := hrel
  replace hw := hw.symm
  subst hw
  go_upto_region 8 with fail
  go_region
  clear cn0 zcn0 cn1 zcn1 cn2 zcn2 cn3 zcn3 cn4 zcn4
  replace HBn := Aside0.mk (blk_drew HBn.out)
  replace HBq := Aside0.mk (blk_drew HBq.out)
  replace HF := Aside0.mk (show Gs.FK w (w.drew) (fun k => k = n) from HF.out)
  generalize w.drew = w1 at HBn HBq HF ⊢
  obtain ⟨cn0, zcn0, cn1, zcn1, cn2, zcn2, cn3, zcn3, cn4, zcn4⟩ := Gs.c5 HBn.out
  go_upto_region 16 with fail
  go_upto_region 17 with ((with_reducible refine gate_dst (N := 101) rfl ?_); refine box_event ?hg (N := 101) ?hd (cs := #[.string Gs.nil0, .int .i64 0, .string Gs.nil0, .pointer none, .slice none 0 0]) (t := 221) ?hr ?_; (case hd => rfl); (case hg => rfl); (case hr => first | (go_simp; done) | (go_simp; rfl)); intro K hg wb hbox hb; clear cn0 zcn0 cn1 zcn1 cn2 zcn2 cn3 zcn3 cn4 zcn4; have HGK := Aside0.mk (show w.heap.size ≤ K by rw [hg]; exact HF.out.2.2.2.1); have HNnK := Aside0.mk (show n ≠ K by rw [hg]; exact Nat.ne_of_lt (blk_lt HBn.out)); have HNqK := Aside0.mk (show q ≠ K by rw [hg]; exact Nat.ne_of_lt (blk_lt HBq.out)); have HBK := Aside0.mk hbox; have mn := Aside0.mk (blk_below HBn.out hb); have mq := Aside0.mk (blk_below HBq.out hb); have mF := Aside0.mk (Gs.FK_below HF.out hb); clear HF HBn HBq hb hbox hg; have HBn := mn; have HBq := mq; have HF := mF; clear mF mn mq)
  have cq5 : wb.cell? ⟨q, 5, none⟩ = some (.int .i64 7) := (blk_cell (HBq.out) 5).trans HTS.out
  have hmk := Gs.mk7
  have cn4 : (wb.alloc (Obj.cells #[.pointer none, .pointer none, .pointer none, .pointer none, .pointer none, .pointer none, .pointer none] 218)).cell? ⟨n, 4, none⟩ = some (.slice none 0 0) := (blk_cell (blk_alloc HBn.out (Obj.cells #[.pointer none, .pointer none, .pointer none, .pointer none, .pointer none, .pointer none, .pointer none] 218)) 4).trans rfl
  have zcn4 := blk_frozen (blk_alloc HBn.out (Obj.cells #[.pointer none, .pointer none, .pointer none, .pointer none, .pointer none, .pointer none, .pointer none] 218)) 4
  go_upto_region 18 with fail
  clear cq5 cn4 zcn4
  clear hmk
  generalize hwA : wb.alloc (Obj.cells #[.pointer none, .pointer none, .pointer none, .pointer none, .pointer none, .pointer none, .pointer none] 218) = wA
  obtain ⟨T, hT⟩ : ∃ q_, q_ = wb.heap.size := ⟨_, rfl⟩
  have HGT := Aside0.mk (show w.heap.size ≤ T by rw [hT]; exact HF.out.2.2.2.1)
  have HNnT := Aside0.mk (show n ≠ T by rw [hT]; exact Nat.ne_of_lt (blk_lt HBn.out))
  have HNqT := Aside0.mk (show q ≠ T by rw [hT]; exact Nat.ne_of_lt (blk_lt HBq.out))
  have HNKT := Aside0.mk (show K ≠ T by rw [hT]; exact Nat.ne_of_lt (blk_lt HBK.out))
  have HBT := Aside0.mk (show wA.heap[T]? = some (.cells #[.pointer none, .pointer none, .pointer none, .pointer none, .pointer none, .pointer none, .pointer none] 218 (0, 0)) by rw [← hwA, hT]; exact blk_new _ _)
  have mn := Aside0.mk (show wA.heap[n]? = some (.cells #[.string x, .int .i64 pr, .string (⟨#[50]⟩ : ByteArray), Gs.ptr X, .slice none 0 0] 221 (0, 0)) from hwA ▸ blk_alloc HBn.out _)
  have mq := Aside0.mk (show wA.heap[q]? = some (.cells cur 223 (0, 0)) from hwA ▸ blk_alloc HBq.out _)
  have mK := Aside0.mk (show wA.heap[K]? = some (.cells #[.string Gs.nil0, .int .i64 0, .string Gs.nil0, .pointer none, .slice none 0 0] 221 (0, 0)) from hwA ▸ blk_alloc HBK.out _)
  have mF := Aside0.mk (show Gs.FK w wA (fun k => k = n) from hwA ▸ Gs.FK_below HF.out (below_alloc (Below.refl _ _) _))
  rw [← hT]
  clear hT hwA HF HBn HBq HBK
  have HBn := mn
  have HBq := mq
  have HBK := mK
  have HF := mF
  clear mF mn mq mK
  replace HBn := Aside0.mk (show (wA.setCell ⟨n, 4, none⟩ (.slice (some ⟨T, 0, none⟩) 7 7)).heap[n]? = some (.cells #[.string x, .int .i64 pr, .string (⟨#[50]⟩ : ByteArray), Gs.ptr X, .slice (some ⟨T, 0, none⟩) 7 7] 221 (0, 0)) from blk_put HBn.out 4 (.slice (some ⟨T, 0, none⟩) 7 7) rfl)
  replace HBq := Aside0.mk (blk_far HBq.out (p := ⟨n, 4, none⟩) (Ne.symm HNnq.out) (.slice (some ⟨T, 0, none⟩) 7 7))
  replace HBK := Aside0.mk (blk_far HBK.out (p := ⟨n, 4, none⟩) (Ne.symm HNnK.out) (.slice (some ⟨T, 0, none⟩) 7 7))
  replace HBT := Aside0.mk (blk_far HBT.out (p := ⟨n, 4, none⟩) (Ne.symm HNnT.out) (.slice (some ⟨T, 0, none⟩) 7 7))
  replace HF := Aside0.mk (show Gs.FK w (wA.setCell ⟨n, 4, none⟩ (.slice (some ⟨T, 0, none⟩) 7 7)) (fun k => k = n) from Gs.FK_set HF.out (i := 4) (.slice (some ⟨T, 0, none⟩) 7 7) (.inl rfl))
  generalize wA.setCell ⟨n, 4, none⟩ (.slice (some ⟨T, 0, none⟩) 7 7) = w2 at HBn HBq HBK HBT HF ⊢
  obtain ⟨cn0, zcn0, cn1, zcn1, cn2, zcn2, cn3, zcn3, cn4, zcn4⟩ := Gs.c5 HBn.out
  have cq56 : w2.cell? ⟨q, 56, none⟩ = some (.int .u8 0) := (blk_cell (HBq.out) 56).trans HMI.out
  have cT0 : w2.cell? ⟨T, 0, none⟩ = some (.pointer none) := (blk_cell (HBT.out) 0).trans rfl
  have zcT0 := blk_frozen (HBT.out) 0
  go_upto_region 18 with fail
  go_region
  clear cn0 zcn0 cn1 zcn1 cn2 zcn2 cn3 zcn3 cn4 zcn4 cq56 cT0 zcT0
  replace HBn := Aside0.mk (show ((w2.setCell ⟨T, 0, none⟩ (Gs.ptr X)).drew).heap[n]? = some (.cells #[.string x, .int .i64 pr, .string (⟨#[50]⟩ : ByteArray), Gs.ptr X, .slice (some ⟨T, 0, none⟩) 7 7] 221 (0, 0)) from blk_far HBn.out (p := ⟨T, 0, none⟩) HNnT.out (Gs.ptr X))
  replace HBq := Aside0.mk (show ((w2.setCell ⟨T, 0, none⟩ (Gs.ptr X)).drew).heap[q]? = some (.cells cur 223 (0, 0)) from blk_far HBq.out (p := ⟨T, 0, none⟩) HNqT.out (Gs.ptr X))
  replace HBK := Aside0.mk (show ((w2.setCell ⟨T, 0, none⟩ (Gs.ptr X)).drew).heap[K]? = some (.cells #[.string Gs.nil0, .int .i64 0, .string Gs.nil0, .pointer none, .slice none 0 0] 221 (0, 0)) from blk_far HBK.out (p := ⟨T, 0, none⟩) HNKT.out (Gs.ptr X))
  replace HBT := Aside0.mk (show ((w2.setCell ⟨T, 0, none⟩ (Gs.ptr X)).drew).heap[T]? = some (.cells #[Gs.ptr X, .pointer none, .pointer none, .pointer none, .pointer none, .pointer none, .pointer none] 218 (0, 0)) from blk_put HBT.out 0 (Gs.ptr X) rfl)
  replace HF := Aside0.mk (show Gs.FK w ((w2.setCell ⟨T, 0, none⟩ (Gs.ptr X)).drew) (fun k => k = n) from Gs.FK_set HF.out (i := 0) (Gs.ptr X) (.inr HGT.out))
  generalize (w2.setCell ⟨T, 0, none⟩ (Gs.ptr X)).drew = w3 at HBn HBq HBK HBT HF ⊢
  obtain ⟨cn0, zcn0, cn1, zcn1, cn2, zcn2, cn3, zcn3, cn4, zcn4⟩ := Gs.c5 HBn.out
  have cq59 : w3.cell? ⟨q, 59, none⟩ = some (.int .u8 1) := (blk_cell (HBq.out) 59).trans HMJ.out
  have cT1 : w3.cell? ⟨T, 1, none⟩ = some (.pointer none) := (blk_cell (HBT.out) 1).trans rfl
  have zcT1 := blk_frozen (HBT.out) 1
  go_upto_region 19 with fail
  go_region
  clear cn0 zcn0 cn1 zcn1 cn2 zcn2 cn3 zcn3 cn4 zcn4 cq59 cT1 zcT1
  replace HBn := Aside0.mk (show ((w3.setCell ⟨T, 1, none⟩ (Gs.ptr K)).drew).heap[n]? = some (.cells #[.string x, .int .i64 pr, .string (⟨#[50]⟩ : ByteArray), Gs.ptr X, .slice (some ⟨T, 0, none⟩) 7 7] 221 (0, 0)) from blk_far HBn.out (p := ⟨T, 1, none⟩) HNnT.out (Gs.ptr K))
  replace HBq := Aside0.mk (show ((w3.setCell ⟨T, 1, none⟩ (Gs.ptr K)).drew).heap[q]? = some (.cells cur 223 (0, 0)) from blk_far HBq.out (p := ⟨T, 1, none⟩) HNqT.out (Gs.ptr K))
  replace HBK := Aside0.mk (show ((w3.setCell ⟨T, 1, none⟩ (Gs.ptr K)).drew).heap[K]? = some (.cells #[.string Gs.nil0, .int .i64 0, .string Gs.nil0, .pointer none, .slice none 0 0] 221 (0, 0)) from blk_far HBK.out (p := ⟨T, 1, none⟩) HNKT.out (Gs.ptr K))
  replace HBT := Aside0.mk (show ((w3.setCell ⟨T, 1, none⟩ (Gs.ptr K)).drew).heap[T]? = some (.cells #[Gs.ptr X, Gs.ptr K, .pointer none, .pointer none, .pointer none, .pointer none, .pointer none] 218 (0, 0)) from blk_put HBT.out 1 (Gs.ptr K) rfl)
  replace HF := Aside0.mk (show Gs.FK w ((w3.setCell ⟨T, 1, none⟩ (Gs.ptr K)).drew) (fun k => k = n) from Gs.FK_set HF.out (i := 1) (Gs.ptr K) (.inr HGT.out))
  generalize (w3.setCell ⟨T, 1, none⟩ (Gs.ptr K)).drew = w4 at HBn HBq HBK HBT HF ⊢
  obtain ⟨cn0, zcn0, cn1, zcn1, cn2, zcn2, cn3, zcn3, cn4, zcn4⟩ := Gs.c5 HBn.out
  go_upto_region 21 with fail
  clear cn0 zcn0 cn1 zcn1 cn2 zcn2 cn3 zcn3 cn4 zcn4
  replace HBn := Aside0.mk (show (w4.setCell ⟨n, 2, none⟩ (.string Gs.nil0)).heap[n]? = some (.cells #[.string x, .int .i64 pr, .string Gs.nil0, Gs.ptr X, .slice (some ⟨T, 0, none⟩) 7 7] 221 (0, 0)) from blk_put HBn.out 2 (.string Gs.nil0) rfl)
  replace HBq := Aside0.mk (blk_far HBq.out (p := ⟨n, 2, none⟩) (Ne.symm HNnq.out) (.string Gs.nil0))
  replace HBK := Aside0.mk (blk_far HBK.out (p := ⟨n, 2, none⟩) (Ne.symm HNnK.out) (.string Gs.nil0))
  replace HBT := Aside0.mk (blk_far HBT.out (p := ⟨n, 2, none⟩) (Ne.symm HNnT.out) (.string Gs.nil0))
  replace HF := Aside0.mk (show Gs.FK w (w4.setCell ⟨n, 2, none⟩ (.string Gs.nil0)) (fun k => k = n) from Gs.FK_set HF.out (i := 2) (.string Gs.nil0) (.inl rfl))
  generalize w4.setCell ⟨n, 2, none⟩ (.string Gs.nil0) = w5 at HBn HBq HBK HBT HF ⊢
  obtain ⟨cn0, zcn0, cn1, zcn1, cn2, zcn2, cn3, zcn3, cn4, zcn4⟩ := Gs.c5 HBn.out
  go_upto_region 22 with fail
  clear cn0 zcn0 cn1 zcn1 cn2 zcn2 cn3 zcn3 cn4 zcn4
  replace HBn := Aside0.mk (show (w5.setCell ⟨n, 3, none⟩ (.pointer none)).heap[n]? = some (.cells #[.string x, .int .i64 pr, .string Gs.nil0, .pointer none, .slice (some ⟨T, 0, none⟩) 7 7] 221 (0, 0)) from blk_put HBn.out 3 (.pointer none) rfl)
  replace HBq := Aside0.mk (blk_far HBq.out (p := ⟨n, 3, none⟩) (Ne.symm HNnq.out) (.pointer none))
  replace HBK := Aside0.mk (blk_far HBK.out (p := ⟨n, 3, none⟩) (Ne.symm HNnK.out) (.pointer none))
  replace HBT := Aside0.mk (blk_far HBT.out (p := ⟨n, 3, none⟩) (Ne.symm HNnT.out) (.pointer none))
  replace HF := Aside0.mk (show Gs.FK w (w5.setCell ⟨n, 3, none⟩ (.pointer none)) (fun k => k = n) from Gs.FK_set HF.out (i := 3) (.pointer none) (.inl rfl))
  generalize w5.setCell ⟨n, 3, none⟩ (.pointer none) = w6 at HBn HBq HBK HBT HF ⊢
  go_wp2_with (go_at_call 203; refine (HK.out T K _ HGT.out HGK.out (Ne.symm HNKT.out) HBn.out HBT.out HBK.out HF.out).mono ?_; rintro e w5 ⟨rfl, hpost⟩)
  go_end0
  exact ⟨rfl, hpost⟩
set_option maxRecDepth 100000 in
set_option maxHeartbeats 8000000 in
theorem Gs.addS (n q X : Nat) (x v : ByteArray) (pr : Int) (p : Int) (w : World) (hb : w.heap[n]? = some (Gs.nd x pr (⟨#[50, 97]⟩ : ByteArray) (Gs.ptr X) (.slice none 0 0))) (POST : World → Prop)
  (hk : ∀ K w2, w.heap.size ≤ K → w2.heap[n]? = some (Gs.nd x pr (⟨#[50]⟩ : ByteArray) (Gs.ptr K) (.slice none 0 0)) → w2.heap[K]? = some (Gs.nd Gs.nil0 0 (⟨#[97]⟩ : ByteArray) (Gs.ptr X) (.slice none 0 0)) → Gs.FK w w2 (fun k => k = n) → Calls Tryz.prog 203 #[Gs.ptr K, .string (⟨#[56]⟩ : ByteArray), .string v, .int .i64 p, Gs.ptr q] w2 fun e w' => e = .returned (.tuple #[]) ∧ POST w') :
  Calls Tryz.prog 203 #[Gs.ptr n, .string (⟨#[50, 56]⟩ : ByteArray), .string v, .int .i64 p, Gs.ptr q] w fun e w' => e = .returned (.tuple #[]) ∧ POST w' := by
 have hu := Tryz.underlying221
 have qT : ∀ (w : World) (a : Option Addr) (n c n' c' : Nat), (binOp .neq 219 (.slice a n c) (.slice none n' c')).run Tryz.prog w = .ok (.bool (!a.isNone)) w := fun w a n c n' c' => run_neq_slice_nil_any w _ _ a n c n' c' Tryz.underlying219
 have hbp0 : ∀ h : 0 < (⟨#[50, 97]⟩ : ByteArray).size, (((⟨#[50, 97]⟩ : ByteArray)[0]'h).toNat : Int) = 50 := fun _ => rfl
 have hbp1 : ∀ h : 1 < (⟨#[50, 97]⟩ : ByteArray).size, (((⟨#[50, 97]⟩ : ByteArray)[1]'h).toNat : Int) = 97 := fun _ => rfl
 have hbk0 : ∀ h : 0 < (⟨#[50, 56]⟩ : ByteArray).size, (((⟨#[50, 56]⟩ : ByteArray)[0]'h).toNat : Int) = 50 := fun _ => rfl
 have hbk1 : ∀ h : 1 < (⟨#[50, 56]⟩ : ByteArray).size, (((⟨#[50, 56]⟩ : ByteArray)[1]'h).toNat : Int) = 56 := fun _ => rfl
 have hxs : (⟨#[50, 56]⟩ : ByteArray).extract 1 2 = (⟨#[56]⟩ : ByteArray) := by decide
 have hxt : (⟨#[50, 97]⟩ : ByteArray).extract 1 2 = (⟨#[97]⟩ : ByteArray) := by decide
 have hxu : (⟨#[50, 97]⟩ : ByteArray).extract 0 1 = (⟨#[50]⟩ : ByteArray) := by decide
 have HBn := Aside0.mk hb
 have HK := Aside0.mk hk
 have HF := Aside0.mk (Gs.FK_refl w (fun k => k = n))
 clear hb hk
 obtain ⟨cn0, zcn0, cn1, zcn1, cn2, zcn2, cn3, zcn3, cn4, zcn4⟩ := Gs.c5 HBn.out
 go_enter Tryz.func203, Tryz.ntmps203
 go_upto_region 6 with fail
 clear cn0 zcn0 cn1 zcn1 cn2 zcn2 cn3 zcn3 cn4 zcn4
 go_loopg [10] 1 (fun kq v10 w' => ∃ (j : Nat), v10 = .int .i64 (j : Int) ∧ Aside0 (j + kq = 1) ∧ Aside0 (w'.heap[n]? = some (.cells #[.string x, .int .i64 pr, .string (⟨#[50, 97]⟩ : ByteArray), Gs.ptr X, .slice none 0 0] 221 (0, 0))) ∧ Aside0 (Gs.FK w w' (fun k => k = n)))
 case atStart => exact ⟨0, rfl, ⟨rfl⟩, HBn, HF⟩
 case round =>
  clear HBn HF
  obtain ⟨j, rfl, HJ, HBn, HF⟩ := hrel
  obtain rfl | rfl : j = 0 ∨ j = 1 := by have := HJ.out; omega
  ·
   obtain ⟨cn0, zcn0, cn1, zcn1, cn2, zcn2, cn3, zcn3, cn4, zcn4⟩ := Gs.c5 HBn.out
   go_upto_region 8 with fail
   go_region
   clear cn0 zcn0 cn1 zcn1 cn2 zcn2 cn3 zcn3 cn4 zcn4
   replace HBn := Aside0.mk (blk_drew HBn.out)
   replace HF := Aside0.mk (show Gs.FK w (wr.drew) (fun k => k = n) from HF.out)
   generalize wr.drew = w1 at HBn HF ⊢
   go_wp2
   go_roundg (gk - 1)
   exact ⟨1, rfl, ⟨by have := HJ.out; omega⟩, HBn, HF⟩
   have := HJ.out
   omega
  ·
   obtain ⟨cn0, zcn0, cn1, zcn1, cn2, zcn2, cn3, zcn3, cn4, zcn4⟩ := Gs.c5 HBn.out
   go_upto_region 8 with fail
   go_region
   clear cn0 zcn0 cn1 zcn1 cn2 zcn2 cn3 zcn3 cn4 zcn4
   replace HBn := Aside0.mk (blk_drew HBn.out)
   replace HF := Aside0.mk (show Gs.FK w (wr.drew) (fun k => k = n) from HF.out)
   generalize wr.drew = w1 at HBn HF ⊢
   obtain ⟨cn0, zcn0, cn1, zcn1, cn2, zcn2, cn3, zcn3, cn4, zcn4⟩ := Gs.c5 HBn.out
   go_upto_region 23 with fail
   go_region
   clear cn0 zcn0 cn1 zcn1 cn2 zcn2 cn3 zcn3 cn4 zcn4
   obtain ⟨K, hK⟩ : ∃ q_, q_ = w1.heap.size := ⟨_, rfl⟩
   have HGK := Aside0.mk (show w.heap.size ≤ K by rw [hK]; exact HF.out.2.2.2.1)
   have HNnK := Aside0.mk (show n ≠ K by rw [hK]; exact Nat.ne_of_lt (blk_lt HBn.out))
   have HBK := Aside0.mk (show ((w1.alloc (.cells #[.string Gs.nil0, .int .i64 0, .string (⟨#[97]⟩ : ByteArray), Gs.ptr X, .slice none 0 0] 221 (0, 0))).drew).heap[K]? = some (.cells #[.string Gs.nil0, .int .i64 0, .string (⟨#[97]⟩ : ByteArray), Gs.ptr X, .slice none 0 0] 221 (0, 0)) by rw [hK]; exact blk_new _ _)
   rw [← hK]
   clear hK
   replace HBn := Aside0.mk (show ((w1.alloc (.cells #[.string Gs.nil0, .int .i64 0, .string (⟨#[97]⟩ : ByteArray), Gs.ptr X, .slice none 0 0] 221 (0, 0))).drew).heap[n]? = some (.cells #[.string x, .int .i64 pr, .string (⟨#[50, 97]⟩ : ByteArray), Gs.ptr X, .slice none 0 0] 221 (0, 0)) from blk_alloc HBn.out _)
   replace HF := Aside0.mk (show Gs.FK w ((w1.alloc (.cells #[.string Gs.nil0, .int .i64 0, .string (⟨#[97]⟩ : ByteArray), Gs.ptr X, .slice none 0 0] 221 (0, 0))).drew) (fun k => k = n) from (show Gs.FK w (w1.alloc (.cells #[.string Gs.nil0, .int .i64 0, .string (⟨#[97]⟩ : ByteArray), Gs.ptr X, .slice none 0 0] 221 (0, 0))) (fun k => k = n) from Gs.FK_below HF.out (below_alloc (Below.refl _ _) _)))
   generalize (w1.alloc (.cells #[.string Gs.nil0, .int .i64 0, .string (⟨#[97]⟩ : ByteArray), Gs.ptr X, .slice none 0 0] 221 (0, 0))).drew = w2 at HBn HBK HF ⊢
   obtain ⟨cn0, zcn0, cn1, zcn1, cn2, zcn2, cn3, zcn3, cn4, zcn4⟩ := Gs.c5 HBn.out
   go_upto_region 25 with fail
   clear cn0 zcn0 cn1 zcn1 cn2 zcn2 cn3 zcn3 cn4 zcn4
   replace HBn := Aside0.mk (show (w2.setCell ⟨n, 2, none⟩ (.string (⟨#[50]⟩ : ByteArray))).heap[n]? = some (.cells #[.string x, .int .i64 pr, .string (⟨#[50]⟩ : ByteArray), Gs.ptr X, .slice none 0 0] 221 (0, 0)) from blk_put HBn.out 2 (.string (⟨#[50]⟩ : ByteArray)) rfl)
   replace HBK := Aside0.mk (blk_far HBK.out (p := ⟨n, 2, none⟩) (Ne.symm HNnK.out) (.string (⟨#[50]⟩ : ByteArray)))
   replace HF := Aside0.mk (show Gs.FK w (w2.setCell ⟨n, 2, none⟩ (.string (⟨#[50]⟩ : ByteArray))) (fun k => k = n) from Gs.FK_set HF.out (i := 2) (.string (⟨#[50]⟩ : ByteArray)) (.inl rfl))
   generalize w2.setCell ⟨n, 2, none⟩ (.string (⟨#[50]⟩ : ByteArray)) = w3 at HBn HBK HF ⊢
   obtain ⟨cn0, zcn0, cn1, zcn1, cn2, zcn2, cn3, zcn3, cn4, zcn4⟩ := Gs.c5 HBn.out
   go_upto_region 26 with fail
   clear cn0 zcn0 cn1 zcn1 cn2 zcn2 cn3 zcn3 cn4 zcn4
   replace HBn := Aside0.mk (show (w3.setCell ⟨n, 3, none⟩ (Gs.ptr K)).heap[n]? = some (.cells #[.string x, .int .i64 pr, .string (⟨#[50]⟩ : ByteArray), Gs.ptr K, .slice none 0 0] 221 (0, 0)) from blk_put HBn.out 3 (Gs.ptr K) rfl)
   replace HBK := Aside0.mk (blk_far HBK.out (p := ⟨n, 3, none⟩) (Ne.symm HNnK.out) (Gs.ptr K))
   replace HF := Aside0.mk (show Gs.FK w (w3.setCell ⟨n, 3, none⟩ (Gs.ptr K)) (fun k => k = n) from Gs.FK_set HF.out (i := 3) (Gs.ptr K) (.inl rfl))
   generalize w3.setCell ⟨n, 3, none⟩ (Gs.ptr K) = w4 at HBn HBK HF ⊢
   go_wp2_with (go_at_call 203; refine (HK.out K _ HGK.out HBn.out HBK.out HF.out).mono ?_; rintro e w5 ⟨rfl, hpost⟩)
   go_end0
   exact ⟨rfl, hpost⟩
set_option maxRecDepth 100000 in
set_option maxHeartbeats 8000000 in
theorem Gs.addN (n q X : Nat) (x v : ByteArray) (pr : Int) (p : Int) (w : World) (hb : w.heap[n]? = some (Gs.nd x pr (⟨#[50]⟩ : ByteArray) (Gs.ptr X) (.slice none 0 0))) (POST : World → Prop)
  (hk : ∀ w2, Gs.FK w w2 (fun _ => False) → Calls Tryz.prog 203 #[Gs.ptr X, .string (⟨#[57]⟩ : ByteArray), .string v, .int .i64 p, Gs.ptr q] w2 fun e w' => e = .returned (.tuple #[]) ∧ POST w') :
  Calls Tryz.prog 203 #[Gs.ptr n, .string (⟨#[50, 57]⟩ : ByteArray), .string v, .int .i64 p, Gs.ptr q] w fun e w' => e = .returned (.tuple #[]) ∧ POST w' := by
 have hu := Tryz.underlying221
 have qT : ∀ (w : World) (a : Option Addr) (n c n' c' : Nat), (binOp .neq 219 (.slice a n c) (.slice none n' c')).run Tryz.prog w = .ok (.bool (!a.isNone)) w := fun w a n c n' c' => run_neq_slice_nil_any w _ _ a n c n' c' Tryz.underlying219
 have hbp0 : ∀ h : 0 < (⟨#[50]⟩ : ByteArray).size, (((⟨#[50]⟩ : ByteArray)[0]'h).toNat : Int) = 50 := fun _ => rfl
 have hbk0 : ∀ h : 0 < (⟨#[50, 57]⟩ : ByteArray).size, (((⟨#[50, 57]⟩ : ByteArray)[0]'h).toNat : Int) = 50 := fun _ => rfl
 have hbk1 : ∀ h : 1 < (⟨#[50, 57]⟩ : ByteArray).size, (((⟨#[50, 57]⟩ : ByteArray)[1]'h).toNat : Int) = 57 := fun _ => rfl
 have hxs : (⟨#[50, 57]⟩ : ByteArray).extract 1 2 = (⟨#[57]⟩ : ByteArray) := by decide
 have HBn := Aside0.mk hb
 have HK := Aside0.mk hk
 have HF := Aside0.mk (Gs.FK_refl w (fun _ => False))
 clear hb hk
 obtain ⟨cn0, zcn0, cn1, zcn1, cn2, zcn2, cn3, zcn3, cn4, zcn4⟩ := Gs.c5 HBn.out
 go_enter Tryz.func203, Tryz.ntmps203
 go_upto_region 6 with fail
 clear cn0 zcn0 cn1 zcn1 cn2 zcn2 cn3 zcn3 cn4 zcn4
 go_loopg [10] 1 (fun kq v10 w' => ∃ (j : Nat), v10 = .int .i64 (j : Int) ∧ Aside0 (j + kq = 1) ∧ Aside0 (w'.heap[n]? = some (.cells #[.string x, .int .i64 pr, .string (⟨#[50]⟩ : ByteArray), Gs.ptr X, .slice none 0 0] 221 (0, 0))) ∧ Aside0 (Gs.FK w w' (fun _ => False)))
 case atStart => exact ⟨0, rfl, ⟨rfl⟩, HBn, HF⟩
 case round =>
  clear HBn HF
  obtain ⟨j, rfl, HJ, HBn, HF⟩ := hrel
  obtain rfl | rfl : j = 0 ∨ j = 1 := by have := HJ.out; omega
  ·
   obtain ⟨cn0, zcn0, cn1, zcn1, cn2, zcn2, cn3, zcn3, cn4, zcn4⟩ := Gs.c5 HBn.out
   go_upto_region 8 with fail
   go_region
   clear cn0 zcn0 cn1 zcn1 cn2 zcn2 cn3 zcn3 cn4 zcn4
   replace HBn := Aside0.mk (blk_drew HBn.out)
   replace HF := Aside0.mk (show Gs.FK w (wr.drew) (fun _ => False) from HF.out)
   generalize wr.drew = w1 at HBn HF ⊢
   go_wp2
   go_roundg (gk - 1)
   exact ⟨1, rfl, ⟨by have := HJ.out; omega⟩, HBn, HF⟩
   have := HJ.out
   omega
  ·
   obtain ⟨cn0, zcn0, cn1, zcn1, cn2, zcn2, cn3, zcn3, cn4, zcn4⟩ := Gs.c5 HBn.out
   go_upto_region 10 with fail
   go_region_with (go_at_call 203; refine (HK.out _ ?_).mono ?_; exact (show Gs.FK w wr.drew (fun _ => False) from HF.out); rintro e w5 ⟨rfl, hpost⟩)
   go_end0
   exact ⟨rfl, hpost⟩
set_option maxRecDepth 100000 in
set_option maxHeartbeats 8000000 in
theorem Gs.addT2a (n q T tn : Nat) (v : ByteArray) (p : Int) (cn cq : Array Value) (a0 a1 a2 a3 a5 a6 : Value) (w : World) (hb : w.heap[n]? = some (.cells cn tn (0, 0))) (hq : w.heap[q]? = some (.cells cq 223 (0, 0))) (ht : w.heap[T]? = some (.cells #[a0, a1, a2, a3, .pointer none, a5, a6] 218 (0, 0))) (h2 : cn[2]? = some (.string Gs.nil0)) (h4 : cn[4]? = some (.slice (some ⟨T, 0, none⟩) 7 7)) (hm : cq[6 + 92]? = some (.int .u8 4)) (hnT : n ≠ T) (hqT : q ≠ T) (POST : World → Prop)
  (hk : ∀ K w2, w.heap.size ≤ K → w2.heap[K]? = some (.cells #[.string Gs.nil0, .int .i64 0, .string Gs.nil0, .pointer none, .slice none 0 0] 221 (0, 0)) → w2.heap[T]? = some (.cells #[a0, a1, a2, a3, Gs.ptr K, a5, a6] 218 (0, 0)) → Gs.FK w w2 (fun k => k = T) → Calls Tryz.prog 203 #[Gs.ptr K, .string (⟨#[50, 97]⟩ : ByteArray), .string v, .int .i64 p, Gs.ptr q] w2 fun e w' => e = .returned (.tuple #[]) ∧ POST w') :
  Calls Tryz.prog 203 #[Gs.ptr n, .string (⟨#[92, 50, 97]⟩ : ByteArray), .string v, .int .i64 p, Gs.ptr q] w fun e w' => e = .returned (.tuple #[]) ∧ POST w' := by
 have hu := Tryz.underlying221
 have qT : ∀ (w : World) (a : Option Addr) (n c n' c' : Nat), (binOp .neq 219 (.slice a n c) (.slice none n' c')).run Tryz.prog w = .ok (.bool (!a.isNone)) w := fun w a n c n' c' => run_neq_slice_nil_any w _ _ a n c n' c' Tryz.underlying219
 have hbk : ∀ h : 0 < (⟨#[92, 50, 97]⟩ : ByteArray).size, (((⟨#[92, 50, 97]⟩ : ByteArray)[0]'h).toNat : Int) = 92 := fun _ => rfl
 have hxs : (⟨#[92, 50, 97]⟩ : ByteArray).extract 1 3 = (⟨#[50, 97]⟩ : ByteArray) := by decide
 have HBn := Aside0.mk hb
 have HBq := Aside0.mk hq
 have HBT := Aside0.mk ht
 have HK := Aside0.mk hk
 have H2 := Aside0.mk h2
 have H4 := Aside0.mk h4
 have HM := Aside0.mk hm
 have HNnT := Aside0.mk hnT
 have HNqT := Aside0.mk hqT
 have HF := Aside0.mk (Gs.FK_refl w (fun k => k = T))
 clear hb hq ht hk h2 h4 hm hnT hqT
 have cn2 : w.cell? ⟨n, 2, none⟩ = some (.string Gs.nil0) := (blk_cell (HBn.out) 2).trans H2.out
 have cn4 : w.cell? ⟨n, 4, none⟩ = some (.slice (some ⟨T, 0, none⟩) 7 7) := (blk_cell (HBn.out) 4).trans H4.out
 have cq98 : w.cell? ⟨q, 98, none⟩ = some (.int .u8 4) := (blk_cell (HBq.out) 98).trans HM.out
 have cT4 : w.cell? ⟨T, 4, none⟩ = some (.pointer none) := (blk_cell (HBT.out) 4).trans rfl
 have zcT4 := blk_frozen (HBT.out) 4
 go_enter Tryz.func203, Tryz.ntmps203
 go_upto_region 28 with fail
 go_region
 clear cn2 cn4 cq98 cT4 zcT4
 replace HBn := Aside0.mk (blk_drew HBn.out)
 replace HBq := Aside0.mk (blk_drew HBq.out)
 replace HBT := Aside0.mk (blk_drew HBT.out)
 replace HF := Aside0.mk (show Gs.FK w (w.drew) (fun k => k = T) from HF.out)
 generalize w.drew = w1 at HBn HBq HBT HF ⊢
 have cn2 : w1.cell? ⟨n, 2, none⟩ = some (.string Gs.nil0) := (blk_cell (HBn.out) 2).trans H2.out
 have cn4 : w1.cell? ⟨n, 4, none⟩ = some (.slice (some ⟨T, 0, none⟩) 7 7) := (blk_cell (HBn.out) 4).trans H4.out
 have cq98 : w1.cell? ⟨q, 98, none⟩ = some (.int .u8 4) := (blk_cell (HBq.out) 98).trans HM.out
 have cT4 : w1.cell? ⟨T, 4, none⟩ = some (.pointer none) := (blk_cell (HBT.out) 4).trans rfl
 have zcT4 := blk_frozen (HBT.out) 4
 go_upto_region 30 with fail
 go_upto_region 31 with ((with_reducible refine gate_dst (N := 210) rfl ?_); refine box_event ?hg (N := 210) ?hd (cs := #[.string Gs.nil0, .int .i64 0, .string Gs.nil0, .pointer none, .slice none 0 0]) (t := 221) ?hr ?_; (case hd => rfl); (case hg => rfl); (case hr => first | (go_simp; done) | (go_simp; rfl)); intro K hg wb hbox hb; clear cn2 cn4 cq98 cT4 zcT4; have HGK := Aside0.mk (show w.heap.size ≤ K by rw [hg]; exact HF.out.2.2.2.1); have HNnK := Aside0.mk (show n ≠ K by rw [hg]; exact Nat.ne_of_lt (blk_lt HBn.out)); have HNqK := Aside0.mk (show q ≠ K by rw [hg]; exact Nat.ne_of_lt (blk_lt HBq.out)); have HNTK := Aside0.mk (show T ≠ K by rw [hg]; exact Nat.ne_of_lt (blk_lt HBT.out)); have HBK := Aside0.mk hbox; have mn := Aside0.mk (blk_below HBn.out hb); have mq := Aside0.mk (blk_below HBq.out hb); have mT := Aside0.mk (blk_below HBT.out hb); have mF := Aside0.mk (Gs.FK_below HF.out hb); clear HF HBn HBq HBT hb hbox hg; have HBn := mn; have HBq := mq; have HBT := mT; have HF := mF; clear mF mn mq mT; have cT4 : wb.cell? ⟨T, 4, none⟩ = some (.pointer none) := (blk_cell HBT.out 4).trans rfl; have zcT4 := blk_frozen HBT.out 4)
 clear cT4 zcT4
 replace HBn := Aside0.mk (blk_far HBn.out (p := ⟨T, 4, none⟩) HNnT.out (Gs.ptr K))
 replace HBq := Aside0.mk (blk_far HBq.out (p := ⟨T, 4, none⟩) HNqT.out (Gs.ptr K))
 replace HBT := Aside0.mk (show (wb.setCell ⟨T, 4, none⟩ (Gs.ptr K)).heap[T]? = some (.cells #[a0, a1, a2, a3, Gs.ptr K, a5, a6] 218 (0, 0)) from blk_put HBT.out 4 (Gs.ptr K) rfl)
 replace HBK := Aside0.mk (blk_far HBK.out (p := ⟨T, 4, none⟩) (Ne.symm HNTK.out) (Gs.ptr K))
 replace HF := Aside0.mk (show Gs.FK w (wb.setCell ⟨T, 4, none⟩ (Gs.ptr K)) (fun k => k = T) from Gs.FK_set HF.out (i := 4) (Gs.ptr K) (.inl rfl))
 generalize wb.setCell ⟨T, 4, none⟩ (Gs.ptr K) = w2 at HBn HBq HBT HBK HF ⊢
 have cn2 : w2.cell? ⟨n, 2, none⟩ = some (.string Gs.nil0) := (blk_cell (HBn.out) 2).trans H2.out
 have cn4 : w2.cell? ⟨n, 4, none⟩ = some (.slice (some ⟨T, 0, none⟩) 7 7) := (blk_cell (HBn.out) 4).trans H4.out
 have cq98 : w2.cell? ⟨q, 98, none⟩ = some (.int .u8 4) := (blk_cell (HBq.out) 98).trans HM.out
 have cT4 : w2.cell? ⟨T, 4, none⟩ = some (Gs.ptr K) := (blk_cell (HBT.out) 4).trans rfl
 have zcT4 := blk_frozen (HBT.out) 4
 go_region_with (go_at_call 203; refine (HK.out K _ ?_ ?_ ?_ ?_).mono ?_; exact HGK.out; exact (show w2.drew.heap[K]? = some _ from HBK.out); exact (show w2.drew.heap[T]? = some _ from HBT.out); exact (show Gs.FK w w2.drew _ from HF.out); rintro e w5 ⟨rfl, hpost⟩)
 go_end0
 exact ⟨rfl, hpost⟩
set_option maxRecDepth 100000 in
set_option maxHeartbeats 8000000 in
theorem Gs.addT28 (n q T X tn : Nat) (v : ByteArray) (p : Int) (cn cq : Array Value) (a0 a1 a2 a3 a5 a6 : Value) (w : World) (hb : w.heap[n]? = some (.cells cn tn (0, 0))) (hq : w.heap[q]? = some (.cells cq 223 (0, 0))) (ht : w.heap[T]? = some (.cells #[a0, a1, a2, a3, Gs.ptr X, a5, a6] 218 (0, 0))) (h2 : cn[2]? = some (.string Gs.nil0)) (h4 : cn[4]? = some (.slice (some ⟨T, 0, none⟩) 7 7)) (hm : cq[6 + 92]? = some (.int .u8 4)) (hnT : n ≠ T) (hqT : q ≠ T) (POST : World → Prop)
  (hk : ∀ w2, Gs.FK w w2 (fun _ => False) → Calls Tryz.prog 203 #[Gs.ptr X, .string (⟨#[50, 56]⟩ : ByteArray), .string v, .int .i64 p, Gs.ptr q] w2 fun e w' => e = .returned (.tuple #[]) ∧ POST w') :
  Calls Tryz.prog 203 #[Gs.ptr n, .string (⟨#[92, 50, 56]⟩ : ByteArray), .string v, .int .i64 p, Gs.ptr q] w fun e w' => e = .returned (.tuple #[]) ∧ POST w' := by
 have hu := Tryz.underlying221
 have qT : ∀ (w : World) (a : Option Addr) (n c n' c' : Nat), (binOp .neq 219 (.slice a n c) (.slice none n' c')).run Tryz.prog w = .ok (.bool (!a.isNone)) w := fun w a n c n' c' => run_neq_slice_nil_any w _ _ a n c n' c' Tryz.underlying219
 have hbk : ∀ h : 0 < (⟨#[92, 50, 56]⟩ : ByteArray).size, (((⟨#[92, 50, 56]⟩ : ByteArray)[0]'h).toNat : Int) = 92 := fun _ => rfl
 have hxs : (⟨#[92, 50, 56]⟩ : ByteArray).extract 1 3 = (⟨#[50, 56]⟩ : ByteArray) := by decide
 have HBn := Aside0.mk hb
 have HBq := Aside0.mk hq
 have HBT := Aside0.mk ht
 have HK := Aside0.mk hk
 have H2 := Aside0.mk h2
 have H4 := Aside0.mk h4
 have HM := Aside0.mk hm
 have HNnT := Aside0.mk hnT
 have HNqT := Aside0.mk hqT
 have HF := Aside0.mk (Gs.FK_refl w (fun _ => False))
 clear hb hq ht hk h2 h4 hm hnT hqT
 have cn2 : w.cell? ⟨n, 2, none⟩ = some (.string Gs.nil0) := (blk_cell (HBn.out) 2).trans H2.out
 have cn4 : w.cell? ⟨n, 4, none⟩ = some (.slice (some ⟨T, 0, none⟩) 7 7) := (blk_cell (HBn.out) 4).trans H4.out
 have cq98 : w.cell? ⟨q, 98, none⟩ = some (.int .u8 4) := (blk_cell (HBq.out) 98).trans HM.out
 have cT4 : w.cell? ⟨T, 4, none⟩ = some (Gs.ptr X) := (blk_cell (HBT.out) 4).trans rfl
 have zcT4 := blk_frozen (HBT.out) 4
 go_enter Tryz.func203, Tryz.ntmps203
 go_upto_region 28 with fail
 go_region
 clear cn2 cn4 cq98 cT4 zcT4
 replace HBn := Aside0.mk (blk_drew HBn.out)
 replace HBq := Aside0.mk (blk_drew HBq.out)
 replace HBT := Aside0.mk (blk_drew HBT.out)
 replace HF := Aside0.mk (show Gs.FK w (w.drew) (fun _ => False) from HF.out)
 generalize w.drew = w1 at HBn HBq HBT HF ⊢
 have cn2 : w1.cell? ⟨n, 2, none⟩ = some (.string Gs.nil0) := (blk_cell (HBn.out) 2).trans H2.out
 have cn4 : w1.cell? ⟨n, 4, none⟩ = some (.slice (some ⟨T, 0, none⟩) 7 7) := (blk_cell (HBn.out) 4).trans H4.out
 have cq98 : w1.cell? ⟨q, 98, none⟩ = some (.int .u8 4) := (blk_cell (HBq.out) 98).trans HM.out
 have cT4 : w1.cell? ⟨T, 4, none⟩ = some (Gs.ptr X) := (blk_cell (HBT.out) 4).trans rfl
 have zcT4 := blk_frozen (HBT.out) 4
 go_upto_region 31 with fail
 go_region_with (go_at_call 203; refine (HK.out _ ?_).mono ?_; exact (show Gs.FK w w1.drew (fun _ => False) from HF.out); rintro e w5 ⟨rfl, hpost⟩)
 go_end0
 exact ⟨rfl, hpost⟩
set_option maxRecDepth 100000 in
set_option maxHeartbeats 8000000 in
theorem Gs.addT29 (n q T X tn : Nat) (v : ByteArray) (p : Int) (cn cq : Array Value) (a0 a1 a2 a3 a5 a6 : Value) (w : World) (hb : w.heap[n]? = some (.cells cn tn (0, 0))) (hq : w.heap[q]? = some (.cells cq 223 (0, 0))) (ht : w.heap[T]? = some (.cells #[a0, a1, a2, a3, Gs.ptr X, a5, a6] 218 (0, 0))) (h2 : cn[2]? = some (.string Gs.nil0)) (h4 : cn[4]? = some (.slice (some ⟨T, 0, none⟩) 7 7)) (hm : cq[6 + 92]? = some (.int .u8 4)) (hnT : n ≠ T) (hqT : q ≠ T) (POST : World → Prop)
  (hk : ∀ w2, Gs.FK w w2 (fun _ => False) → Calls Tryz.prog 203 #[Gs.ptr X, .string (⟨#[50, 57]⟩ : ByteArray), .string v, .int .i64 p, Gs.ptr q] w2 fun e w' => e = .returned (.tuple #[]) ∧ POST w') :
  Calls Tryz.prog 203 #[Gs.ptr n, .string (⟨#[92, 50, 57]⟩ : ByteArray), .string v, .int .i64 p, Gs.ptr q] w fun e w' => e = .returned (.tuple #[]) ∧ POST w' := by
 have hu := Tryz.underlying221
 have qT : ∀ (w : World) (a : Option Addr) (n c n' c' : Nat), (binOp .neq 219 (.slice a n c) (.slice none n' c')).run Tryz.prog w = .ok (.bool (!a.isNone)) w := fun w a n c n' c' => run_neq_slice_nil_any w _ _ a n c n' c' Tryz.underlying219
 have hbk : ∀ h : 0 < (⟨#[92, 50, 57]⟩ : ByteArray).size, (((⟨#[92, 50, 57]⟩ : ByteArray)[0]'h).toNat : Int) = 92 := fun _ => rfl
 have hxs : (⟨#[92, 50, 57]⟩ : ByteArray).extract 1 3 = (⟨#[50, 57]⟩ : ByteArray) := by decide
 have HBn := Aside0.mk hb
 have HBq := Aside0.mk hq
 have HBT := Aside0.mk ht
 have HK := Aside0.mk hk
 have H2 := Aside0.mk h2
 have H4 := Aside0.mk h4
 have HM := Aside0.mk hm
 have HNnT := Aside0.mk hnT
 have HNqT := Aside0.mk hqT
 have HF := Aside0.mk (Gs.FK_refl w (fun _ => False))
 clear hb hq ht hk h2 h4 hm hnT hqT
 have cn2 : w.cell? ⟨n, 2, none⟩ = some (.string Gs.nil0) := (blk_cell (HBn.out) 2).trans H2.out
 have cn4 : w.cell? ⟨n, 4, none⟩ = some (.slice (some ⟨T, 0, none⟩) 7 7) := (blk_cell (HBn.out) 4).trans H4.out
 have cq98 : w.cell? ⟨q, 98, none⟩ = some (.int .u8 4) := (blk_cell (HBq.out) 98).trans HM.out
 have cT4 : w.cell? ⟨T, 4, none⟩ = some (Gs.ptr X) := (blk_cell (HBT.out) 4).trans rfl
 have zcT4 := blk_frozen (HBT.out) 4
 go_enter Tryz.func203, Tryz.ntmps203
 go_upto_region 28 with fail
 go_region
 clear cn2 cn4 cq98 cT4 zcT4
 replace HBn := Aside0.mk (blk_drew HBn.out)
 replace HBq := Aside0.mk (blk_drew HBq.out)
 replace HBT := Aside0.mk (blk_drew HBT.out)
 replace HF := Aside0.mk (show Gs.FK w (w.drew) (fun _ => False) from HF.out)
 generalize w.drew = w1 at HBn HBq HBT HF ⊢
 have cn2 : w1.cell? ⟨n, 2, none⟩ = some (.string Gs.nil0) := (blk_cell (HBn.out) 2).trans H2.out
 have cn4 : w1.cell? ⟨n, 4, none⟩ = some (.slice (some ⟨T, 0, none⟩) 7 7) := (blk_cell (HBn.out) 4).trans H4.out
 have cq98 : w1.cell? ⟨q, 98, none⟩ = some (.int .u8 4) := (blk_cell (HBq.out) 98).trans HM.out
 have cT4 : w1.cell? ⟨T, 4, none⟩ = some (Gs.ptr X) := (blk_cell (HBT.out) 4).trans rfl
 have zcT4 := blk_frozen (HBT.out) 4
 go_upto_region 31 with fail
 go_region_with (go_at_call 203; refine (HK.out _ ?_).mono ?_; exact (show Gs.FK w w1.drew (fun _ => False) from HF.out); rintro e w5 ⟨rfl, hpost⟩)
 go_end0
 exact ⟨rfl, hpost⟩
set_option maxRecDepth 100000 in
set_option maxHeartbeats 8000000 in
theorem Gs.addT5c (n q T X tn : Nat) (v : ByteArray) (p : Int) (cn cq : Array Value) (a0 a1 a2 a3 a5 a6 : Value) (w : World) (hb : w.heap[n]? = some (.cells cn tn (0, 0))) (hq : w.heap[q]? = some (.cells cq 223 (0, 0))) (ht : w.heap[T]? = some (.cells #[a0, a1, a2, a3, Gs.ptr X, a5, a6] 218 (0, 0))) (h2 : cn[2]? = some (.string Gs.nil0)) (h4 : cn[4]? = some (.slice (some ⟨T, 0, none⟩) 7 7)) (hm : cq[6 + 92]? = some (.int .u8 4)) (hnT : n ≠ T) (hqT : q ≠ T) (POST : World → Prop)
  (hk : ∀ w2, Gs.FK w w2 (fun _ => False) → Calls Tryz.prog 203 #[Gs.ptr X, .string (⟨#[53, 99]⟩ : ByteArray), .string v, .int .i64 p, Gs.ptr q] w2 fun e w' => e = .returned (.tuple #[]) ∧ POST w') :
  Calls Tryz.prog 203 #[Gs.ptr n, .string (⟨#[92, 53, 99]⟩ : ByteArray), .string v, .int .i64 p, Gs.ptr q] w fun e w' => e = .returned (.tuple #[]) ∧ POST w' := by
 have hu := Tryz.underlying221
 have qT : ∀ (w : World) (a : Option Addr) (n c n' c' : Nat), (binOp .neq 219 (.slice a n c) (.slice none n' c')).run Tryz.prog w = .ok (.bool (!a.isNone)) w := fun w a n c n' c' => run_neq_slice_nil_any w _ _ a n c n' c' Tryz.underlying219
 have hbk : ∀ h : 0 < (⟨#[92, 53, 99]⟩ : ByteArray).size, (((⟨#[92, 53, 99]⟩ : ByteArray)[0]'h).toNat : Int) = 92 := fun _ => rfl
 have hxs : (⟨#[92, 53, 99]⟩ : ByteArray).extract 1 3 = (⟨#[53, 99]⟩ : ByteArray) := by decide
 have HBn := Aside0.mk hb
 have HBq := Aside0.mk hq
 have HBT := Aside0.mk ht
 have HK := Aside0.mk hk
 have H2 := Aside0.mk h2
 have H4 := Aside0.mk h4
 have HM := Aside0.mk hm
 have HNnT := Aside0.mk hnT
 have HNqT := Aside0.mk hqT
 have HF := Aside0.mk (Gs.FK_refl w (fun _ => False))
 clear hb hq ht hk h2 h4 hm hnT hqT
 have cn2 : w.cell? ⟨n, 2, none⟩ = some (.string Gs.nil0) := (blk_cell (HBn.out) 2).trans H2.out
 have cn4 : w.cell? ⟨n, 4, none⟩ = some (.slice (some ⟨T, 0, none⟩) 7 7) := (blk_cell (HBn.out) 4).trans H4.out
 have cq98 : w.cell? ⟨q, 98, none⟩ = some (.int .u8 4) := (blk_cell (HBq.out) 98).trans HM.out
 have cT4 : w.cell? ⟨T, 4, none⟩ = some (Gs.ptr X) := (blk_cell (HBT.out) 4).trans rfl
 have zcT4 := blk_frozen (HBT.out) 4
 go_enter Tryz.func203, Tryz.ntmps203
 go_upto_region 28 with fail
 go_region
 clear cn2 cn4 cq98 cT4 zcT4
 replace HBn := Aside0.mk (blk_drew HBn.out)
 replace HBq := Aside0.mk (blk_drew HBq.out)
 replace HBT := Aside0.mk (blk_drew HBT.out)
 replace HF := Aside0.mk (show Gs.FK w (w.drew) (fun _ => False) from HF.out)
 generalize w.drew = w1 at HBn HBq HBT HF ⊢
 have cn2 : w1.cell? ⟨n, 2, none⟩ = some (.string Gs.nil0) := (blk_cell (HBn.out) 2).trans H2.out
 have cn4 : w1.cell? ⟨n, 4, none⟩ = some (.slice (some ⟨T, 0, none⟩) 7 7) := (blk_cell (HBn.out) 4).trans H4.out
 have cq98 : w1.cell? ⟨q, 98, none⟩ = some (.int .u8 4) := (blk_cell (HBq.out) 98).trans HM.out
 have cT4 : w1.cell? ⟨T, 4, none⟩ = some (Gs.ptr X) := (blk_cell (HBT.out) 4).trans rfl
 have zcT4 := blk_frozen (HBT.out) 4
 go_upto_region 31 with fail
 go_region_with (go_at_call 203; refine (HK.out _ ?_).mono ?_; exact (show Gs.FK w w1.drew (fun _ => False) from HF.out); rintro e w5 ⟨rfl, hpost⟩)
 go_end0
 exact ⟨rfl, hpost⟩
set_option maxRecDepth 100000 in
set_option maxHeartbeats 8000000 in
theorem Gs.addT9 (n q T tn : Nat) (v : ByteArray) (p : Int) (cn cq : Array Value) (a0 a1 a2 a4 a5 a6 : Value) (w : World) (hb : w.heap[n]? = some (.cells cn tn (0, 0))) (hq : w.heap[q]? = some (.cells cq 223 (0, 0))) (ht : w.heap[T]? = some (.cells #[a0, a1, a2, .pointer none, a4, a5, a6] 218 (0, 0))) (h2 : cn[2]? = some (.string Gs.nil0)) (h4 : cn[4]? = some (.slice (some ⟨T, 0, none⟩) 7 7)) (hm : cq[6 + 57]? = some (.int .u8 3)) (hnT : n ≠ T) (hqT : q ≠ T) (POST : World → Prop)
  (hk : ∀ K w2, w.heap.size ≤ K → w2.heap[K]? = some (.cells #[.string Gs.nil0, .int .i64 0, .string Gs.nil0, .pointer none, .slice none 0 0] 221 (0, 0)) → w2.heap[T]? = some (.cells #[a0, a1, a2, Gs.ptr K, a4, a5, a6] 218 (0, 0)) → Gs.FK w w2 (fun k => k = T) → Calls Tryz.prog 203 #[Gs.ptr K, .string (⟨#[]⟩ : ByteArray), .string v, .int .i64 p, Gs.ptr q] w2 fun e w' => e = .returned (.tuple #[]) ∧ POST w') :
  Calls Tryz.prog 203 #[Gs.ptr n, .string (⟨#[57]⟩ : ByteArray), .string v, .int .i64 p, Gs.ptr q] w fun e w' => e = .returned (.tuple #[]) ∧ POST w' := by
 have hu := Tryz.underlying221
 have qT : ∀ (w : World) (a : Option Addr) (n c n' c' : Nat), (binOp .neq 219 (.slice a n c) (.slice none n' c')).run Tryz.prog w = .ok (.bool (!a.isNone)) w := fun w a n c n' c' => run_neq_slice_nil_any w _ _ a n c n' c' Tryz.underlying219
 have hbk : ∀ h : 0 < (⟨#[57]⟩ : ByteArray).size, (((⟨#[57]⟩ : ByteArray)[0]'h).toNat : Int) = 57 := fun _ => rfl
 have hxs : (⟨#[57]⟩ : ByteArray).extract 1 1 = (⟨#[]⟩ : ByteArray) := by decide
 have HBn := Aside0.mk hb
 have HBq := Aside0.mk hq
 have HBT := Aside0.mk ht
 have HK := Aside0.mk hk
 have H2 := Aside0.mk h2
 have H4 := Aside0.mk h4
 have HM := Aside0.mk hm
 have HNnT := Aside0.mk hnT
 have HNqT := Aside0.mk hqT
 have HF := Aside0.mk (Gs.FK_refl w (fun k => k = T))
 clear hb hq ht hk h2 h4 hm hnT hqT
 have cn2 : w.cell? ⟨n, 2, none⟩ = some (.string Gs.nil0) := (blk_cell (HBn.out) 2).trans H2.out
 have cn4 : w.cell? ⟨n, 4, none⟩ = some (.slice (some ⟨T, 0, none⟩) 7 7) := (blk_cell (HBn.out) 4).trans H4.out
 have cq63 : w.cell? ⟨q, 63, none⟩ = some (.int .u8 3) := (blk_cell (HBq.out) 63).trans HM.out
 have cT3 : w.cell? ⟨T, 3, none⟩ = some (.pointer none) := (blk_cell (HBT.out) 3).trans rfl
 have zcT3 := blk_frozen (HBT.out) 3
 go_enter Tryz.func203, Tryz.ntmps203
 go_upto_region 28 with fail
 go_region
 clear cn2 cn4 cq63 cT3 zcT3
 replace HBn := Aside0.mk (blk_drew HBn.out)
 replace HBq := Aside0.mk (blk_drew HBq.out)
 replace HBT := Aside0.mk (blk_drew HBT.out)
 replace HF := Aside0.mk (show Gs.FK w (w.drew) (fun k => k = T) from HF.out)
 generalize w.drew = w1 at HBn HBq HBT HF ⊢
 have cn2 : w1.cell? ⟨n, 2, none⟩ = some (.string Gs.nil0) := (blk_cell (HBn.out) 2).trans H2.out
 have cn4 : w1.cell? ⟨n, 4, none⟩ = some (.slice (some ⟨T, 0, none⟩) 7 7) := (blk_cell (HBn.out) 4).trans H4.out
 have cq63 : w1.cell? ⟨q, 63, none⟩ = some (.int .u8 3) := (blk_cell (HBq.out) 63).trans HM.out
 have cT3 : w1.cell? ⟨T, 3, none⟩ = some (.pointer none) := (blk_cell (HBT.out) 3).trans rfl
 have zcT3 := blk_frozen (HBT.out) 3
 go_upto_region 30 with fail
 go_upto_region 31 with ((with_reducible refine gate_dst (N := 210) rfl ?_); refine box_event ?hg (N := 210) ?hd (cs := #[.string Gs.nil0, .int .i64 0, .string Gs.nil0, .pointer none, .slice none 0 0]) (t := 221) ?hr ?_; (case hd => rfl); (case hg => rfl); (case hr => first | (go_simp; done) | (go_simp; rfl)); intro K hg wb hbox hb; clear cn2 cn4 cq63 cT3 zcT3; have HGK := Aside0.mk (show w.heap.size ≤ K by rw [hg]; exact HF.out.2.2.2.1); have HNnK := Aside0.mk (show n ≠ K by rw [hg]; exact Nat.ne_of_lt (blk_lt HBn.out)); have HNqK := Aside0.mk (show q ≠ K by rw [hg]; exact Nat.ne_of_lt (blk_lt HBq.out)); have HNTK := Aside0.mk (show T ≠ K by rw [hg]; exact Nat.ne_of_lt (blk_lt HBT.out)); have HBK := Aside0.mk hbox; have mn := Aside0.mk (blk_below HBn.out hb); have mq := Aside0.mk (blk_below HBq.out hb); have mT := Aside0.mk (blk_below HBT.out hb); have mF := Aside0.mk (Gs.FK_below HF.out hb); clear HF HBn HBq HBT hb hbox hg; have HBn := mn; have HBq := mq; have HBT := mT; have HF := mF; clear mF mn mq mT; have cT3 : wb.cell? ⟨T, 3, none⟩ = some (.pointer none) := (blk_cell HBT.out 3).trans rfl; have zcT3 := blk_frozen HBT.out 3)
 clear cT3 zcT3
 replace HBn := Aside0.mk (blk_far HBn.out (p := ⟨T, 3, none⟩) HNnT.out (Gs.ptr K))
 replace HBq := Aside0.mk (blk_far HBq.out (p := ⟨T, 3, none⟩) HNqT.out (Gs.ptr K))
 replace HBT := Aside0.mk (show (wb.setCell ⟨T, 3, none⟩ (Gs.ptr K)).heap[T]? = some (.cells #[a0, a1, a2, Gs.ptr K, a4, a5, a6] 218 (0, 0)) from blk_put HBT.out 3 (Gs.ptr K) rfl)
 replace HBK := Aside0.mk (blk_far HBK.out (p := ⟨T, 3, none⟩) (Ne.symm HNTK.out) (Gs.ptr K))
 replace HF := Aside0.mk (show Gs.FK w (wb.setCell ⟨T, 3, none⟩ (Gs.ptr K)) (fun k => k = T) from Gs.FK_set HF.out (i := 3) (Gs.ptr K) (.inl rfl))
 generalize wb.setCell ⟨T, 3, none⟩ (Gs.ptr K) = w2 at HBn HBq HBT HBK HF ⊢
 have cn2 : w2.cell? ⟨n, 2, none⟩ = some (.string Gs.nil0) := (blk_cell (HBn.out) 2).trans H2.out
 have cn4 : w2.cell? ⟨n, 4, none⟩ = some (.slice (some ⟨T, 0, none⟩) 7 7) := (blk_cell (HBn.out) 4).trans H4.out
 have cq63 : w2.cell? ⟨q, 63, none⟩ = some (.int .u8 3) := (blk_cell (HBq.out) 63).trans HM.out
 have cT3 : w2.cell? ⟨T, 3, none⟩ = some (Gs.ptr K) := (blk_cell (HBT.out) 3).trans rfl
 have zcT3 := blk_frozen (HBT.out) 3
 go_region_with (go_at_call 203; refine (HK.out K _ ?_ ?_ ?_ ?_).mono ?_; exact HGK.out; exact (show w2.drew.heap[K]? = some _ from HBK.out); exact (show w2.drew.heap[T]? = some _ from HBT.out); exact (show Gs.FK w w2.drew _ from HF.out); rintro e w5 ⟨rfl, hpost⟩)
 go_end0
 exact ⟨rfl, hpost⟩
def Gs.gq (tb : Value) (ts : Int) (mp : Nat → Nat) : Array Value := #[.string Gs.nil0, .int .i64 0, .string Gs.nil0, .pointer none, tb, .int .i64 ts] ++ (Array.ofFn (n := 256) fun i => .int .u8 (mp i.1 : Int))
theorem Gs.gq_size (tb : Value) (ts : Int) (mp : Nat → Nat) : (Gs.gq tb ts mp).size = 262 := by simp [Gs.gq]
theorem Gs.gq_low (tb : Value) (ts : Int) (mp : Nat → Nat) (i : Nat) (h : i < 6) : (Gs.gq tb ts mp)[i]? = (#[.string Gs.nil0, .int .i64 0, .string Gs.nil0, .pointer none, tb, .int .i64 ts] : Array Value)[i]? := by
 unfold Gs.gq
 rw [Array.getElem?_append_left (by simpa using h)]
theorem Gs.gq_map (tb : Value) (ts : Int) (mp : Nat → Nat) (b : Nat) (h : b < 256) : (Gs.gq tb ts mp)[6 + b]? = some (.int .u8 (mp b : Int)) := by
 unfold Gs.gq
 rw [Array.getElem?_append_right (by simp)]
 simp [h]
theorem Gs.gq_put (tb : Value) (ts : Int) (mp : Nat → Nat) (b v : Nat) (h : b < 256) : (Gs.gq tb ts mp).setIfInBounds (6 + b) (.int .u8 (v : Int)) = Gs.gq tb ts (fun c => if c = b then v else mp c) := by
 apply Array.ext (by simp [Gs.gq])
 intro i h1 h2
 have hs : i < 262 := by simpa [Gs.gq] using h2
 apply Option.some.inj
 rw [← Array.getElem?_eq_getElem h1, ← Array.getElem?_eq_getElem h2, Array.getElem?_setIfInBounds]
 by_cases h6 : i < 6
 ·rw [if_neg (by omega), Gs.gq_low _ _ _ _ h6, Gs.gq_low _ _ _ _ h6]
 obtain ⟨c, rfl⟩ : ∃ c, i = 6 + c := ⟨i - 6, by omega⟩
 rw [Gs.gq_map _ _ _ c (by omega), Gs.gq_map _ _ _ c (by omega), Gs.gq_size]
 by_cases e : c = b
 ·subst e; simp [hs]
 ·rw [if_neg (by omega), if_neg e]
theorem Gs.gq_size5 (tb : Value) (ts v : Int) (mp : Nat → Nat) : (Gs.gq tb ts mp).setIfInBounds 5 (.int .i64 v) = Gs.gq tb v mp := by
 unfold Gs.gq
 rw [Array.setIfInBounds_append_left (by simp)]
 rfl
theorem Gs.gq_tb4 (tb t : Value) (ts : Int) (mp : Nat → Nat) : (Gs.gq tb ts mp).setIfInBounds 4 t = Gs.gq t ts mp := by
 unfold Gs.gq
 rw [Array.setIfInBounds_append_left (by simp)]
 rfl
theorem Gs.gq_zero : Tryz.zeroCells223 = Gs.gq (.slice none 0 0) 0 (fun _ => 0) := by kernel_rfl
theorem Gs.gq_row (tb : Value) (ts : Int) (mp : Nat → Nat) : ((Gs.gq tb ts mp).extract 6 262).toList = (List.range 256).map fun b => (.int .u8 (mp b : Int) : Value) := by
 apply List.ext_getElem? 
 intro i
 rw [Array.getElem?_toList, Array.getElem?_extract, Gs.gq_size]
 by_cases h : i < 256
 ·rw [if_pos (by omega), Gs.gq_map _ _ _ i h]
  simp [h]
 rw [if_neg (by omega)]
 simp [h]
theorem Gs.ne_of {w : World} {a b : Nat} {x y : Obj} (ha : w.heap[a]? = some x) (hb : w.heap[b]? = some y) (h : x ≠ y) : a ≠ b := fun e => h (by subst e; exact Option.some.inj (ha.symm.trans hb))
def Gs.mpF (c : Nat) : Nat := if c = 50 then 0 else if c = 53 then 1 else if c = 56 then 2 else if c = 57 then 3 else if c = 92 then 4 else if c = 97 then 5 else if c = 99 then 6 else 7
abbrev Gs.root (T : Nat) : Obj := .cells (Gs.gq (.slice (some ⟨T, 0, none⟩) 7 7) 7 Gs.mpF) 223 (0, 0)
abbrev Gs.tab (a0 a1 a2 a3 a4 a5 a6 : Value) : Obj := .cells #[a0, a1, a2, a3, a4, a5, a6] 218 (0, 0)
abbrev Gs.np : Value := .pointer none
abbrev Gs.ns : Value := .slice none 0 0
theorem Gs.root2 (T : Nat) : (Gs.gq (.slice (some ⟨T, 0, none⟩) 7 7) 7 Gs.mpF)[2]? = some (.string Gs.nil0) := Gs.gq_low _ _ _ 2 (by omega)
theorem Gs.root4 (T : Nat) : (Gs.gq (.slice (some ⟨T, 0, none⟩) 7 7) 7 Gs.mpF)[4]? = some (.slice (some ⟨T, 0, none⟩) 7 7) := Gs.gq_low _ _ _ 4 (by omega)
theorem Gs.root5 (T : Nat) : (Gs.gq (.slice (some ⟨T, 0, none⟩) 7 7) 7 Gs.mpF)[5]? = some (.int .i64 7) := Gs.gq_low _ _ _ 5 (by omega)
theorem Gs.addA (q T : Nat) (w : World) (hq : w.heap[q]? = some (Gs.root T)) (ht : w.heap[T]? = some (Gs.tab Gs.np Gs.np Gs.np Gs.np Gs.np Gs.np Gs.np)) :
  Calls Tryz.prog 203 #[Gs.ptr q, .string ⟨#[92, 50, 97]⟩, .string ⟨#[42]⟩, .int .i64 8, Gs.ptr q] w fun e w' => e = .returned (.tuple #[]) ∧ ∃ n1 n2, w.heap.size ≤ n1 ∧ w.heap.size ≤ n2 ∧ w'.heap[T]? = some (Gs.tab Gs.np Gs.np Gs.np Gs.np (Gs.ptr n1) Gs.np Gs.np) ∧ w'.heap[n1]? = some (Gs.nd Gs.nil0 0 ⟨#[50, 97]⟩ (Gs.ptr n2) Gs.ns) ∧ w'.heap[n2]? = some (Gs.nd ⟨#[42]⟩ 8 Gs.nil0 Gs.np Gs.ns) ∧ Gs.FK w w' (fun k => k = T) := by
 have hqT := Gs.ne_of hq ht (by simp)
 refine Gs.addT2a q q T 223 _ 8 _ _ _ _ _ _ _ _ w hq hq ht (Gs.root2 T) (Gs.root4 T) (Gs.gq_map _ _ _ 92 (by omega)) hqT hqT _ fun n1 w2 hs hk1 hT hf => (Gs.addF2a n1 ⟨#[42]⟩ (Gs.ptr q) 8 w2 hk1).mono ?_
 rintro e w' ⟨rfl, ⟨n2, h2, hb1, hb2⟩, hf2⟩
 exact ⟨rfl, n1, n2, hs, Nat.le_trans hf.2.2.2.1 h2, Gs.FK_obj hf2 hT (Gs.ne_of hT hk1 (by simp)), hb1, hb2, Gs.FK_then hf hf2 (fun i e => by subst e; exact .inr hs)⟩
theorem Gs.addB (q T n1 n2 : Nat) (w : World) (hq : w.heap[q]? = some (Gs.root T)) (ht : w.heap[T]? = some (Gs.tab Gs.np Gs.np Gs.np Gs.np (Gs.ptr n1) Gs.np Gs.np)) (h1 : w.heap[n1]? = some (Gs.nd Gs.nil0 0 ⟨#[50, 97]⟩ (Gs.ptr n2) Gs.ns)) :
  Calls Tryz.prog 203 #[Gs.ptr q, .string ⟨#[92, 50, 56]⟩, .string ⟨#[40]⟩, .int .i64 6, Gs.ptr q] w fun e w' => e = .returned (.tuple #[]) ∧ ∃ n3 T3 n4, w.heap.size ≤ n3 ∧ w.heap.size ≤ T3 ∧ w.heap.size ≤ n4 ∧ w'.heap[n1]? = some (Gs.nd Gs.nil0 0 ⟨#[50]⟩ (Gs.ptr n3) Gs.ns) ∧ w'.heap[n3]? = some (Gs.nd Gs.nil0 0 Gs.nil0 Gs.np (.slice (some ⟨T3, 0, none⟩) 7 7)) ∧ w'.heap[T3]? = some (Gs.tab Gs.np Gs.np (Gs.ptr n4) Gs.np Gs.np (Gs.ptr n2) Gs.np) ∧ w'.heap[n4]? = some (Gs.nd ⟨#[40]⟩ 6 Gs.nil0 Gs.np Gs.ns) ∧ Gs.FK w w' (fun k => k = n1) := by
 have hqT := Gs.ne_of hq ht (by simp)
 have hq1 := Gs.ne_of hq h1 (by simp)
 refine Gs.addT28 q q T n1 223 _ 6 _ _ _ _ _ _ _ _ w hq hq ht (Gs.root2 T) (Gs.root4 T) (Gs.gq_map _ _ _ 92 (by omega)) hqT hqT _ fun w2 hf => Gs.addS n1 q n2 _ ⟨#[40]⟩ 0 6 w2 (Gs.FK_obj hf h1 id) _ fun n3 w3 hs3 hb1 hb3 hf3 => ?_
 have hq3 : w3.heap[q]? = some (Gs.root T) := Gs.FK_obj hf3 (Gs.FK_obj hf hq id) hq1
 refine Gs.addD8 n3 q n2 _ ⟨#[40]⟩ 0 6 _ w3 hb3 hq3 (Gs.root5 T) (Gs.gq_map _ _ _ 97 (by omega)) (Gs.gq_map _ _ _ 56 (by omega)) (Gs.ne_of hb3 hq3 (by simp)) _ fun T3 n4 w4 hs4 hs5 hTn hb4 hbT hbK hf4 => (Gs.addE n4 Gs.nil0 Gs.nil0 ⟨#[40]⟩ Gs.np Gs.ns (Gs.ptr q) 6 w4 hbK).mono ?_
 rintro e w' ⟨rfl, hE, hf5⟩
 have L1 : w.heap.size ≤ w2.heap.size := hf.2.2.2.1
 have L3 : w2.heap.size ≤ w3.heap.size := hf3.2.2.2.1
 have d14 : n1 ≠ n3 := Gs.ne_of hb1 hb3 (by simp [Obj.cells.injEq])
 have e1 : w4.heap[n1]? = _ := Gs.FK_obj hf4 hb1 d14
 exact ⟨rfl, n3, T3, n4, by omega, by omega, by omega, Gs.FK_obj hf5 e1 (Gs.ne_of e1 hbK (by simp)), Gs.FK_obj hf5 hb4 (Gs.ne_of hb4 hbK (by simp)), Gs.FK_obj hf5 hbT hTn, hE, Gs.FK_then (Gs.FK_then (Gs.FK_then (Gs.FK_mono hf (fun _ e => e.elim)) hf3 (fun i e => .inl e)) hf4 (fun i e => by subst e; exact .inr (by omega))) hf5 (fun i e => by subst e; exact .inr (by omega))⟩
theorem Gs.addC (q T n1 n2 n3 T3 n4 : Nat) (w : World) (hq : w.heap[q]? = some (Gs.root T)) (ht : w.heap[T]? = some (Gs.tab Gs.np Gs.np Gs.np Gs.np (Gs.ptr n1) Gs.np Gs.np)) (h1 : w.heap[n1]? = some (Gs.nd Gs.nil0 0 ⟨#[50]⟩ (Gs.ptr n3) Gs.ns)) (h3 : w.heap[n3]? = some (Gs.nd Gs.nil0 0 Gs.nil0 Gs.np (.slice (some ⟨T3, 0, none⟩) 7 7))) (hT3 : w.heap[T3]? = some (Gs.tab Gs.np Gs.np (Gs.ptr n4) Gs.np Gs.np (Gs.ptr n2) Gs.np)) :
  Calls Tryz.prog 203 #[Gs.ptr q, .string ⟨#[92, 50, 57]⟩, .string ⟨#[41]⟩, .int .i64 4, Gs.ptr q] w fun e w' => e = .returned (.tuple #[]) ∧ ∃ n5, w.heap.size ≤ n5 ∧ w'.heap[T3]? = some (Gs.tab Gs.np Gs.np (Gs.ptr n4) (Gs.ptr n5) Gs.np (Gs.ptr n2) Gs.np) ∧ w'.heap[n5]? = some (Gs.nd ⟨#[41]⟩ 4 Gs.nil0 Gs.np Gs.ns) ∧ Gs.FK w w' (fun k => k = T3) := by
 have hqT := Gs.ne_of hq ht (by simp)
 refine Gs.addT29 q q T n1 223 _ 4 _ _ _ _ _ _ _ _ w hq hq ht (Gs.root2 T) (Gs.root4 T) (Gs.gq_map _ _ _ 92 (by omega)) hqT hqT _ fun w2 hf => Gs.addN n1 q n3 _ ⟨#[41]⟩ 0 4 w2 (Gs.FK_obj hf h1 id) _ fun w3 hf3 => ?_
 have hg3 := Gs.FK_then hf hf3 (fun i e => .inl e)
 have hq3 := Gs.FK_obj hg3 hq id
 have h33 := Gs.FK_obj hg3 h3 id
 have hT33 := Gs.FK_obj hg3 hT3 id
 refine Gs.addT9 n3 q T3 221 _ 4 _ _ _ _ _ _ _ _ w3 h33 hq3 hT33 rfl rfl (Gs.gq_map _ _ _ 57 (by omega)) (Gs.ne_of h33 hT33 (by simp)) (Gs.ne_of hq3 hT33 (by simp)) _ fun n5 w4 hs hbK hbT hf4 => (Gs.addE n5 Gs.nil0 Gs.nil0 ⟨#[41]⟩ Gs.np Gs.ns (Gs.ptr q) 4 w4 hbK).mono ?_
 rintro e w' ⟨rfl, hE, hf5⟩
 have L3 : w.heap.size ≤ w3.heap.size := hg3.2.2.2.1
 exact ⟨rfl, n5, by omega, Gs.FK_obj hf5 hbT (Gs.ne_of hbT hbK (by simp)), hE, Gs.FK_then (Gs.FK_then (Gs.FK_mono hg3 (fun _ e => e.elim)) hf4 (fun i e => .inl e)) hf5 (fun i e => by subst e; exact .inr (by omega))⟩
theorem Gs.addDD (q T n1 n3 : Nat) (w : World) (hq : w.heap[q]? = some (Gs.root T)) (ht : w.heap[T]? = some (Gs.tab Gs.np Gs.np Gs.np Gs.np (Gs.ptr n1) Gs.np Gs.np)) (h1 : w.heap[n1]? = some (Gs.nd Gs.nil0 0 ⟨#[50]⟩ (Gs.ptr n3) Gs.ns)) :
  Calls Tryz.prog 203 #[Gs.ptr q, .string ⟨#[92, 53, 99]⟩, .string ⟨#[92]⟩, .int .i64 2, Gs.ptr q] w fun e w' => e = .returned (.tuple #[]) ∧ ∃ T1 n6 n7, w.heap.size ≤ T1 ∧ w.heap.size ≤ n6 ∧ w.heap.size ≤ n7 ∧ w'.heap[n1]? = some (Gs.nd Gs.nil0 0 Gs.nil0 Gs.np (.slice (some ⟨T1, 0, none⟩) 7 7)) ∧ w'.heap[T1]? = some (Gs.tab (Gs.ptr n3) (Gs.ptr n6) Gs.np Gs.np Gs.np Gs.np Gs.np) ∧ w'.heap[n6]? = some (Gs.nd Gs.nil0 0 ⟨#[99]⟩ (Gs.ptr n7) Gs.ns) ∧ w'.heap[n7]? = some (Gs.nd ⟨#[92]⟩ 2 Gs.nil0 Gs.np Gs.ns) ∧ Gs.FK w w' (fun k => k = n1) := by
 have hqT := Gs.ne_of hq ht (by simp)
 refine Gs.addT5c q q T n1 223 _ 2 _ _ _ _ _ _ _ _ w hq hq ht (Gs.root2 T) (Gs.root4 T) (Gs.gq_map _ _ _ 92 (by omega)) hqT hqT _ fun w2 hf => ?_
 have hq3 := Gs.FK_obj hf hq id
 have h13 := Gs.FK_obj hf h1 id
 refine Gs.addD5c n1 q n3 _ ⟨#[92]⟩ 0 2 _ w2 h13 hq3 (Gs.root5 T) (Gs.gq_map _ _ _ 50 (by omega)) (Gs.gq_map _ _ _ 53 (by omega)) (Gs.ne_of h13 hq3 (by simp)) _ fun T1 n6 w4 hs4 hs5 hTn hb4 hbT hbK hf4 => (Gs.addFc n6 ⟨#[92]⟩ (Gs.ptr q) 2 w4 hbK).mono ?_
 rintro e w' ⟨rfl, ⟨n7, h7, hb6, hb7⟩, hf5⟩
 have L1 : w.heap.size ≤ w2.heap.size := hf.2.2.2.1
 have L4 : w2.heap.size ≤ w4.heap.size := hf4.2.2.2.1
 exact ⟨rfl, T1, n6, n7, by omega, by omega, by omega, Gs.FK_obj hf5 hb4 (Gs.ne_of hb4 hbK (by simp)), Gs.FK_obj hf5 hbT hTn, hb6, hb7, Gs.FK_then (Gs.FK_then (Gs.FK_mono hf (fun _ e => e.elim)) hf4 (fun i e => .inl e)) hf5 (fun i e => by subst e; exact .inr (by omega))⟩
abbrev Gs.lf (v : ByteArray) (p : Int) : Obj := Gs.nd v p Gs.nil0 Gs.np Gs.ns
def Gs.S1 (w : World) (b T n1 n2 : Nat) : Prop := b ≤ n1 ∧ b ≤ n2 ∧ w.heap[T]? = some (Gs.tab Gs.np Gs.np Gs.np Gs.np (Gs.ptr n1) Gs.np Gs.np) ∧ w.heap[n1]? = some (Gs.nd Gs.nil0 0 ⟨#[50, 97]⟩ (Gs.ptr n2) Gs.ns) ∧ w.heap[n2]? = some (Gs.lf ⟨#[42]⟩ 8)
def Gs.S2 (w : World) (b T n1 n2 n3 T3 n4 : Nat) : Prop := (b ≤ n1 ∧ b ≤ n2 ∧ b ≤ n3 ∧ b ≤ T3 ∧ b ≤ n4) ∧ w.heap[T]? = some (Gs.tab Gs.np Gs.np Gs.np Gs.np (Gs.ptr n1) Gs.np Gs.np) ∧ w.heap[n1]? = some (Gs.nd Gs.nil0 0 ⟨#[50]⟩ (Gs.ptr n3) Gs.ns) ∧ w.heap[n2]? = some (Gs.lf ⟨#[42]⟩ 8) ∧ w.heap[n3]? = some (Gs.nd Gs.nil0 0 Gs.nil0 Gs.np (.slice (some ⟨T3, 0, none⟩) 7 7)) ∧ w.heap[T3]? = some (Gs.tab Gs.np Gs.np (Gs.ptr n4) Gs.np Gs.np (Gs.ptr n2) Gs.np) ∧ w.heap[n4]? = some (Gs.lf ⟨#[40]⟩ 6)
def Gs.S3 (w : World) (b T n1 n2 n3 T3 n4 n5 : Nat) : Prop := (b ≤ n1 ∧ b ≤ n2 ∧ b ≤ n3 ∧ b ≤ T3 ∧ b ≤ n4 ∧ b ≤ n5) ∧ w.heap[T]? = some (Gs.tab Gs.np Gs.np Gs.np Gs.np (Gs.ptr n1) Gs.np Gs.np) ∧ w.heap[n1]? = some (Gs.nd Gs.nil0 0 ⟨#[50]⟩ (Gs.ptr n3) Gs.ns) ∧ w.heap[n2]? = some (Gs.lf ⟨#[42]⟩ 8) ∧ w.heap[n3]? = some (Gs.nd Gs.nil0 0 Gs.nil0 Gs.np (.slice (some ⟨T3, 0, none⟩) 7 7)) ∧ w.heap[T3]? = some (Gs.tab Gs.np Gs.np (Gs.ptr n4) (Gs.ptr n5) Gs.np (Gs.ptr n2) Gs.np) ∧ w.heap[n4]? = some (Gs.lf ⟨#[40]⟩ 6) ∧ w.heap[n5]? = some (Gs.lf ⟨#[41]⟩ 4)
def Gs.S4 (w : World) (b T n1 n2 n3 T3 n4 n5 T1 n6 n7 : Nat) : Prop := (b ≤ n1 ∧ b ≤ n2 ∧ b ≤ n3 ∧ b ≤ T3 ∧ b ≤ n4 ∧ b ≤ n5 ∧ b ≤ T1 ∧ b ≤ n6 ∧ b ≤ n7) ∧ w.heap[T]? = some (Gs.tab Gs.np Gs.np Gs.np Gs.np (Gs.ptr n1) Gs.np Gs.np) ∧ w.heap[n1]? = some (Gs.nd Gs.nil0 0 Gs.nil0 Gs.np (.slice (some ⟨T1, 0, none⟩) 7 7)) ∧ w.heap[n2]? = some (Gs.lf ⟨#[42]⟩ 8) ∧ w.heap[n3]? = some (Gs.nd Gs.nil0 0 Gs.nil0 Gs.np (.slice (some ⟨T3, 0, none⟩) 7 7)) ∧ w.heap[T3]? = some (Gs.tab Gs.np Gs.np (Gs.ptr n4) (Gs.ptr n5) Gs.np (Gs.ptr n2) Gs.np) ∧ w.heap[n4]? = some (Gs.lf ⟨#[40]⟩ 6) ∧ w.heap[n5]? = some (Gs.lf ⟨#[41]⟩ 4) ∧ w.heap[T1]? = some (Gs.tab (Gs.ptr n3) (Gs.ptr n6) Gs.np Gs.np Gs.np Gs.np Gs.np) ∧ w.heap[n6]? = some (Gs.nd Gs.nil0 0 ⟨#[99]⟩ (Gs.ptr n7) Gs.ns) ∧ w.heap[n7]? = some (Gs.lf ⟨#[92]⟩ 2)
def Gs.GS (w : World) (b T : Nat) : Nat → Prop
 | 0 => w.heap[T]? = some (Gs.tab Gs.np Gs.np Gs.np Gs.np Gs.np Gs.np Gs.np)
 | 1 => ∃ n1 n2, Gs.S1 w b T n1 n2
 | 2 => ∃ n1 n2 n3 T3 n4, Gs.S2 w b T n1 n2 n3 T3 n4
 | 3 => ∃ n1 n2 n3 T3 n4 n5, Gs.S3 w b T n1 n2 n3 T3 n4 n5
 | _ => ∃ n1 n2 n3 T3 n4 n5 T1 n6 n7, Gs.S4 w b T n1 n2 n3 T3 n4 n5 T1 n6 n7
def Gs.ulits : List ByteArray := [⟨#[92, 50, 97]⟩, ⟨#[42]⟩, ⟨#[92, 50, 56]⟩, ⟨#[40]⟩, ⟨#[92, 50, 57]⟩, ⟨#[41]⟩, ⟨#[92, 53, 99]⟩, ⟨#[92]⟩]
theorem Gs.addK (k q T b : Nat) (x y : ByteArray) (w : World) (hk : k < 4) (hx : Gs.ulits[2 * k]? = some x) (hy : Gs.ulits[2 * k + 1]? = some y) (hq : w.heap[q]? = some (Gs.root T)) (hT : b ≤ T) (hb : b ≤ w.heap.size) (hs : Gs.GS w b T k) :
  Calls Tryz.prog 203 #[Gs.ptr q, .string x, .string y, .int .i64 (8 - 2 * (k : Int)), Gs.ptr q] w fun e w' => e = .returned (.tuple #[]) ∧ Gs.GS w' b T (k + 1) ∧ w'.heap[q]? = some (Gs.root T) ∧ Gs.FK w w' (fun i => b ≤ i) := by
 obtain rfl | rfl | rfl | rfl : k = 0 ∨ k = 1 ∨ k = 2 ∨ k = 3 := by omega
 all_goals (injection hx with hx; injection hy with hy; subst hx; subst hy)
 ·refine (Gs.addA q T w hq hs).mono ?_
  rintro e w' ⟨rfl, n1, n2, g1, g2, a1, a2, a3, hf⟩
  exact ⟨rfl, ⟨n1, n2, by omega, by omega, a1, a2, a3⟩, Gs.FK_obj hf hq (Gs.ne_of hq hs (by simp)), Gs.FK_mono hf (fun i e => by omega)⟩
 ·obtain ⟨n1, n2, b1, b2, hT', h1, h2⟩ := hs
  refine (Gs.addB q T n1 n2 w hq hT' h1).mono ?_
  rintro e w' ⟨rfl, n3, T3, n4, g1, g2, g3, a1, a2, a3, a4, hf⟩
  exact ⟨rfl, ⟨n1, n2, n3, T3, n4, ⟨b1, b2, by omega, by omega, by omega⟩, Gs.FK_obj hf hT' (Gs.ne_of hT' h1 (by simp)), a1, Gs.FK_obj hf h2 (Gs.ne_of h2 h1 (by simp)), a2, a3, a4⟩, Gs.FK_obj hf hq (Gs.ne_of hq h1 (by simp)), Gs.FK_mono hf (fun i e => by omega)⟩
 ·obtain ⟨n1, n2, n3, T3, n4, ⟨b1, b2, b3, b4, b5⟩, hT', h1, h2, h3, h4, h5⟩ := hs
  refine (Gs.addC q T n1 n2 n3 T3 n4 w hq hT' h1 h3 h4).mono ?_
  rintro e w' ⟨rfl, n5, g1, a1, a2, hf⟩
  exact ⟨rfl, ⟨n1, n2, n3, T3, n4, n5, ⟨b1, b2, b3, b4, b5, by omega⟩, Gs.FK_obj hf hT' (Gs.ne_of hT' h4 (by simp)), Gs.FK_obj hf h1 (Gs.ne_of h1 h4 (by simp)), Gs.FK_obj hf h2 (Gs.ne_of h2 h4 (by simp)), Gs.FK_obj hf h3 (Gs.ne_of h3 h4 (by simp)), a1, Gs.FK_obj hf h5 (Gs.ne_of h5 h4 (by simp)), a2⟩, Gs.FK_obj hf hq (Gs.ne_of hq h4 (by simp)), Gs.FK_mono hf (fun i e => by omega)⟩
 ·obtain ⟨n1, n2, n3, T3, n4, n5, ⟨b1, b2, b3, b4, b5, b6⟩, hT', h1, h2, h3, h4, h5, h6⟩ := hs
  refine (Gs.addDD q T n1 n3 w hq hT' h1).mono ?_
  rintro e w' ⟨rfl, T1, n6, n7, g1, g2, g3, a1, a2, a3, a4, hf⟩
  exact ⟨rfl, ⟨n1, n2, n3, T3, n4, n5, T1, n6, n7, ⟨b1, b2, b3, b4, b5, b6, by omega, by omega, by omega⟩, Gs.FK_obj hf hT' (Gs.ne_of hT' h1 (by simp)), a1, Gs.FK_obj hf h2 (Gs.ne_of h2 h1 (by simp)), Gs.FK_obj hf h3 (Gs.ne_of h3 h1 (by simp)), Gs.FK_obj hf h4 (Gs.ne_of h4 h1 (by simp)), Gs.FK_obj hf h5 (Gs.ne_of h5 h1 (by simp)), Gs.FK_obj hf h6 (Gs.ne_of h6 h1 (by simp)), a2, a3, a4⟩, Gs.FK_obj hf hq (Gs.ne_of hq h1 (by simp)), Gs.FK_mono hf (fun i e => by omega)⟩
theorem Gs.GS_drew {w : World} {b T : Nat} : ∀ {k : Nat}, Gs.GS w b T k → Gs.GS w.drew b T k
 | 0, h => h
 | 1, h => h
 | 2, h => h
 | 3, h => h
 | _ + 4, h => h
def Gs.ks : List Nat := [92, 50, 97, 92, 50, 56, 92, 50, 57, 92, 53, 99]
def Gs.mk1 (n : Nat) : Nat → Nat := fun c => if c ∈ Gs.ks.take n then 1 else 0
theorem Gs.mk1_zero : Gs.mk1 0 = fun _ => 0 := by funext c; simp [Gs.mk1]
theorem Gs.mk1_succ (n b : Nat) (h : Gs.ks[n]? = some b) : (fun c => if c = b then 1 else Gs.mk1 n c) = Gs.mk1 (n + 1) := by
 funext c
 unfold Gs.mk1
 rw [List.take_add_one, h]
 simp only [Option.toList_some, List.mem_append, List.mem_singleton]
 by_cases e : c = b
 ·simp [e]
 ·simp [e]
theorem Gs.key (k : Nat) (hk : k < 4) : ∃ x, Gs.ulits[2 * k]? = some x ∧ x.size = 3 ∧ ∀ j, j < 3 → ∃ b, Gs.ks[3 * k + j]? = some b ∧ b < 256 ∧ ∀ h : j < x.size, ((x[j]'h).toNat : Int) = (b : Int) := by
 obtain rfl | rfl | rfl | rfl : k = 0 ∨ k = 1 ∨ k = 2 ∨ k = 3 := by omega
 all_goals refine ⟨_, rfl, rfl, fun j hj => ?_⟩
 all_goals obtain rfl | rfl | rfl : j = 0 ∨ j = 1 ∨ j = 2 := by omega
 all_goals exact ⟨_, rfl, by decide, fun _ => rfl⟩
theorem Gs.FK_low {w w1 : World} (h : Gs.FK w w1 (fun _ => False)) : Below w.heap.size w w1 := ⟨h.1, h.2.1, h.2.2.1, h.2.2.2.1, fun k hk => h.2.2.2.2 k hk id⟩
def Gs.GT (w : World) (b q : Nat) : Prop := ∃ T, b ≤ T ∧ w.heap[q]? = some (Gs.root T) ∧ Gs.GS w b T 4
def Gs.cnt (i : Nat) : Nat := ((List.range i).map (Gs.mk1 12)).sum
theorem Gs.mk1_le (n c : Nat) : Gs.mk1 n c ≤ 1 := by unfold Gs.mk1; split <;> omega
theorem Gs.cnt_succ (i : Nat) : Gs.cnt (i + 1) = Gs.cnt i + Gs.mk1 12 i := by simp [Gs.cnt, List.range_succ]
theorem Gs.cnt_le : ∀ i, Gs.cnt i ≤ i
 | 0 => Nat.le_refl _
 | i + 1 => by rw [Gs.cnt_succ]; have := Gs.cnt_le i; have := Gs.mk1_le 12 i; omega
theorem Gs.cnt_mono {i j : Nat} (h : i ≤ j) : Gs.cnt i ≤ Gs.cnt j := by
 obtain ⟨d, rfl⟩ := Nat.le.dest h
 clear h
 induction d with
 | zero => exact Nat.le_refl _
 | succ d ih => rw [← Nat.add_assoc, Gs.cnt_succ]; omega
theorem Gs.cnt_all : Gs.cnt 256 = 7 := by kernel_rfl
def Gs.mpG (i c : Nat) : Nat := if c < i then (if Gs.mk1 12 c = 0 then 7 else Gs.cnt c) else Gs.mk1 12 c
theorem Gs.mpG_zero : Gs.mpG 0 = Gs.mk1 12 := by funext c; simp [Gs.mpG]
theorem Gs.mpG_succ (i v : Nat) (h : v = if Gs.mk1 12 i = 0 then 7 else Gs.cnt i) : (fun c => if c = i then v else Gs.mpG i c) = Gs.mpG (i + 1) := by
 funext c
 unfold Gs.mpG
 by_cases e : c = i
 ·subst e; rw [if_pos rfl, if_pos (by omega), h]
 rw [if_neg e]
 by_cases l : c < i
 ·rw [if_pos (show c < i + 1 by omega), if_pos l]
 ·rw [if_neg (show ¬ c < i + 1 by omega), if_neg l]
theorem Gs.gq_same (tb : Value) (ts : Int) (mp mp' : Nat → Nat) (h : ∀ c, c < 256 → mp c = mp' c) : Gs.gq tb ts mp = Gs.gq tb ts mp' := by
 unfold Gs.gq
 congr 2
 funext i
 rw [h i.1 i.2]
theorem Gs.mp_all : ∀ c, c < 256 → Gs.mpG 256 c = Gs.mpF c := fun c hc => by
 have h : (List.range 256).all (fun c => Gs.mpG 256 c == Gs.mpF c) = true := by kernel_rfl
 exact beq_iff_eq.1 (List.all_eq_true.1 h c (List.mem_range.2 hc))
theorem Gs.rowA (q : Nat) (tb : Value) (ts : Int) (mp : Nat → Nat) (w : World) (hb : w.heap[q]? = some (.cells (Gs.gq tb ts mp) 223 (0, 0))) : ∃ A : List Value, A.length = 256 ∧ (∀ i, i < 256 → A.toArray[i]? = some (.int .u8 (mp i : Int))) ∧ w.rangeAt q 6 A := by
 have h := World.rangeAt_of_block hb 6 256
 rw [Gs.gq_row] at h
 exact ⟨_, by simp, fun i hi => by simp [hi], h⟩
theorem Gs.u187 : Tryz.prog.underlying 187 = some (.array 256 5) := by kernel_rfl
theorem Gs.s187 : (Tryz.prog.info? 187).map (·.size) = some 256 := by kernel_rfl
theorem Gs.idx187 (B : Array Value) (i : Nat) (v : Value) (hi : i < 256) (h : B[i]? = some v) (w : World) : (Instr.index 187 (.agg B) (.int .i64 (i : Int))).run Tryz.prog w = .ok v w := by
 obtain ⟨i5, h5, h51⟩ : ∃ i5, Tryz.prog.info? 5 = some i5 ∧ i5.size = 1 := by
  have h : (Tryz.prog.info? 5).map (·.size) = some 1 := by kernel_rfl
  cases e : Tryz.prog.info? 5 with
  | none => rw [e] at h; cases h
  | some x => rw [e] at h; exact ⟨x, rfl, Option.some.inj h⟩
 have hn : (0 ≤ (i : Int) ∧ (i : Int) < ((256 : Nat) : Int)) := by omega
 have hn2 : (i : Int) < 256 := by omega
 have hu5 : Tryz.prog.underlying 5 = some (.int .u8) := by kernel_rfl
 simp [Instr.index, run_underlying Gs.u187, asIntOf, hn2, go_sem, part, isAgg, run_underlying hu5, sizeOf, typeInfo, h5, h51, h]
 intro hc
 omega
set_option maxRecDepth 100000 in
set_option maxHeartbeats 8000000 in
theorem Gs.mkgen (t0 c2 : Nat) (w : World) (hcells : ∀ j x, Gs.ulits[j]? = some x → w.cell? ⟨t0, j, none⟩ = some (.string x)) :
  Calls Tryz.prog 175 #[.slice (some ⟨t0, 0, none⟩) 8 c2] w fun e w' => ∃ q, w.heap.size ≤ q ∧ e = .returned (Gs.ptr q) ∧ Gs.GT w' w.heap.size q ∧ Below w.heap.size w w' := by
 have hu := Tryz.underlying221
 have hv := Tryz.underlying223
 have HCE := Aside0.mk hcells
 clear hcells
 have HF := Aside0.mk (Gs.FK_refl w (fun _ => False))
 go_enter Tryz.func175, Tryz.ntmps175
 go_upto_region 2 with ((with_reducible refine gate_dst (N := 13) rfl ?_); refine box_event ?hg (N := 13) ?hd (cs := (Tryz.zeroCells223)) (t := 223) ?hr ?_; (case hd => rfl); (case hg => rfl); (case hr => first | (go_simp; done) | (go_simp; rfl)); intro q hg wb hbox hb; have HGq := Aside0.mk (show w.heap.size ≤ q by rw [hg]; exact HF.out.2.2.2.1); have HBq := Aside0.mk hbox; have mF := Aside0.mk (Gs.FK_below HF.out hb); clear HF  hb hbox hg; have HF := mF; clear mF )
 rw [Gs.gq_zero, ← Gs.mk1_zero] at HBq
 go_upto_region 3 with fail
 go_loopg [4] 4 (fun kq v4 w' => ∃ (k : Nat), v4 = .int .i64 (2 * (k : Int)) ∧ Aside0 (k + kq = 4) ∧ Aside0 (w'.heap[q]? = some (.cells (Gs.gq (.slice none 0 0) 0 (Gs.mk1 (3 * k))) 223 (0, 0))) ∧ Aside0 (Gs.FK w w' (fun _ => False)))
 case atStart => exact ⟨0, rfl, ⟨rfl⟩, HBq, HF⟩
 case round =>
  clear HBq HF
  obtain ⟨k, rfl, HKK, HBq, HF⟩ := hrel
  have hk4 : k ≤ 4 := by have := HKK.out; omega
  obtain ⟨G, hG⟩ : ∃ G, G = gk := ⟨_, rfl⟩
  have HG := Aside0.mk hG
  clear hG
  by_cases ck : k = 4
  rotate_left
  ·
   obtain ⟨x, hx1, hx2, hx3⟩ := Gs.key k (by omega)
   have hlt : k < 4 := by omega
   have ck1 : decide (2 * (k : Int) < 8) = true := decide_eq_true (by omega)
   have ck2 : (2 * (k : Int) < 8) = True := eq_true (by omega)
   have ck3 : (0 ≤ 2 * (k : Int)) = True := eq_true (by omega)
   have ck4 : (2 * (k : Int)).toNat = 2 * k := by omega
   have ck5 : (2 * k < 8) = True := eq_true (by omega)
   have cl : wr.cell? ⟨t0, 2 * k, none⟩ = some (.string x) := pw_cell_below (Gs.FK_low HF.out) (HCE.out _ _ hx1)
   have HW2 : Aside0 (wrap64 (2 * (k : Int) + 2) = 2 * ((k + 1 : Nat) : Int)) := ⟨by unfold wrap64; omega⟩
   have HX3 := Aside0.mk hx3
   have HX2 := Aside0.mk hx2
   have HLT := Aside0.mk hlt
   clear hx1 hx3 ck
   go_upto_region 7 with fail
   clear cl ck1 ck2 ck3 ck4 ck5
   go_loopg [6] 3 (fun kq v6 w' => ∃ (j : Nat), v6 = .int .i64 (j : Int) ∧ Aside0 (j + kq = 3) ∧ Aside0 (w'.heap[q]? = some (.cells (Gs.gq (.slice none 0 0) 0 (Gs.mk1 (3 * k + j))) 223 (0, 0))) ∧ Aside0 (Gs.FK w w' (fun _ => False)))
   case atStart => exact ⟨0, rfl, ⟨rfl⟩, HBq, HF⟩
   case round =>
    clear HBq HF
    obtain ⟨j, rfl, HJJ, HBq, HF⟩ := hrel
    have hj3 : j ≤ 3 := by have := HJJ.out; omega
    by_cases cj : j = 3
    ·
     subst cj
     go_wp2
     go_roundg (G - 1)
     exact ⟨k + 1, congrArg _ (by omega), ⟨by have := HKK.out; have := HLT.out; have := HG.out; omega⟩, HBq, HF⟩
     have := HKK.out
     have := HLT.out
     have := HG.out
     omega
    
    obtain ⟨b, hb1, hb2, hb3⟩ := HX3.out j (by omega)
    have hlt3 : j < 3 := by omega
    have cj1 : decide ((j : Int) < 3) = true := decide_eq_true (by omega)
    have cj2 : ((j : Int) < 3) = True := eq_true (by omega)
    have cj5 : (j < 3) = True := eq_true (by omega)
    have hx2 := HX2.out
    have cb1 : ((b : Int) < 256) = True := eq_true (by omega)
    have cb2 : (b < 256) = True := eq_true hb2
    have HW3 : Aside0 (wrap64 ((j : Int) + 1) = ((j + 1 : Nat) : Int)) := ⟨by unfold wrap64; omega⟩
    have HB1 := Aside0.mk hb1
    have HB2 := Aside0.mk hb2
    have HL3 := Aside0.mk hlt3
    clear hb1 cj hj3
    have cq : wr.cell? ⟨q, 6 + b, none⟩ = some (.int .u8 (Gs.mk1 (3 * k + j) b : Int)) := (blk_cell HBq.out _).trans (Gs.gq_map _ _ _ b hb2)
    have cz := blk_frozen HBq.out (6 + b)
    go_upto_region 9 with fail
    go_region
    clear cq cz
    have m1 := Aside0.mk (show ((wr.setCell ⟨q, 6 + b, none⟩ (.int .u8 1)).drew).heap[q]? = some (.cells (Gs.gq (.slice none 0 0) 0 (Gs.mk1 (3 * k + (j + 1)))) 223 (0, 0)) from (blk_put HBq.out (6 + b) (.int .u8 1) ((Gs.gq_put _ _ _ b 1 HB2.out).trans (congrArg (Gs.gq _ _) (Gs.mk1_succ (3 * k + j) b HB1.out)))))
    have m2 := Aside0.mk (show Gs.FK w ((wr.setCell ⟨q, 6 + b, none⟩ (.int .u8 1)).drew) (fun _ => False) from Gs.FK_set HF.out (i := 6 + b) (.int .u8 1) (.inr HGq.out))
    clear HBq HF
    go_wp2
    go_roundg (gk - 1)
    exact ⟨j + 1, rfl, ⟨by have := HJJ.out; have := HL3.out; omega⟩, m1, m2⟩
    have := HJJ.out
    have := HL3.out
    omega
  
  subst ck
  clear HKK HG hk4
  have HB := HBq
  clear HBq
  have HBq := Aside0.mk (show wr.heap[q]? = some (.cells (Gs.gq (.slice none 0 0) 0 (Gs.mk1 12)) 223 (0, 0)) from HB.out)
  clear HB
  obtain ⟨A, hAs, hA, hld⟩ := Gs.rowA q _ _ _ wr HBq.out
  have HA := Aside0.mk hA
  clear hA
  go_upto_region 11 with (refine wp_load_mid (P := Tryz.prog) 187 _ rfl q 6 rfl A (.array 256 5) hld Gs.u187 rfl (by rw [hAs]; exact Gs.s187) ?_; obtain ⟨B, hB⟩ : ∃ B, B = A.toArray := ⟨_, rfl⟩; rw [← hB] at HA ⊢; have hBs : B.size = 256 := (by rw [hB]; simpa using hAs); clear hB hld hAs)
  go_loopg [41] 256 (fun kq v41 w' => ∃ (i : Nat), v41 = .int .i64 (i : Int) ∧ Aside0 (i + kq = 256) ∧ Aside0 (w'.heap[q]? = some (.cells (Gs.gq (.slice none 0 0) (Gs.cnt i : Int) (Gs.mk1 12)) 223 (0, 0))) ∧ Aside0 (Gs.FK w w' (fun _ => False)))
  case atStart => exact ⟨0, rfl, ⟨rfl⟩, HBq, HF⟩
  case round =>
   clear HBq HF
   obtain ⟨i, rfl, HII, HBq, HF⟩ := hrel
   have hi4 : i ≤ 256 := by have := HII.out; omega
   by_cases ci : i = 256
   rotate_left
   ·
    have ci1 : decide ((i : Int) < 256) = true := decide_eq_true (by omega)
    have ci2 : ((i : Int) < 256) = True := eq_true (by omega)
    have ci3 : (i < 256) = True := eq_true (by omega)
    have hAi := HA.out i (by omega)
    have hix := fun w => Gs.idx187 B i _ (by omega) hAi w
    clear hAi
    have HW : Aside0 (wrap64 ((i : Int) + 1) = ((i + 1 : Nat) : Int)) := ⟨by unfold wrap64; omega⟩
    have HLI := Aside0.mk (show i < 256 by omega)
    have hcl := Gs.cnt_le i
    have hml := Gs.mk1_le 12 i
    have c5 : wr.cell? ⟨q, 5, none⟩ = some (.int .i64 (Gs.cnt i : Int)) := (blk_cell HBq.out 5).trans (Gs.gq_low _ _ _ 5 (by omega))
    have z5 := blk_frozen HBq.out 5
    have HC1 := Aside0.mk (show Gs.cnt i + Gs.mk1 12 i = Gs.cnt (i + 1) from (Gs.cnt_succ i).symm)
    generalize Gs.mk1 12 i = u at hix HC1 hml
    generalize Gs.cnt i = s at HC1 hcl c5
    clear ci hi4
    go_upto_region 14 with fail
    clear c5 z5
    have hws : wrap64 ((s : Int) + (u : Int)) = (Gs.cnt (i + 1) : Int) := by have := HLI.out; rw [← HC1.out]; unfold wrap64; omega
    rw [hws]
    have m1 := Aside0.mk (show (wr.setCell ⟨q, 5, none⟩ (.int .i64 (Gs.cnt (i + 1) : Int))).heap[q]? = some (.cells (Gs.gq (.slice none 0 0) (Gs.cnt (i + 1) : Int) (Gs.mk1 12)) 223 (0, 0)) from blk_put HBq.out 5 _ (Gs.gq_size5 _ _ _ _))
    have m2 := Aside0.mk (show Gs.FK w (wr.setCell ⟨q, 5, none⟩ (.int .i64 (Gs.cnt (i + 1) : Int))) (fun _ => False) from Gs.FK_set HF.out (i := 5) _ (.inr HGq.out))
    clear HBq HF hws
    go_wp2
    go_roundg (gk - 1)
    exact ⟨i + 1, congrArg _ HW.out, ⟨by have := HII.out; have := HLI.out; omega⟩, m1, m2⟩
    have := HII.out
    have := HLI.out
    omega
   
   subst ci
   clear HII hi4 hBs HA
   have HB := HBq
   clear HBq
   have HBq := Aside0.mk (show wr.heap[q]? = some (.cells (Gs.gq (.slice none 0 0) (Gs.cnt 256 : Int) (Gs.mk1 12)) 223 (0, 0)) from HB.out)
   clear HB
   rw [Gs.cnt_all, ← Gs.mpG_zero] at HBq
   obtain ⟨A, hAs, hA, hld⟩ := Gs.rowA q _ _ _ wr HBq.out
   rw [Gs.mpG_zero] at hA
   have HA := Aside0.mk hA
   clear hA
   go_upto_region 17 with (refine wp_load_mid (P := Tryz.prog) 187 _ rfl q 6 rfl A (.array 256 5) hld Gs.u187 rfl (by rw [hAs]; exact Gs.s187) ?_; obtain ⟨B, hB⟩ : ∃ B, B = A.toArray := ⟨_, rfl⟩; rw [← hB] at HA ⊢; have hBs : B.size = 256 := (by rw [hB]; simpa using hAs); clear hB hld hAs)
   go_loopg [9, 58] 256 (fun kq v9 v58 w' => ∃ (i : Nat), v9 = .int .u8 (Gs.cnt i : Int) ∧ v58 = .int .i64 (i : Int) ∧ Aside0 (i + kq = 256) ∧ Aside0 (w'.heap[q]? = some (.cells (Gs.gq (.slice none 0 0) ((7 : Nat) : Int) (Gs.mpG i)) 223 (0, 0))) ∧ Aside0 (Gs.FK w w' (fun _ => False)))
   case atStart => exact ⟨0, rfl, rfl, ⟨rfl⟩, HBq, HF⟩
   case round =>
    clear HBq HF
    obtain ⟨i, rfl, rfl, HII, HBq, HF⟩ := hrel
    have hi4 : i ≤ 256 := by have := HII.out; omega
    by_cases ci : i = 256
    rotate_left
    ·
     have ci1 : decide ((i : Int) < 256) = true := decide_eq_true (by omega)
     have ci2 : ((i : Int) < 256) = True := eq_true (by omega)
     have ci3 : (i < 256) = True := eq_true (by omega)
     have hAi := HA.out i (by omega)
     have hix := fun w => Gs.idx187 B i _ (by omega) hAi w
     clear hAi
     have HW : Aside0 (wrap64 ((i : Int) + 1) = ((i + 1 : Nat) : Int)) := ⟨by unfold wrap64; omega⟩
     have HLI := Aside0.mk (show i < 256 by omega)
     have hcl := Gs.cnt_le i
     have hcm : Gs.cnt i ≤ 7 := by have h := Gs.cnt_mono (show i ≤ 256 by omega); rw [Gs.cnt_all] at h; exact h
     have cm : wr.cell? ⟨q, 6 + i, none⟩ = some (.int .u8 (Gs.mpG i i : Int)) := (blk_cell HBq.out (6 + i)).trans (Gs.gq_map _ _ _ i (by omega))
     have zm := blk_frozen HBq.out (6 + i)
     have c5 : wr.cell? ⟨q, 5, none⟩ = some (.int .i64 7) := (blk_cell HBq.out 5).trans (Gs.gq_low _ _ _ 5 (by omega))
     have hml := Gs.mk1_le 12 i
     have HC1 := Aside0.mk (Gs.cnt_succ i)
     have HPG := Aside0.mk (Gs.mpG_succ i)
     clear ci hi4
     obtain cu | cu : Gs.mk1 12 i = 0 ∨ Gs.mk1 12 i = 1 := by omega
     ·
      rw [cu] at hix HC1 HPG
      go_upto_region 20 with fail
      go_region
      clear cm zm c5
      have m1 := Aside0.mk (show ((wr.setCell ⟨q, 6 + i, none⟩ (.int .u8 7)).drew).heap[q]? = some (.cells (Gs.gq (.slice none 0 0) ((7 : Nat) : Int) (Gs.mpG (i + 1))) 223 (0, 0)) from blk_put HBq.out (6 + i) (.int .u8 7) ((Gs.gq_put _ _ _ i 7 HLI.out).trans (congrArg (Gs.gq _ _) (HPG.out 7 rfl))))
      have m2 := Aside0.mk (show Gs.FK w ((wr.setCell ⟨q, 6 + i, none⟩ (.int .u8 7)).drew) (fun _ => False) from Gs.FK_set HF.out (i := 6 + i) (.int .u8 7) (.inr HGq.out))
      clear HBq HF HPG
      go_wp2
      go_roundg (gk - 1)
      exact ⟨i + 1, congrArg (fun n : Nat => Value.int .u8 (n : Int)) HC1.out.symm, congrArg _ HW.out, ⟨by have := HII.out; have := HLI.out; omega⟩, m1, m2⟩
      have := HII.out
      have := HLI.out
      omega
     ·
      rw [cu] at hix HC1 HPG
      go_upto_region 22 with fail
      clear cm zm c5
      have m1 := Aside0.mk (show (wr.setCell ⟨q, 6 + i, none⟩ (.int .u8 (Gs.cnt i : Int))).heap[q]? = some (.cells (Gs.gq (.slice none 0 0) ((7 : Nat) : Int) (Gs.mpG (i + 1))) 223 (0, 0)) from blk_put HBq.out (6 + i) (.int .u8 (Gs.cnt i : Int)) ((Gs.gq_put _ _ _ i (Gs.cnt i) HLI.out).trans (congrArg (Gs.gq _ _) (HPG.out (Gs.cnt i) rfl))))
      have m2 := Aside0.mk (show Gs.FK w (wr.setCell ⟨q, 6 + i, none⟩ (.int .u8 (Gs.cnt i : Int))) (fun _ => False) from Gs.FK_set HF.out (i := 6 + i) (.int .u8 (Gs.cnt i : Int)) (.inr HGq.out))
      clear HBq HF HPG
      go_wp2
      go_roundg (gk - 1)
      exact ⟨i + 1, congrArg (Value.int .u8) (by rw [HC1.out]; simp [IntKind.wrap]), congrArg _ HW.out, ⟨by have := HII.out; have := HLI.out; omega⟩, m1, m2⟩
      have := HII.out
      have := HLI.out
      omega
    
    subst ci
    clear HII hi4 hBs HA
    have HB := HBq
    clear HBq
    have HBq := Aside0.mk (show wr.heap[q]? = some (.cells (Gs.gq (.slice none 0 0) 7 Gs.mpF) 223 (0, 0)) from HB.out.trans (congrArg (fun c => some (Obj.cells c 223 (0, 0))) (Gs.gq_same _ _ _ _ Gs.mp_all)))
    clear HB
    have hmk := Gs.mk7
    have c5 : wr.cell? ⟨q, 5, none⟩ = some (.int .i64 7) := (blk_cell HBq.out 5).trans (Gs.gq_low _ _ _ 5 (by omega))
    have c4 : (wr.alloc (Obj.cells #[.pointer none, .pointer none, .pointer none, .pointer none, .pointer none, .pointer none, .pointer none] 218)).cell? ⟨q, 4, none⟩ = some (.slice none 0 0) := (blk_cell (blk_alloc HBq.out (Obj.cells #[.pointer none, .pointer none, .pointer none, .pointer none, .pointer none, .pointer none, .pointer none] 218)) 4).trans (Gs.gq_low _ _ _ 4 (by omega))
    have z4 := blk_frozen (blk_alloc HBq.out (Obj.cells #[.pointer none, .pointer none, .pointer none, .pointer none, .pointer none, .pointer none, .pointer none] 218)) 4
    go_upto_region 25 with fail
    clear hmk c5 c4 z4
    obtain ⟨T, hT⟩ : ∃ T, T = wr.heap.size := ⟨_, rfl⟩
    rw [← hT]
    have HGT := Aside0.mk (show w.heap.size ≤ T by rw [hT]; exact HF.out.2.2.2.1)
    have hqT : q ≠ T := (by rw [hT]; exact Nat.ne_of_lt (blk_lt HBq.out))
    have HBT := Aside0.mk (show ((wr.alloc (Obj.cells #[.pointer none, .pointer none, .pointer none, .pointer none, .pointer none, .pointer none, .pointer none] 218)).setCell ⟨q, 4, none⟩ (.slice (some ⟨T, 0, none⟩) 7 7)).heap[T]? = some (.cells #[.pointer none, .pointer none, .pointer none, .pointer none, .pointer none, .pointer none, .pointer none] 218 (0, 0)) from blk_far (p := ⟨q, 4, none⟩) (by rw [hT]; exact blk_new _ _) (Ne.symm hqT) _)
    have m1 := Aside0.mk (show ((wr.alloc (Obj.cells #[.pointer none, .pointer none, .pointer none, .pointer none, .pointer none, .pointer none, .pointer none] 218)).setCell ⟨q, 4, none⟩ (.slice (some ⟨T, 0, none⟩) 7 7)).heap[q]? = some (Gs.root T) from blk_put (blk_alloc HBq.out _) 4 _ (Gs.gq_tb4 _ _ _ _))
    have m2 := Aside0.mk (show Gs.FK w ((wr.alloc (Obj.cells #[.pointer none, .pointer none, .pointer none, .pointer none, .pointer none, .pointer none, .pointer none] 218)).setCell ⟨q, 4, none⟩ (.slice (some ⟨T, 0, none⟩) 7 7)) (fun _ => False) from Gs.FK_set (Gs.FK_below HF.out (below_alloc (Below.refl _ _) _)) (i := 4) _ (.inr HGq.out))
    clear HBq HF hT hqT
    have HBq := m1
    have HF := m2
    clear m1 m2
    generalize (wr.alloc (Obj.cells #[.pointer none, .pointer none, .pointer none, .pointer none, .pointer none, .pointer none, .pointer none] 218)).setCell ⟨q, 4, none⟩ (.slice (some ⟨T, 0, none⟩) 7 7) = w1 at HBq HF HBT ⊢
    go_upto_region 26 with fail
    go_loopg [12] 4 (fun kq v12 w' => ∃ (k : Nat), v12 = .int .i64 (2 * (k : Int)) ∧ Aside0 (k + kq = 4) ∧ Aside0 (w'.heap[q]? = some (Gs.root T)) ∧ Aside0 (Gs.GS w' w.heap.size T k) ∧ Aside0 (Gs.FK w w' (fun _ => False)))
    case atStart => exact ⟨0, rfl, ⟨rfl⟩, HBq, HBT, HF⟩
    case round =>
     clear HBq HBT HF
     obtain ⟨k, rfl, HKK, HBq, HGS, HF⟩ := hrel
     have hk4 : k ≤ 4 := by have := HKK.out; omega
     by_cases ck : k = 4
     ·
      subst ck
      go_wp2
      go_ret
      exact ⟨q, HGq.out, rfl, ⟨T, HGT.out, HBq.out, HGS.out⟩, Gs.FK_low HF.out⟩
     
     obtain ⟨x, y, hx1, hx2⟩ : ∃ x y, Gs.ulits[2 * k]? = some x ∧ Gs.ulits[2 * k + 1]? = some y := by
      obtain rfl | rfl | rfl | rfl : k = 0 ∨ k = 1 ∨ k = 2 ∨ k = 3 := by omega
      all_goals exact ⟨_, _, rfl, rfl⟩
     have hlt : k < 4 := by omega
     have ck1 : decide (2 * (k : Int) < 8) = true := decide_eq_true (by omega)
     have ck2 : (2 * (k : Int) < 8) = True := eq_true (by omega)
     have ck3 : (0 ≤ 2 * (k : Int)) = True := eq_true (by omega)
     have ck4 : (2 * (k : Int)).toNat = 2 * k := by omega
     have ck5 : (2 * k < 8) = True := eq_true (by omega)
     have cj2 : (2 * (k : Int) + 1 < 8) = True := eq_true (by omega)
     have cj3 : (0 ≤ 2 * (k : Int) + 1) = True := eq_true (by omega)
     have cj4 : (2 * (k : Int) + 1).toNat = 2 * k + 1 := by omega
     have cj5 : (2 * k + 1 < 8) = True := eq_true (by omega)
     have hw1 : wrap64 (2 * (k : Int) + 1) = 2 * (k : Int) + 1 := by unfold wrap64; omega
     have hw8 : wrap64 (8 - 2 * (k : Int)) = 8 - 2 * (k : Int) := by unfold wrap64; omega
     have hw2 : IntKind.i64.wrap (2 * (k : Int) + 1) = 2 * (k : Int) + 1 := by simp [IntKind.wrap, show IntKind.i64.bits = 64 from rfl]; omega
     have hw9 : IntKind.i64.wrap (8 - 2 * (k : Int)) = 8 - 2 * (k : Int) := by simp [IntKind.wrap, show IntKind.i64.bits = 64 from rfl]; omega
     have cl : wr.cell? ⟨t0, 2 * k, none⟩ = some (.string x) := pw_cell_below (Gs.FK_low HF.out) (HCE.out _ _ hx1)
     have cl2 : wr.cell? ⟨t0, 2 * k + 1, none⟩ = some (.string y) := pw_cell_below (Gs.FK_low HF.out) (HCE.out _ _ hx2)
     have HLT := Aside0.mk hlt
     have HX1 := Aside0.mk hx1
     have HX2 := Aside0.mk hx2
     clear hx1 hx2 ck
     go_upto_region 28 with fail
     go_region_with (go_at_call 203; refine (Gs.addK k q T w.heap.size x y _ HLT.out HX1.out HX2.out ?_ HGT.out ?_ ?_).mono ?_; exact (show wr.drew.heap[q]? = _ from HBq.out); exact HF.out.2.2.2.1; exact Gs.GS_drew HGS.out; rintro e w5 ⟨rfl, hgs, hgq, hgf⟩)
     all_goals go_wp2
     all_goals go_roundg (gk - 1)
     all_goals first | exact ⟨k + 1, congrArg _ (by omega), ⟨by have := HKK.out; have := HLT.out; omega⟩, ⟨hgq⟩, ⟨hgs⟩, ⟨Gs.FK_then (show Gs.FK w wr.drew (fun _ => False) from HF.out) hgf (fun i e => .inr e)⟩⟩ | (have := HKK.out; have := HLT.out; omega)
theorem Gs.ba_ext {a b : ByteArray} (h : a.data.toList = b.data.toList) : a = b := ByteArray.ext (Array.toList_inj.1 h)
theorem Gs.ba_inj {a b : ByteArray} : a.toList = b.toList ↔ a = b :=
 ⟨fun h => Gs.ba_ext (by rwa [Go.Lib.toList_data, Go.Lib.toList_data] at h), fun h => by rw [h]⟩
def Gs.lk2 (Z : ByteArray) : Option Nat := if Z.size = 0 then none else if bt Z 0 = 97 then some 42 else if bt Z 0 = 56 then some 40 else if bt Z 0 = 57 then some 41 else none
def Gs.lk5 (Z : ByteArray) : Option Nat := if Z.size = 0 then none else if bt Z 0 = 99 then some 92 else none
def Gs.lk1 (Y : ByteArray) : Option Nat := if Y.size = 0 then none else if bt Y 0 = 50 then Gs.lk2 (Y.extract 1 Y.size) else if bt Y 0 = 53 then Gs.lk5 (Y.extract 1 Y.size) else none
def Gs.lkR (X : ByteArray) : Option Nat := if X.size = 0 then none else Gs.lk1 (X.extract 1 X.size)
def Gs.lkV (o : Option Nat) : ByteArray := match o with | none => Gs.nil0 | some c => ⟨#[UInt8.ofNat c]⟩
def Gs.lkN (o : Option Nat) : Int := match o with | none => 0 | some _ => 3
theorem Gs.empty_of {Y : ByteArray} (h : Y.size = 0) : Y = ⟨#[]⟩ := ByteArray.ext (Array.eq_empty_of_size_eq_zero h)
theorem Gs.mpF_or (c : Nat) : (c = 50 ∧ Gs.mpF c = 0) ∨ (c = 53 ∧ Gs.mpF c = 1) ∨ (c = 56 ∧ Gs.mpF c = 2) ∨ (c = 57 ∧ Gs.mpF c = 3) ∨ (c = 92 ∧ Gs.mpF c = 4) ∨ (c = 97 ∧ Gs.mpF c = 5) ∨ (c = 99 ∧ Gs.mpF c = 6) ∨ ((c ≠ 50 ∧ c ≠ 53 ∧ c ≠ 56 ∧ c ≠ 57 ∧ c ≠ 92 ∧ c ≠ 97 ∧ c ≠ 99) ∧ Gs.mpF c = 7) := by
 unfold Gs.mpF
 repeat' split
 all_goals simp_all
theorem Gs.byte0 (Y : ByteArray) (h : Y.size ≠ 0) : ∃ c : Nat, c < 256 ∧ bt Y 0 = (c : Int) ∧ ∀ h : 0 < Y.size, ((Y[0]'h).toNat : Int) = (c : Int) := by
 refine ⟨(bt Y 0).toNat, ?_, ?_, fun hh => ?_⟩
 ·have := (bt_range Y 0).2; omega
 ·have := (bt_range Y 0).1; omega
 ·have h1 := bt_at Y 0 hh
  have := (bt_range Y 0).1
  rw [show ((bt Y 0).toNat : Int) = bt Y 0 by omega]
  exact h1
theorem Gs.pre_c (Y : ByteArray) (h : Y.size ≠ 0) : (Y.extract 0 1 = ⟨#[99]⟩) ↔ bt Y 0 = 99 := by
 obtain ⟨⟨l⟩⟩ := Y
 cases l with
 | nil => exact absurd rfl h
 | cons a l =>
  have e1 : (⟨⟨a :: l⟩⟩ : ByteArray).extract 0 1 = ⟨#[a]⟩ := by
   apply ByteArray.ext
   simp [ByteArray.extract, ByteArray.copySlice]
  have e2 : bt ⟨⟨a :: l⟩⟩ 0 = (a.toNat : Int) := by
   rw [← bt_at _ 0 (by simp [ByteArray.size])]
   rfl
  rw [e1, e2]
  constructor
  ·intro h2
   injection h2 with h2
   have : a = 99 := by simpa using h2
   rw [this]; rfl
  ·intro h2
   have h3 : a.toNat = 99 := by omega
   have h4 : a = 99 := UInt8.toNat_inj.1 (h3.trans rfl)
   rw [h4]
theorem Gs.toList_eq (s t : ByteArray) : (s.toList == t.toList) = decide (s = t) := by
 by_cases h : s = t
 ·subst h; simp
 rw [decide_eq_false h]
 exact beq_eq_false_iff_ne.2 fun e => h (Gs.ba_inj.1 e)
theorem Gs.nil_eq (s : ByteArray) : (s.toList == []) = decide (s.size = 0) := by
 have h := Gs.toList_eq s ⟨#[]⟩
 rw [show (⟨#[]⟩ : ByteArray).toList = [] from by kernel_rfl] at h
 rw [h]
 exact decide_eq_decide.2 ⟨fun h => by rw [h]; rfl, Gs.empty_of⟩
set_option maxRecDepth 100000 in
set_option maxHeartbeats 8000000 in
theorem Gs.hasC (Y : ByteArray) (w : World) (h : Y.size ≠ 0) :
  Calls Tryz.prog 80 #[.string Y, .string ⟨#[99]⟩] w fun e w' => e = .returned (.bool (decide (bt Y 0 = 99))) ∧ w' = w := by
 have h1 : (1 ≤ (Y.size : Int)) = True := eq_true (by omega)
 have h2 : decide (1 ≤ (Y.size : Int)) = true := decide_eq_true (by omega)
 have h3 : (1 ≤ Y.size) = True := eq_true (by omega)
 have h4 : decide (1 ≤ Y.size) = true := decide_eq_true (by omega)
 have h5 : ((Y.extract 0 1).toList == [99]) = decide (bt Y 0 = 99) := (show ((Y.extract 0 1).toList == [99]) = ((Y.extract 0 1).toList == (⟨#[99]⟩ : ByteArray).toList) from by rw [show (⟨#[99]⟩ : ByteArray).toList = [99] from by kernel_rfl]).trans <| (Gs.toList_eq _ ⟨#[99]⟩).trans (decide_eq_decide.2 (Gs.pre_c Y h))
 go_enter Tryz.func80, Tryz.ntmps80
 go_wp2
 go_ret
 exact ⟨rfl, rfl⟩
set_option maxRecDepth 100000 in
set_option maxHeartbeats 16000000 in
theorem Gs.lookup (q b : Nat) (X : ByteArray) (w : World) (hG : Gs.GT w b q) (hX : X.size = 0 ∨ bt X 0 = 92) :
  Calls Tryz.prog 261 #[Gs.ptr q, .string X, .bool false] w fun e w' => e = .returned (.tuple #[.string (Gs.lkV (Gs.lkR X)), .int .i64 (Gs.lkN (Gs.lkR X)), .bool (Gs.lkR X).isSome]) ∧ w'.heap = w.heap ∧ Below w.heap.size w w' := by
 have hu := Tryz.underlying221
 have hv := Tryz.underlying223
 have hnot : ∀ (x : Bool) (w : World), (Op.unary .not (.bool x)).run Tryz.prog w = .ok (.bool (!x)) w := fun _ _ => rfl
 have qT : ∀ (w : World) (a : Option Addr) (n c n' c' : Nat), (binOp .neq 219 (.slice a n c) (.slice none n' c')).run Tryz.prog w = .ok (.bool (!a.isNone)) w := fun w a n c n' c' => run_neq_slice_nil_any w _ _ a n c n' c' Tryz.underlying219
 obtain ⟨T, hbT, hq, hs⟩ := hG
 obtain ⟨n1, n2, n3, T3, n4, n5, T1, n6, n7, hbs, hT, h1, h2, h3, hT3, h4, h5, hT1, h6, h7⟩ := hs
 have Gq := Aside0.mk hq
 have GT := Aside0.mk hT
 have Gn1 := Aside0.mk h1
 have Gn2 := Aside0.mk h2
 have Gn3 := Aside0.mk h3
 have GT3 := Aside0.mk hT3
 have Gn4 := Aside0.mk h4
 have Gn5 := Aside0.mk h5
 have GT1 := Aside0.mk hT1
 have Gn6 := Aside0.mk h6
 have Gn7 := Aside0.mk h7
 have HX := Aside0.mk hX
 clear hbT hq hbs hX hT h1 h2 h3 hT3 h4 h5 hT1 h6 h7
 go_enter Tryz.func261, Tryz.ntmps261
 go_upto_region 4 with fail
 go_loopg [1, 6, 7, 8, 9, 10, 11] 4 (fun kq v1 v6 v7 v8 v9 v10 v11 w' => Aside0 (w'.heap = w.heap) ∧ Aside0 (Below w.heap.size w w') ∧ v6 = .string Gs.nil0 ∧ v7 = .int .i64 0 ∧ v8 = .bool false ∧ v9 = .int .i64 0 ∧ ((v1 = .string X ∧ v10 = Gs.ptr q ∧ v11 = .int .i64 0 ∧ Aside0 (kq = 4)) ∨ (∃ Y, v1 = .string Y ∧ v10 = Gs.ptr n1 ∧ v11 = .int .i64 1 ∧ Aside0 (kq = 3) ∧ Aside0 (Gs.lkR X = Gs.lk1 Y)) ∨ (∃ Y, v1 = .string Y ∧ v10 = Gs.ptr n3 ∧ v11 = .int .i64 2 ∧ Aside0 (kq = 2) ∧ Aside0 (Gs.lkR X = Gs.lk2 Y)) ∨ (∃ Y, v1 = .string Y ∧ v10 = Gs.ptr n6 ∧ v11 = .int .i64 2 ∧ Aside0 (kq = 2) ∧ Aside0 (Gs.lkR X = Gs.lk5 Y)) ∨ (∃ Y nL v p, v1 = .string Y ∧ v10 = Gs.ptr nL ∧ v11 = .int .i64 3 ∧ Aside0 (kq = 1) ∧ Aside0 (w.heap[nL]? = some (Gs.lf v p)) ∧ Aside0 (0 < p) ∧ Aside0 (∃ c, Gs.lkR X = some c ∧ v = ⟨#[UInt8.ofNat c]⟩)) ∨ (∃ Y u, v1 = .string Y ∧ v10 = .pointer none ∧ v11 = .int .i64 u ∧ Aside0 (Gs.lkR X = none))))
 case atStart => exact ⟨⟨rfl⟩, ⟨Below.refl _ _⟩, rfl, rfl, rfl, rfl, .inl ⟨rfl, rfl, rfl, ⟨rfl⟩⟩⟩
 case round =>
  obtain ⟨HH, HB, rfl, rfl, rfl, rfl, hst⟩ := hrel
  have Fq := Aside0.mk (show wr.heap[q]? = some (Gs.root T) from by rw [HH.out]; exact Gq.out)
  have FT := Aside0.mk (show wr.heap[T]? = some (Gs.tab Gs.np Gs.np Gs.np Gs.np (Gs.ptr n1) Gs.np Gs.np) from by rw [HH.out]; exact GT.out)
  have Fn1 := Aside0.mk (show wr.heap[n1]? = some (Gs.nd Gs.nil0 0 Gs.nil0 Gs.np (.slice (some ⟨T1, 0, none⟩) 7 7)) from by rw [HH.out]; exact Gn1.out)
  have Fn2 := Aside0.mk (show wr.heap[n2]? = some (Gs.lf ⟨#[42]⟩ 8) from by rw [HH.out]; exact Gn2.out)
  have Fn3 := Aside0.mk (show wr.heap[n3]? = some (Gs.nd Gs.nil0 0 Gs.nil0 Gs.np (.slice (some ⟨T3, 0, none⟩) 7 7)) from by rw [HH.out]; exact Gn3.out)
  have FT3 := Aside0.mk (show wr.heap[T3]? = some (Gs.tab Gs.np Gs.np (Gs.ptr n4) (Gs.ptr n5) Gs.np (Gs.ptr n2) Gs.np) from by rw [HH.out]; exact GT3.out)
  have Fn4 := Aside0.mk (show wr.heap[n4]? = some (Gs.lf ⟨#[40]⟩ 6) from by rw [HH.out]; exact Gn4.out)
  have Fn5 := Aside0.mk (show wr.heap[n5]? = some (Gs.lf ⟨#[41]⟩ 4) from by rw [HH.out]; exact Gn5.out)
  have FT1 := Aside0.mk (show wr.heap[T1]? = some (Gs.tab (Gs.ptr n3) (Gs.ptr n6) Gs.np Gs.np Gs.np Gs.np Gs.np) from by rw [HH.out]; exact GT1.out)
  have Fn6 := Aside0.mk (show wr.heap[n6]? = some (Gs.nd Gs.nil0 0 ⟨#[99]⟩ (Gs.ptr n7) Gs.ns) from by rw [HH.out]; exact Gn6.out)
  have Fn7 := Aside0.mk (show wr.heap[n7]? = some (Gs.lf ⟨#[92]⟩ 2) from by rw [HH.out]; exact Gn7.out)
  rcases hst with ⟨rfl, rfl, rfl, HK⟩ | ⟨Y, rfl, rfl, rfl, HK, HR⟩ | ⟨Y, rfl, rfl, rfl, HK, HR⟩ | ⟨Y, rfl, rfl, rfl, HK, HR⟩ | ⟨Y, nL, v, p, rfl, rfl, rfl, HK, HL, HP, HC⟩ | ⟨Y, u, rfl, rfl, rfl, HR⟩
  ·
   have c1 : wr.cell? ⟨q, 1, none⟩ = some (.int .i64 0) := (blk_cell Fq.out 1).trans (Gs.gq_low _ _ _ 1 (by omega))
   have c4 : wr.cell? ⟨q, 4, none⟩ = some (.slice (some ⟨T, 0, none⟩) 7 7) := (blk_cell Fq.out 4).trans (Gs.root4 T)
   have c5 : wr.cell? ⟨q, 5, none⟩ = some (.int .i64 7) := (blk_cell Fq.out 5).trans (Gs.root5 T)
   by_cases he : X.size = 0
   ·have he2 : (X.toList == []) = true := by rw [Gs.nil_eq]; exact decide_eq_true he
    have HR : Gs.lkR X = none := by unfold Gs.lkR; rw [if_pos he]
    go_wp2
    refine bodyPost_ret (results_tmp3 rfl _ _ _) rfl ?_
    exact ⟨by rw [HR]; rfl, HH.out, HB.out⟩
   have he2 : (X.toList == []) = false := by rw [Gs.nil_eq]; exact decide_eq_false he
   obtain ⟨c, hc1, hc2, hc3⟩ := Gs.byte0 X he
   have hs0 : (0 < X.size) = True := eq_true (by omega)
   have hs1 : (1 ≤ (X.size : Int)) = True := eq_true (by omega)
   have hs2 : (0 < (X.size : Int)) = True := eq_true (by omega)
   have hs3 : (1 ≤ X.size) = True := eq_true (by omega)
   have hc4 : ((c : Int) < 256) = True := eq_true (by omega)
   have hc5 : (c < 256) = True := eq_true hc1
   have cm : wr.cell? ⟨q, 6 + c, none⟩ = some (.int .u8 (Gs.mpF c : Int)) := (blk_cell Fq.out (6 + c)).trans (Gs.gq_map _ _ _ c hc1)
   have HE := Aside0.mk he
   have HC2 := Aside0.mk hc2
   have HC1 := Aside0.mk hc1
   clear he hc2
   go_upto_region 12 with fail
   go_region
   have tc : wr.cell? ⟨T, 0, none⟩ = wr.cell? ⟨T, 0, none⟩ := rfl
   have m1 := Aside0.mk (show wr.drew.heap = w.heap from HH.out)
   have m2 := Aside0.mk (show Below w.heap.size w wr.drew from below_drew HB.out)
   clear tc
   obtain rfl : c = 92 := by have h := HX.out; have := HC2.out; have := HE.out; omega
   have hm : Gs.mpF 92 = 4 := rfl
   rw [hm]
   have ct : wr.cell? ⟨T, 4, none⟩ = some (Gs.ptr n1) := (blk_cell FT.out 4).trans rfl
   go_wp2
   go_roundg (gk - 1)
   first | exact ⟨m1, m2, rfl, rfl, rfl, rfl, .inr (.inl ⟨_, rfl, rfl, rfl, ⟨by have := HK.out; omega⟩, ⟨by unfold Gs.lkR; rw [if_neg HE.out]⟩⟩)⟩ | (have := HK.out; omega)
   have := HK.out
   omega
  ·
   have cn10 : wr.cell? ⟨n1, 0, none⟩ = some (.string Gs.nil0) := (blk_cell Fn1.out 0).trans rfl
   have cn11 : wr.cell? ⟨n1, 1, none⟩ = some (.int .i64 0) := (blk_cell Fn1.out 1).trans rfl
   have cn12 : wr.cell? ⟨n1, 2, none⟩ = some (.string Gs.nil0) := (blk_cell Fn1.out 2).trans rfl
   have cn13 : wr.cell? ⟨n1, 3, none⟩ = some (Gs.np) := (blk_cell Fn1.out 3).trans rfl
   have cn14 : wr.cell? ⟨n1, 4, none⟩ = some (.slice (some ⟨T1, 0, none⟩) 7 7) := (blk_cell Fn1.out 4).trans rfl
   have c5 : wr.cell? ⟨q, 5, none⟩ = some (.int .i64 7) := (blk_cell Fq.out 5).trans (Gs.root5 T)
   by_cases he : Y.size = 0
   ·have he2 : (Y.toList == []) = true := by rw [Gs.nil_eq]; exact decide_eq_true he
    have HR2 : Gs.lkR X = none := by rw [HR.out]; unfold Gs.lk1; rw [if_pos he]
    go_wp2
    refine bodyPost_ret (results_tmp3 rfl _ _ _) rfl ?_
    exact ⟨by rw [HR2]; rfl, HH.out, HB.out⟩
   have he2 : (Y.toList == []) = false := by rw [Gs.nil_eq]; exact decide_eq_false he
   obtain ⟨c, hc1, hc2, hc3⟩ := Gs.byte0 Y he
   have hs0 : (0 < Y.size) = True := eq_true (by omega)
   have hs1 : (1 ≤ (Y.size : Int)) = True := eq_true (by omega)
   have hs2 : (0 < (Y.size : Int)) = True := eq_true (by omega)
   have hs3 : (1 ≤ Y.size) = True := eq_true (by omega)
   have hc4 : ((c : Int) < 256) = True := eq_true (by omega)
   have hc5 : (c < 256) = True := eq_true hc1
   have cm : wr.cell? ⟨q, 6 + c, none⟩ = some (.int .u8 (Gs.mpF c : Int)) := (blk_cell Fq.out (6 + c)).trans (Gs.gq_map _ _ _ c hc1)
   have HE := Aside0.mk he
   have HC2 := Aside0.mk hc2
   have HC1 := Aside0.mk hc1
   clear he hc2
   go_upto_region 12 with fail
   go_region
   have tc : wr.cell? ⟨T1, 0, none⟩ = wr.cell? ⟨T1, 0, none⟩ := rfl
   have m1 := Aside0.mk (show wr.drew.heap = w.heap from HH.out)
   have m2 := Aside0.mk (show Below w.heap.size w wr.drew from below_drew HB.out)
   clear tc
   rcases Gs.mpF_or c with ⟨rfl, hm⟩ | ⟨rfl, hm⟩ | ⟨rfl, hm⟩ | ⟨rfl, hm⟩ | ⟨rfl, hm⟩ | ⟨rfl, hm⟩ | ⟨rfl, hm⟩ | ⟨hne, hm⟩
   ·
    rw [hm]
    have ct : wr.cell? ⟨T1, 0, none⟩ = some (Gs.ptr n3) := (blk_cell FT1.out 0).trans rfl
    go_wp2
    go_roundg (gk - 1)
    first | exact ⟨m1, m2, rfl, rfl, rfl, rfl, .inr (.inr (.inl ⟨_, rfl, rfl, rfl, ⟨by have := HK.out; omega⟩, ⟨by rw [HR.out]; unfold Gs.lk1; rw [if_neg HE.out, HC2.out]; rfl⟩⟩))⟩ | (have := HK.out; omega)
    have := HK.out
    omega
   ·
    rw [hm]
    have ct : wr.cell? ⟨T1, 1, none⟩ = some (Gs.ptr n6) := (blk_cell FT1.out 1).trans rfl
    go_wp2
    go_roundg (gk - 1)
    first | exact ⟨m1, m2, rfl, rfl, rfl, rfl, .inr (.inr (.inr (.inl ⟨_, rfl, rfl, rfl, ⟨by have := HK.out; omega⟩, ⟨by rw [HR.out]; unfold Gs.lk1; rw [if_neg HE.out, HC2.out]; rfl⟩⟩)))⟩ | (have := HK.out; omega)
    have := HK.out
    omega
   ·
    rw [hm]
    have ct : wr.cell? ⟨T1, 2, none⟩ = some (Gs.np) := (blk_cell FT1.out 2).trans rfl
    go_wp2
    go_roundg (gk - 1)
    first | exact ⟨m1, m2, rfl, rfl, rfl, rfl, .inr (.inr (.inr (.inr (.inr (⟨_, _, rfl, rfl, rfl, ⟨by rw [HR.out]; unfold Gs.lk1; rw [if_neg HE.out, HC2.out]; rfl⟩⟩)))))⟩ | (have := HK.out; omega)
    have := HK.out
    omega
   ·
    rw [hm]
    have ct : wr.cell? ⟨T1, 3, none⟩ = some (Gs.np) := (blk_cell FT1.out 3).trans rfl
    go_wp2
    go_roundg (gk - 1)
    first | exact ⟨m1, m2, rfl, rfl, rfl, rfl, .inr (.inr (.inr (.inr (.inr (⟨_, _, rfl, rfl, rfl, ⟨by rw [HR.out]; unfold Gs.lk1; rw [if_neg HE.out, HC2.out]; rfl⟩⟩)))))⟩ | (have := HK.out; omega)
    have := HK.out
    omega
   ·
    rw [hm]
    have ct : wr.cell? ⟨T1, 4, none⟩ = some (Gs.np) := (blk_cell FT1.out 4).trans rfl
    go_wp2
    go_roundg (gk - 1)
    first | exact ⟨m1, m2, rfl, rfl, rfl, rfl, .inr (.inr (.inr (.inr (.inr (⟨_, _, rfl, rfl, rfl, ⟨by rw [HR.out]; unfold Gs.lk1; rw [if_neg HE.out, HC2.out]; rfl⟩⟩)))))⟩ | (have := HK.out; omega)
    have := HK.out
    omega
   ·
    rw [hm]
    have ct : wr.cell? ⟨T1, 5, none⟩ = some (Gs.np) := (blk_cell FT1.out 5).trans rfl
    go_wp2
    go_roundg (gk - 1)
    first | exact ⟨m1, m2, rfl, rfl, rfl, rfl, .inr (.inr (.inr (.inr (.inr (⟨_, _, rfl, rfl, rfl, ⟨by rw [HR.out]; unfold Gs.lk1; rw [if_neg HE.out, HC2.out]; rfl⟩⟩)))))⟩ | (have := HK.out; omega)
    have := HK.out
    omega
   ·
    rw [hm]
    have ct : wr.cell? ⟨T1, 6, none⟩ = some (Gs.np) := (blk_cell FT1.out 6).trans rfl
    go_wp2
    go_roundg (gk - 1)
    first | exact ⟨m1, m2, rfl, rfl, rfl, rfl, .inr (.inr (.inr (.inr (.inr (⟨_, _, rfl, rfl, rfl, ⟨by rw [HR.out]; unfold Gs.lk1; rw [if_neg HE.out, HC2.out]; rfl⟩⟩)))))⟩ | (have := HK.out; omega)
    have := HK.out
    omega
   ·
    rw [hm]
    have HR2 : Gs.lkR X = none := by rw [HR.out]; unfold Gs.lk1; rw [if_neg HE.out, HC2.out]; rw [if_neg (by omega), if_neg (by omega)]
    go_wp2
    refine bodyPost_ret (results_tmp3 rfl _ _ _) rfl ?_
    exact ⟨by rw [HR2]; rfl, m1.out, m2.out⟩
  ·
   have cn30 : wr.cell? ⟨n3, 0, none⟩ = some (.string Gs.nil0) := (blk_cell Fn3.out 0).trans rfl
   have cn31 : wr.cell? ⟨n3, 1, none⟩ = some (.int .i64 0) := (blk_cell Fn3.out 1).trans rfl
   have cn32 : wr.cell? ⟨n3, 2, none⟩ = some (.string Gs.nil0) := (blk_cell Fn3.out 2).trans rfl
   have cn33 : wr.cell? ⟨n3, 3, none⟩ = some (Gs.np) := (blk_cell Fn3.out 3).trans rfl
   have cn34 : wr.cell? ⟨n3, 4, none⟩ = some (.slice (some ⟨T3, 0, none⟩) 7 7) := (blk_cell Fn3.out 4).trans rfl
   have c5 : wr.cell? ⟨q, 5, none⟩ = some (.int .i64 7) := (blk_cell Fq.out 5).trans (Gs.root5 T)
   by_cases he : Y.size = 0
   ·have he2 : (Y.toList == []) = true := by rw [Gs.nil_eq]; exact decide_eq_true he
    have HR2 : Gs.lkR X = none := by rw [HR.out]; unfold Gs.lk2; rw [if_pos he]
    go_wp2
    refine bodyPost_ret (results_tmp3 rfl _ _ _) rfl ?_
    exact ⟨by rw [HR2]; rfl, HH.out, HB.out⟩
   have he2 : (Y.toList == []) = false := by rw [Gs.nil_eq]; exact decide_eq_false he
   obtain ⟨c, hc1, hc2, hc3⟩ := Gs.byte0 Y he
   have hs0 : (0 < Y.size) = True := eq_true (by omega)
   have hs1 : (1 ≤ (Y.size : Int)) = True := eq_true (by omega)
   have hs2 : (0 < (Y.size : Int)) = True := eq_true (by omega)
   have hs3 : (1 ≤ Y.size) = True := eq_true (by omega)
   have hc4 : ((c : Int) < 256) = True := eq_true (by omega)
   have hc5 : (c < 256) = True := eq_true hc1
   have cm : wr.cell? ⟨q, 6 + c, none⟩ = some (.int .u8 (Gs.mpF c : Int)) := (blk_cell Fq.out (6 + c)).trans (Gs.gq_map _ _ _ c hc1)
   have HE := Aside0.mk he
   have HC2 := Aside0.mk hc2
   have HC1 := Aside0.mk hc1
   clear he hc2
   go_upto_region 12 with fail
   go_region
   have tc : wr.cell? ⟨T3, 0, none⟩ = wr.cell? ⟨T3, 0, none⟩ := rfl
   have m1 := Aside0.mk (show wr.drew.heap = w.heap from HH.out)
   have m2 := Aside0.mk (show Below w.heap.size w wr.drew from below_drew HB.out)
   clear tc
   rcases Gs.mpF_or c with ⟨rfl, hm⟩ | ⟨rfl, hm⟩ | ⟨rfl, hm⟩ | ⟨rfl, hm⟩ | ⟨rfl, hm⟩ | ⟨rfl, hm⟩ | ⟨rfl, hm⟩ | ⟨hne, hm⟩
   ·
    rw [hm]
    have ct : wr.cell? ⟨T3, 0, none⟩ = some (Gs.np) := (blk_cell FT3.out 0).trans rfl
    go_wp2
    go_roundg (gk - 1)
    first | exact ⟨m1, m2, rfl, rfl, rfl, rfl, .inr (.inr (.inr (.inr (.inr (⟨_, _, rfl, rfl, rfl, ⟨by rw [HR.out]; unfold Gs.lk2; rw [if_neg HE.out, HC2.out]; rfl⟩⟩)))))⟩ | (have := HK.out; omega)
    have := HK.out
    omega
   ·
    rw [hm]
    have ct : wr.cell? ⟨T3, 1, none⟩ = some (Gs.np) := (blk_cell FT3.out 1).trans rfl
    go_wp2
    go_roundg (gk - 1)
    first | exact ⟨m1, m2, rfl, rfl, rfl, rfl, .inr (.inr (.inr (.inr (.inr (⟨_, _, rfl, rfl, rfl, ⟨by rw [HR.out]; unfold Gs.lk2; rw [if_neg HE.out, HC2.out]; rfl⟩⟩)))))⟩ | (have := HK.out; omega)
    have := HK.out
    omega
   ·
    rw [hm]
    have ct : wr.cell? ⟨T3, 2, none⟩ = some (Gs.ptr n4) := (blk_cell FT3.out 2).trans rfl
    go_wp2
    go_roundg (gk - 1)
    first | exact ⟨m1, m2, rfl, rfl, rfl, rfl, .inr (.inr (.inr (.inr (.inl ⟨_, n4, _, _, rfl, rfl, rfl, ⟨by have := HK.out; omega⟩, Gn4, ⟨by decide⟩, ⟨40, by rw [HR.out]; unfold Gs.lk2; rw [if_neg HE.out, HC2.out]; rfl, rfl⟩⟩))))⟩ | (have := HK.out; omega)
    have := HK.out
    omega
   ·
    rw [hm]
    have ct : wr.cell? ⟨T3, 3, none⟩ = some (Gs.ptr n5) := (blk_cell FT3.out 3).trans rfl
    go_wp2
    go_roundg (gk - 1)
    first | exact ⟨m1, m2, rfl, rfl, rfl, rfl, .inr (.inr (.inr (.inr (.inl ⟨_, n5, _, _, rfl, rfl, rfl, ⟨by have := HK.out; omega⟩, Gn5, ⟨by decide⟩, ⟨41, by rw [HR.out]; unfold Gs.lk2; rw [if_neg HE.out, HC2.out]; rfl, rfl⟩⟩))))⟩ | (have := HK.out; omega)
    have := HK.out
    omega
   ·
    rw [hm]
    have ct : wr.cell? ⟨T3, 4, none⟩ = some (Gs.np) := (blk_cell FT3.out 4).trans rfl
    go_wp2
    go_roundg (gk - 1)
    first | exact ⟨m1, m2, rfl, rfl, rfl, rfl, .inr (.inr (.inr (.inr (.inr (⟨_, _, rfl, rfl, rfl, ⟨by rw [HR.out]; unfold Gs.lk2; rw [if_neg HE.out, HC2.out]; rfl⟩⟩)))))⟩ | (have := HK.out; omega)
    have := HK.out
    omega
   ·
    rw [hm]
    have ct : wr.cell? ⟨T3, 5, none⟩ = some (Gs.ptr n2) := (blk_cell FT3.out 5).trans rfl
    go_wp2
    go_roundg (gk - 1)
    first | exact ⟨m1, m2, rfl, rfl, rfl, rfl, .inr (.inr (.inr (.inr (.inl ⟨_, n2, _, _, rfl, rfl, rfl, ⟨by have := HK.out; omega⟩, Gn2, ⟨by decide⟩, ⟨42, by rw [HR.out]; unfold Gs.lk2; rw [if_neg HE.out, HC2.out]; rfl, rfl⟩⟩))))⟩ | (have := HK.out; omega)
    have := HK.out
    omega
   ·
    rw [hm]
    have ct : wr.cell? ⟨T3, 6, none⟩ = some (Gs.np) := (blk_cell FT3.out 6).trans rfl
    go_wp2
    go_roundg (gk - 1)
    first | exact ⟨m1, m2, rfl, rfl, rfl, rfl, .inr (.inr (.inr (.inr (.inr (⟨_, _, rfl, rfl, rfl, ⟨by rw [HR.out]; unfold Gs.lk2; rw [if_neg HE.out, HC2.out]; rfl⟩⟩)))))⟩ | (have := HK.out; omega)
    have := HK.out
    omega
   ·
    rw [hm]
    have HR2 : Gs.lkR X = none := by rw [HR.out]; unfold Gs.lk2; rw [if_neg HE.out, HC2.out]; rw [if_neg (by omega), if_neg (by omega), if_neg (by omega)]
    go_wp2
    refine bodyPost_ret (results_tmp3 rfl _ _ _) rfl ?_
    exact ⟨by rw [HR2]; rfl, m1.out, m2.out⟩
  ·
   have cn60 : wr.cell? ⟨n6, 0, none⟩ = some (.string Gs.nil0) := (blk_cell Fn6.out 0).trans rfl
   have cn61 : wr.cell? ⟨n6, 1, none⟩ = some (.int .i64 0) := (blk_cell Fn6.out 1).trans rfl
   have cn62 : wr.cell? ⟨n6, 2, none⟩ = some (.string ⟨#[99]⟩) := (blk_cell Fn6.out 2).trans rfl
   have cn63 : wr.cell? ⟨n6, 3, none⟩ = some (Gs.ptr n7) := (blk_cell Fn6.out 3).trans rfl
   have cn64 : wr.cell? ⟨n6, 4, none⟩ = some (Gs.ns) := (blk_cell Fn6.out 4).trans rfl
   by_cases he : Y.size = 0
   ·have he2 : (Y.toList == []) = true := by rw [Gs.nil_eq]; exact decide_eq_true he
    have HR2 : Gs.lkR X = none := by rw [HR.out]; unfold Gs.lk5; rw [if_pos he]
    go_wp2
    refine bodyPost_ret (results_tmp3 rfl _ _ _) rfl ?_
    exact ⟨by rw [HR2]; rfl, HH.out, HB.out⟩
   have he2 : (Y.toList == []) = false := by rw [Gs.nil_eq]; exact decide_eq_false he
   have hs1 : (1 ≤ (Y.size : Int)) = True := eq_true (by omega)
   have hs3 : (1 ≤ Y.size) = True := eq_true (by omega)
   have HE := Aside0.mk he
   by_cases hc : bt Y 0 = 99
   ·have hd : decide (bt Y 0 = 99) = true := decide_eq_true hc
    have HR2 := Aside0.mk (show Gs.lkR X = some 92 by rw [HR.out]; unfold Gs.lk5; rw [if_neg he, if_pos hc])
    clear he hc
    go_wp2_with (go_at_call 80; refine (Gs.hasC Y _ HE.out).mono ?_; rintro e w5 ⟨rfl, rfl⟩; rw [hd])
    go_roundg (gk - 1)
    first | exact ⟨HH, HB, rfl, rfl, rfl, rfl, .inr (.inr (.inr (.inr (.inl ⟨_, n7, _, _, rfl, rfl, rfl, ⟨by have := HK.out; omega⟩, Gn7, ⟨by decide⟩, ⟨92, HR2.out, rfl⟩⟩))))⟩ | (have := HK.out; omega)
    have := HK.out
    omega
   have hd : decide (bt Y 0 = 99) = false := decide_eq_false hc
   have HR2 := Aside0.mk (show Gs.lkR X = none by rw [HR.out]; unfold Gs.lk5; rw [if_neg he, if_neg hc])
   clear he hc
   go_wp2_with (go_at_call 80; refine (Gs.hasC Y _ HE.out).mono ?_; rintro e w5 ⟨rfl, rfl⟩; rw [hd])
   refine bodyPost_ret (results_tmp3 rfl _ _ _) rfl ?_
   exact ⟨by rw [HR2.out]; rfl, HH.out, HB.out⟩
  ·
   obtain ⟨c, hc1, rfl⟩ := HC.out
   have FL := Aside0.mk (show wr.heap[nL]? = some (Gs.lf ⟨#[UInt8.ofNat c]⟩ p) from by rw [HH.out]; exact HL.out)
   have hp1 : (0 < p) = True := eq_true HP.out
   have hp2 : decide (0 < p) = true := decide_eq_true HP.out
   have hp3 : (p > 0) = True := eq_true HP.out
   have hp4 : decide (p > 0) = true := decide_eq_true HP.out
   have cnL0 : wr.cell? ⟨nL, 0, none⟩ = some (.string ⟨#[UInt8.ofNat c]⟩) := (blk_cell FL.out 0).trans rfl
   have cnL1 : wr.cell? ⟨nL, 1, none⟩ = some (.int .i64 p) := (blk_cell FL.out 1).trans rfl
   have cnL2 : wr.cell? ⟨nL, 2, none⟩ = some (.string Gs.nil0) := (blk_cell FL.out 2).trans rfl
   have cnL3 : wr.cell? ⟨nL, 3, none⟩ = some (.pointer none) := (blk_cell FL.out 3).trans rfl
   have cnL4 : wr.cell? ⟨nL, 4, none⟩ = some (.slice none 0 0) := (blk_cell FL.out 4).trans rfl
   have HC1 := Aside0.mk hc1
   clear hc1
   by_cases he : Y.size = 0
   ·have he2 : (Y.toList == []) = true := by rw [Gs.nil_eq]; exact decide_eq_true he
    go_wp2
    refine bodyPost_ret (results_tmp3 rfl _ _ _) rfl ?_
    exact ⟨by rw [HC1.out]; rfl, HH.out, HB.out⟩
   have he2 : (Y.toList == []) = false := by rw [Gs.nil_eq]; exact decide_eq_false he
   go_wp2
   refine bodyPost_ret (results_tmp3 rfl _ _ _) rfl ?_
   exact ⟨by rw [HC1.out]; rfl, HH.out, HB.out⟩
  ·
   go_wp2
   refine bodyPost_ret (results_tmp3 rfl _ _ _) rfl ?_
   exact ⟨by rw [HR.out]; rfl, HH.out, HB.out⟩
def Gs.WS (w : World) (base g : Nat) (l : List Int) : Prop := base ≤ g ∧ base ≤ w.heap.size ∧ ∃ v, w.heap[g]? = some (.cells #[v] 280 (0, 0)) ∧ w.ownsRow base 5 1 v l.length (nums .u8 l)
theorem Gs.own_ne {w : World} {base n g : Nat} {v : Value} {xs : List Value} {cs : Array Value} (h : w.ownsRow base 5 1 v n xs) (hg : w.heap[g]? = some (.cells cs 280 (0, 0))) : some g ≠ v.ownBlock := by
 obtain ⟨-, ⟨rfl, -⟩ | ⟨k, cap, cur, rfl, -, hk, -⟩⟩ := h
 ·simp [Value.ownBlock]
 ·simp only [Value.ownBlock]
  intro e
  injection e with e
  subst e
  rw [hg] at hk
  simp at hk
theorem Gs.own_form {w : World} {base n : Nat} {v : Value} {xs : List Value} (h : w.ownsRow base 5 1 v n xs) : ∃ a m c, v = .slice a m c := by
 obtain ⟨-, ⟨rfl, -⟩ | ⟨k, cap, cur, rfl, -⟩⟩ := h
 ·exact ⟨_, _, _, rfl⟩
 ·exact ⟨_, _, _, rfl⟩
theorem Gs.WS_drew {w : World} {base g : Nat} {l : List Int} (h : Gs.WS w base g l) : Gs.WS w.drew base g l := h
set_option maxRecDepth 100000 in
set_option maxHeartbeats 4000000 in
theorem Gs.wstr (base g : Nat) (l : List Int) (y : ByteArray) (w : World) (hS : Gs.WS w base g l) (hl : l.length + y.size ≤ 140737488355328) :
  Calls Tryz.prog 274 #[Gs.ptr g, .string y] w fun e w' => e = .returned (.tuple #[.int .i64 (y.size : Int), .nilIface]) ∧ Gs.WS w' base g (l ++ bytesOf y) ∧ Below base w w' := by
 obtain ⟨hg, hb, v, hgv, ho⟩ := hS
 have hc : w.cell? ⟨g, 0, none⟩ = some v := (blk_cell hgv 0).trans rfl
 have HG := Aside0.mk hg
 have HB := Aside0.mk hb
 have HV := Aside0.mk hgv
 have HO := Aside0.mk ho
 have HL := Aside0.mk hl
 have i5 : (Tryz.prog.info? 5).map (fun i => (i.zero, i.size, i.bytes)) = some (some (.int .u8 0), 1, 1) := by kernel_rfl
 have u280 : Tryz.prog.underlying 280 = some (.slice 5) := by kernel_rfl
 have u9 : Tryz.prog.underlying 9 = some .string := by kernel_rfl
 have HI := Aside0.mk i5
 have HU := Aside0.mk u280
 have HU9 := Aside0.mk u9
 clear hg hb hgv ho hl i5 u280 u9
 go_enter Tryz.func274, Tryz.ntmps274
 go_upto_region 2 with (at_builtin; refine print_append_str (w0 := w) base rfl (.tmp 9) _ 280 9 5 rfl HU.out HU9.out HI.out v l y rfl rfl HO.out (Below.refl _ _) HB.out HL.out ?_; intro v1 w1 ho1 hb1 hg1; have HG1 := Aside0.mk (show w1.heap[g]? = some (.cells #[v] 280 (0, 0)) from (hg1.block g (blk_lt HV.out) (Gs.own_ne HO.out HV.out)).trans HV.out); obtain ⟨a1, m1, k1, rfl⟩ := Gs.own_form ho1; have HO1 := Aside0.mk ho1; have HB1 := Aside0.mk hb1; clear ho1 hb1 hg1; have hc1 : w1.cell? ⟨g, 0, none⟩ = some v := (blk_cell HG1.out 0).trans rfl; have hz1 := blk_frozen HG1.out 0)
 go_wp2
 refine bodyPost_ret (results_tmp2 rfl _ _ _) rfl ?_
 refine ⟨rfl, ⟨HG.out, ?_, _, blk_put HG1.out 0 _ rfl, own_setCell HO1.out (Gs.own_ne HO1.out HG1.out) _⟩, ?_⟩
 ·have := HB1.out.size
  have h2 := HB.out
  simpa [World.setCell] using Nat.le_trans h2 this
 ·exact HB1.out.setCell (p := ⟨g, 0, none⟩) HG.out _
set_option maxRecDepth 100000 in
set_option maxHeartbeats 4000000 in
theorem Gs.gsw (g : Nat) (w : World) : Calls Tryz.prog 260 #[.iface 281 (Gs.ptr g)] w fun e w' => e = .returned (.iface 281 (Gs.ptr g)) ∧ w' = w := by
 have hnot : ∀ (x : Bool) (w : World), (Op.unary .not (.bool x)).run Tryz.prog w = .ok (.bool (!x)) w := fun _ _ => rfl
 have hta : ∀ (w : World), (Instr.typeAssert (.iface 281 (Gs.ptr g)) 283 285 true).run Tryz.prog w = .ok (.tuple #[.iface 281 (Gs.ptr g), .bool true]) w := fun _ => by kernel_rfl
 go_enter Tryz.func260, Tryz.ntmps260
 go_wp2
 go_ret
 exact ⟨rfl, rfl⟩
def Gs.lkL : List Int → Option Nat
 | a :: b :: c :: _ => if a = 92 then (if b = 50 then (if c = 97 then some 42 else if c = 56 then some 40 else if c = 57 then some 41 else none) else if b = 53 then (if c = 99 then some 92 else none) else none) else none
 | _ => none
def Gs.unL : List Int → List Int
 | [] => []
 | c :: t => match Gs.lkL (c :: t) with
  | some d => (d : Int) :: Gs.unL (t.drop 2)
  | none => c :: Gs.unL t
termination_by l => l.length
decreasing_by all_goals simp; try omega
theorem Gs.unL_nil : Gs.unL [] = [] := by rw [Gs.unL]
theorem Gs.unL_none {c : Int} {t : List Int} (h : Gs.lkL (c :: t) = none) : Gs.unL (c :: t) = c :: Gs.unL t := by rw [Gs.unL, h]
theorem Gs.unL_some {c : Int} {t : List Int} {d : Nat} (h : Gs.lkL (c :: t) = some d) : Gs.unL (c :: t) = (d : Int) :: Gs.unL (t.drop 2) := by rw [Gs.unL, h]
theorem Gs.lkL_head {c : Int} {t : List Int} (h : c ≠ 92) : Gs.lkL (c :: t) = none := by
 match t with
 | [] => rfl
 | [_] => rfl
 | b :: d :: t => simp [Gs.lkL, h]
theorem Gs.lkL_len {l : List Int} {d : Nat} (h : Gs.lkL l = some d) : 3 ≤ l.length ∧ d < 256 := by
 match l with
 | [] => cases h
 | [_] => cases h
 | [_, _] => cases h
 | a :: b :: c :: t =>
  refine ⟨by simp, ?_⟩
  simp only [Gs.lkL] at h
  repeat' split at h
  all_goals first | (cases h; done) | (injection h with h; omega)
theorem Gs.bytesOf_tail (s : ByteArray) (i : Nat) : bytesOf (s.extract i s.size) = (bytesOf s).drop i := by
 unfold bytesOf
 rw [Go.Lib.extract_data, ← List.map_drop, List.take_of_length_le (by rw [List.length_drop, data_length]; omega)]
theorem Gs.bt_list (Y : ByteArray) : bt Y 0 = (bytesOf Y).headD 0 := by
 rw [← rd_bytesOf]
 unfold rd
 cases bytesOf Y <;> rfl
theorem Gs.size_list (Y : ByteArray) : (Y.size = 0) ↔ bytesOf Y = [] := by
 rw [← bytesOf_length, List.length_eq_zero_iff]
theorem Gs.lk2_L (Z : ByteArray) (a b : Int) (ha : a = 92) (hb : b = 50) : Gs.lk2 Z = Gs.lkL (a :: b :: bytesOf Z) := by
 unfold Gs.lk2
 rw [Gs.bt_list]
 by_cases h : Z.size = 0
 ·rw [if_pos h, (Gs.size_list Z).1 h]; rfl
 rw [if_neg h]
 cases hz : bytesOf Z with
 | nil => exact absurd ((Gs.size_list Z).2 hz) h
 | cons c t => subst ha; subst hb; rfl
theorem Gs.lk5_L (Z : ByteArray) (a b : Int) (ha : a = 92) (hb : b = 53) : Gs.lk5 Z = Gs.lkL (a :: b :: bytesOf Z) := by
 unfold Gs.lk5
 rw [Gs.bt_list]
 by_cases h : Z.size = 0
 ·rw [if_pos h, (Gs.size_list Z).1 h]; rfl
 rw [if_neg h]
 cases hz : bytesOf Z with
 | nil => exact absurd ((Gs.size_list Z).2 hz) h
 | cons c t => subst ha; subst hb; rfl
theorem Gs.lk1_L (Y : ByteArray) (a : Int) (ha : a = 92) : Gs.lk1 Y = Gs.lkL (a :: bytesOf Y) := by
 unfold Gs.lk1
 rw [Gs.bt_list]
 by_cases h : Y.size = 0
 ·rw [if_pos h, (Gs.size_list Y).1 h]; rfl
 rw [if_neg h]
 have ht := Gs.bytesOf_tail Y 1
 cases hz : bytesOf Y with
 | nil => exact absurd ((Gs.size_list Y).2 hz) h
 | cons b t =>
  rw [hz] at ht
  show (if b = 50 then Gs.lk2 (Y.extract 1 Y.size) else if b = 53 then Gs.lk5 (Y.extract 1 Y.size) else none) = _
  by_cases h1 : b = 50
  ·rw [if_pos h1, Gs.lk2_L _ a b ha h1, ht]; rfl
  rw [if_neg h1]
  by_cases h2 : b = 53
  ·rw [if_pos h2, Gs.lk5_L _ a b ha h2, ht]; rfl
  rw [if_neg h2]
  subst ha
  match t with
  | [] => rfl
  | c :: t => simp [Gs.lkL, h1, h2]
theorem Gs.lkR_L (X : ByteArray) (h : X.size = 0 ∨ bt X 0 = 92) : Gs.lkR X = Gs.lkL (bytesOf X) := by
 unfold Gs.lkR
 by_cases h0 : X.size = 0
 ·rw [if_pos h0, (Gs.size_list X).1 h0]; rfl
 rw [if_neg h0]
 have ht := Gs.bytesOf_tail X 1
 have hb := h.resolve_left h0
 rw [Gs.bt_list] at hb
 cases hz : bytesOf X with
 | nil => exact absurd ((Gs.size_list X).2 hz) h0
 | cons a t =>
  rw [hz] at ht hb
  rw [Gs.lk1_L _ a hb, ht]; rfl
def Gs.HU (s : ByteArray) (l : List Int) (last i : Nat) : Prop := last ≤ i ∧ i ≤ s.size ∧ l.length ≤ last ∧ Gs.unL (bytesOf s) = l ++ ((bytesOf s).drop last).take (i - last) ++ Gs.unL ((bytesOf s).drop i)
theorem Gs.HU_zero (s : ByteArray) : Gs.HU s [] 0 0 := ⟨Nat.le_refl _, Nat.zero_le _, Nat.le_refl _, by simp⟩
theorem Gs.HU_none {s : ByteArray} {l : List Int} {last i : Nat} (h : Gs.HU s l last i) (hi : i < s.size) (hn : Gs.lkL ((bytesOf s).drop i) = none) : Gs.HU s l last (i + 1) := by
 obtain ⟨h1, h2, h3, h4⟩ := h
 refine ⟨by omega, by omega, h3, ?_⟩
 have hl : i < (bytesOf s).length := by rw [bytesOf_length]; omega
 rw [List.drop_eq_getElem_cons hl] at hn h4
 rw [Gs.unL_none hn] at h4
 rw [h4]
 have e : ((bytesOf s).drop last).take (i + 1 - last) = ((bytesOf s).drop last).take (i - last) ++ [(bytesOf s)[i]] := by
  rw [show i + 1 - last = (i - last) + 1 by omega, List.take_succ_eq_append_getElem (by rw [List.length_drop]; omega)]
  congr 2
  rw [List.getElem_drop]
  congr 1
  omega
 rw [e]
 simp
theorem Gs.HU_some {s : ByteArray} {l : List Int} {last i d : Nat} (h : Gs.HU s l last i) (hn : Gs.lkL ((bytesOf s).drop i) = some d) : Gs.HU s (l ++ bytesOf (s.extract last i) ++ bytesOf ⟨#[UInt8.ofNat d]⟩) (i + 3) (i + 3) := by
 obtain ⟨h1, h2, h3, h4⟩ := h
 obtain ⟨h5, h6⟩ := Gs.lkL_len hn
 rw [List.length_drop, bytesOf_length] at h5
 have e0 : bytesOf (s.extract last i) = ((bytesOf s).drop last).take (i - last) := by
  unfold bytesOf
  rw [Go.Lib.extract_data, ← List.map_drop, ← List.map_take]
 have e1 : bytesOf (⟨#[UInt8.ofNat d]⟩ : ByteArray) = [(d : Int)] := by
  unfold bytesOf
  simp [UInt8.toNat_ofNat, Nat.mod_eq_of_lt h6]
 refine ⟨Nat.le_refl _, by omega, ?_, ?_⟩
 ·rw [List.length_append, List.length_append, e0, e1, List.length_take, List.length_drop, bytesOf_length]
  simp only [List.length_cons, List.length_nil]
  omega
 ·have hl : i < (bytesOf s).length := by rw [bytesOf_length]; omega
  rw [h4, e0, e1]
  rw [List.drop_eq_getElem_cons hl] at hn ⊢
  rw [Gs.unL_some hn, List.drop_drop, Nat.sub_self, List.take_zero, List.append_nil]
  simp [Nat.add_assoc]
theorem Gs.HU_end {s : ByteArray} {l : List Int} {last : Nat} (h : Gs.HU s l last s.size) : Gs.unL (bytesOf s) = l ++ bytesOf (s.extract last s.size) := by
 obtain ⟨h1, h2, h3, h4⟩ := h
 rw [h4, Gs.bytesOf_tail, List.drop_eq_nil_of_le (by rw [bytesOf_length]; omega : (bytesOf s).length ≤ s.size), Gs.unL_nil, List.append_nil, List.take_of_length_le (by rw [List.length_drop, bytesOf_length]; omega)]
theorem Gs.at_i (s : ByteArray) (i : Nat) (h : i < s.size) : ∃ c : Nat, c < 256 ∧ (∀ h : i < s.size, ((s[i]'h).toNat : Int) = (c : Int)) ∧ ∃ t, (bytesOf s).drop i = (c : Int) :: t := by
 refine ⟨(s[i]'h).toNat, (s[i]'h).toNat_lt, fun _ => rfl, (bytesOf s).drop (i + 1), ?_⟩
 rw [List.drop_eq_getElem_cons (by rw [bytesOf_length]; omega)]
 congr 1
 simp [bytesOf]
 rfl
theorem Gs.ext_size (s : ByteArray) (a b : Nat) : (s.extract a b).size ≤ s.size := by
 rw [← data_length, Go.Lib.extract_data, List.length_take, List.length_drop, data_length]
 omega
theorem Gs.WS_heap {w w1 : World} {base g : Nat} {l : List Int} (hh : w1.heap = w.heap) (h : Gs.WS w base g l) : Gs.WS w1 base g l := by
 unfold Gs.WS World.ownsRow at h ⊢
 rw [hh]
 exact h
theorem Gs.below_heap {w0 w w1 : World} {base : Nat} (hh : w1.heap = w.heap) (hb : Below w.heap.size w w1) (h : Below base w0 w) : Below base w0 w1 :=
 ⟨hb.os.trans h.os, hb.tape.trans h.tape, hb.output.trans h.output, by rw [hh]; exact h.size, fun k hk => by rw [hh]; exact h.block k hk⟩
theorem Gs.GT_keep {w w1 : World} {b q base : Nat} (h : Gs.GT w b q) (hb : Below base w w1) (hs : w.heap.size ≤ base) : Gs.GT w1 b q := by
 obtain ⟨T, h0, h1, n1, n2, n3, T3, n4, n5, T1, n6, n7, g0, a1, a2, a3, a4, a5, a6, a7, a8, a9, a10⟩ := h
 have m : ∀ {k : Nat} {o : Obj}, w.heap[k]? = some o → w1.heap[k]? = some o := fun hk => (hb.block _ (Nat.lt_of_lt_of_le (blk_lt hk) hs)).trans hk
 exact ⟨T, h0, m h1, n1, n2, n3, T3, n4, n5, T1, n6, n7, g0, m a1, m a2, m a3, m a4, m a5, m a6, m a7, m a8, m a9, m a10⟩
set_option maxRecDepth 100000 in
set_option maxHeartbeats 16000000 in
theorem Gs.wrs (q b base g : Nat) (s : ByteArray) (w0 w : World) (hG : Gs.GT w0 b q) (hw0 : w0.heap.size ≤ base) (hB : Below base w0 w) (hS : Gs.WS w base g []) (hs : s.size ≤ 40000000000000) :
  Calls Tryz.prog 259 #[Gs.ptr q, .iface 281 (Gs.ptr g), .string s] w fun e w' => (∃ u, e = .returned (.tuple #[.int .i64 u, .nilIface])) ∧ Gs.WS w' base g (Gs.unL (bytesOf s)) ∧ Below base w0 w' := by
 have hu := Tryz.underlying221
 have hv := Tryz.underlying223
 have hna : ∀ (w : World), (nilAhead 393 281 (Gs.ptr g) "WriteString").run Tryz.prog w = .ok (some false) w := fun _ => by kernel_rfl
 have hme : ∀ (w : World), (method 393 281 (Gs.ptr g) "WriteString").run Tryz.prog w = .ok (274, Gs.ptr g) w := fun _ => by kernel_rfl
 have hmf : ∀ (fn : Fn) (first cap : Array Value) (w : World), (Instr.makeFunc fn first cap).run Tryz.prog w = .ok (.func fn first cap) w := fun _ _ _ _ => rfl
 have HG := Aside0.mk hG
 have HW0 := Aside0.mk hw0
 have HB := Aside0.mk hB
 have HS := Aside0.mk hS
 have HSZ := Aside0.mk hs
 clear hG hw0 hB hS hs
 go_enter Tryz.func259, Tryz.ntmps259
 go_upto_region 5 with (go_at_call 260; refine (Gs.gsw g _).mono ?_; rintro e w5 ⟨rfl, rfl⟩)
 go_loopg [6, 7, 9, 11, 12] (s.size + 1) (fun kq v6 v7 v9 v11 v12 w' => ∃ (u : Int) (last i : Nat) (l : List Int), v6 = .int .i64 u ∧ v7 = .nilIface ∧ v9 = .int .i64 (last : Int) ∧ v11 = .bool false ∧ v12 = .int .i64 (i : Int) ∧ Aside0 (s.size + 1 ≤ kq + i) ∧ Aside0 (Gs.WS w' base g l) ∧ Aside0 (Below base w0 w') ∧ Aside0 ((i ≤ s.size ∧ Gs.HU s l last i) ∨ (i = s.size + 1 ∧ Gs.HU s l last s.size)))
 case atStart => exact ⟨0, 0, 0, [], rfl, rfl, rfl, rfl, rfl, ⟨Nat.le_refl _⟩, HS, HB, ⟨.inl ⟨Nat.zero_le _, Gs.HU_zero s⟩⟩⟩
 case round =>
  clear HS HB
  obtain ⟨u, last, i, l, rfl, rfl, rfl, rfl, rfl, HK, HS, HB, HU⟩ := hrel
  have HGW := Aside0.mk (Gs.GT_keep HG.out HB.out HW0.out)
  by_cases ci : i < s.size
  rotate_left
  ·by_cases ce : i = s.size
   ·have HU2 := Aside0.mk (show Gs.HU s l last s.size by rcases HU.out with h | h; (rw [← ce]; exact h.2); exact h.2)
    obtain ⟨T, Fq⟩ : ∃ T, Aside0 (wr.heap[q]? = some (Gs.root T)) := by
     obtain ⟨T, h0, h1, _⟩ := HGW.out
     exact ⟨T, ⟨h1⟩⟩
    subst ce
    have c1 : wr.cell? ⟨q, 1, none⟩ = some (.int .i64 0) := (blk_cell Fq.out 1).trans (Gs.gq_low _ _ _ 1 (by omega))
    have hX0 : ByteArray.empty.size = 0 := rfl
    have HX := Aside0.mk (show ByteArray.empty.size = 0 ∨ bt ByteArray.empty 0 = 92 from .inl hX0)
    have hR : Gs.lkR ByteArray.empty = none := by unfold Gs.lkR; rw [if_pos hX0]
    have hV : Gs.lkV (Gs.lkR ByteArray.empty) = ⟨#[]⟩ := by rw [hR]; rfl
    have hN : Gs.lkN (Gs.lkR ByteArray.empty) = 0 := by rw [hR]; rfl
    have hI : (Gs.lkR ByteArray.empty).isSome = false := by rw [hR]; rfl
    have hw : Aside0 (wrap64 ((s.size : Int) + 1) = ((s.size + 1 : Nat) : Int)) := ⟨by have := HSZ.out; unfold wrap64; omega⟩
    clear hR hX0 HU ci
    go_wp2_with (go_at_call 261; refine (Gs.lookup q b ByteArray.empty _ HGW.out HX.out).mono ?_; rintro e w5 ⟨rfl, hh5, hb5⟩; rw [hV, hN, hI]; have HH5 := Aside0.mk hh5; have HB5 := Aside0.mk hb5; clear hh5 hb5)
    go_roundg (gk - 1)
    first | exact ⟨u, last, s.size + 1, l, rfl, rfl, rfl, rfl, (by first | rfl | exact congrArg _ hw.out), ⟨by have := HK.out; omega⟩, ⟨Gs.WS_heap HH5.out HS.out⟩, ⟨Gs.below_heap HH5.out HB5.out HB.out⟩, ⟨.inr ⟨rfl, HU2.out⟩⟩⟩ | (have := HK.out; omega)
    have := HK.out
    omega
   ·have hU := (show i = s.size + 1 ∧ Gs.HU s l last s.size by rcases HU.out with h | h; exact absurd h.1 (by omega); exact h)
    obtain ⟨rfl, hU2⟩ := hU
    have HU2 := Aside0.mk hU2
    have hi1 : decide (((s.size + 1 : Nat) : Int) ≤ (s.size : Int)) = false := decide_eq_false (by omega)
    have hi2 : (((s.size + 1 : Nat) : Int) ≤ (s.size : Int)) = False := eq_false (by omega)
    have hi3 : decide ((s.size : Int) + 1 ≤ (s.size : Int)) = false := decide_eq_false (by omega)
    clear HU ci ce hU2
    have HEND := Aside0.mk (Gs.HU_end HU2.out)
    by_cases cl : last = s.size
    ·subst cl
     go_wp2
     refine bodyPost_ret (results_tmp2 rfl _ _ _) rfl ?_
     refine ⟨⟨_, rfl⟩, ?_, HB.out⟩
     have he := HEND.out
     rw [Gs.bytesOf_tail, List.drop_eq_nil_of_le (by rw [bytesOf_length]; omega), List.append_nil] at he
     rw [he]
     exact HS.out
    have hlt : last < s.size := by have := HU2.out.1; omega
    have hj1 : decide ((last : Int) = (s.size : Int)) = false := decide_eq_false (by omega)
    have hj2 : ((last : Int) = (s.size : Int)) = False := eq_false (by omega)
    have hj3 : (last = s.size) = False := eq_false (by omega)
    have hj5 : ((last : Int) == (s.size : Int)) = false := beq_eq_false_iff_ne.2 (by omega)
    have hl1 : decide ((last : Int) ≤ (s.size : Int)) = true := decide_eq_true (by omega)
    have hl2 : ((last : Int) ≤ (s.size : Int)) = True := eq_true (by omega)
    have hl3 : (last ≤ s.size) = True := eq_true (by omega)
    have hl4 : (0 ≤ (last : Int)) = True := eq_true (by omega)
    clear cl hlt
    go_upto_region 23 with fail
    go_region_with (go_at_call 274; refine (Gs.wstr base g l (s.extract last s.size) _ ?_ ?_).mono ?_; exact (show Gs.WS wr.drew base g l from HS.out); exact (by have := HU2.out.2.2.1; have := HU2.out.1; have := HSZ.out; have := Gs.ext_size s last s.size; omega); rintro e w6 ⟨rfl, hs6, hb6⟩)
    all_goals have HS6 := Aside0.mk hs6
    all_goals have HB6 := Aside0.mk ((show Below base w0 wr.drew from below_drew HB.out).trans hb6)
    all_goals clear hs6 hb6
    all_goals go_wp2
    all_goals refine bodyPost_ret (results_tmp2 rfl _ _ _) rfl ?_
    all_goals exact ⟨⟨_, rfl⟩, HEND.out ▸ HS6.out, HB6.out⟩
  have HU2 := Aside0.mk (show Gs.HU s l last i by rcases HU.out with h | h; exact h.2; exact absurd h.1 (by omega))
  have HCI := Aside0.mk ci
  obtain ⟨c, hc1, hx, t, ht⟩ := Gs.at_i s i ci
  obtain ⟨T, n1, Fq, FT⟩ : ∃ T n1, Aside0 (wr.heap[q]? = some (Gs.root T)) ∧ Aside0 (wr.heap[T]? = some (Gs.tab Gs.np Gs.np Gs.np Gs.np (Gs.ptr n1) Gs.np Gs.np)) := by
   obtain ⟨T, h0, h1, n1, n2, n3, T3, n4, n5, T1, n6, n7, g0, a1, _⟩ := HGW.out
   exact ⟨T, n1, ⟨h1⟩, ⟨a1⟩⟩
  have c1 : wr.cell? ⟨q, 1, none⟩ = some (.int .i64 0) := (blk_cell Fq.out 1).trans (Gs.gq_low _ _ _ 1 (by omega))
  have c4 : wr.cell? ⟨q, 4, none⟩ = some (.slice (some ⟨T, 0, none⟩) 7 7) := (blk_cell Fq.out 4).trans (Gs.root4 T)
  have c5 : wr.cell? ⟨q, 5, none⟩ = some (.int .i64 7) := (blk_cell Fq.out 5).trans (Gs.root5 T)
  have cm : wr.cell? ⟨q, 6 + c, none⟩ = some (.int .u8 (Gs.mpF c : Int)) := (blk_cell Fq.out (6 + c)).trans (Gs.gq_map _ _ _ c hc1)
  have hi1 : decide ((i : Int) ≤ (s.size : Int)) = true := decide_eq_true (by omega)
  have hi2 : ((i : Int) ≤ (s.size : Int)) = True := eq_true (by omega)
  have hi3 : ((i : Int) = (s.size : Int)) = False := eq_false (by omega)
  have hi4 : decide ((i : Int) = (s.size : Int)) = false := decide_eq_false (by omega)
  have hi5 : ((i : Int) == (s.size : Int)) = false := beq_eq_false_iff_ne.2 (by omega)
  have hi6 : ((i : Int) < (s.size : Int)) = True := eq_true (by omega)
  have hi7 : (i < s.size) = True := eq_true ci
  have hi8 : (0 ≤ (i : Int)) = True := eq_true (by omega)
  have hj1 : (i = s.size) = False := eq_false (by omega)
  have hj2 : (i ≤ s.size) = True := eq_true (by omega)
  have hc4 : ((c : Int) < 256) = True := eq_true (by omega)
  have hc5 : (c < 256) = True := eq_true hc1
  have hw : Aside0 (wrap64 ((i : Int) + 1) = ((i + 1 : Nat) : Int)) := ⟨by have := HSZ.out; unfold wrap64; omega⟩
  have hw3 : Aside0 (wrap64 ((i : Int) + 3) = ((i + 3 : Nat) : Int)) := ⟨by have := HSZ.out; unfold wrap64; omega⟩
  have HT := Aside0.mk ht
  have HC1 := Aside0.mk hc1
  clear ht hc1 ci HU
  go_upto_region 7 with fail
  go_region
  have m1 := Aside0.mk (show Gs.WS wr.drew base g l from HS.out)
  have m2 := Aside0.mk (show Below base w0 wr.drew from below_drew HB.out)
  clear cm c1
  rcases Gs.mpF_or c with ⟨rfl, hm⟩ | ⟨rfl, hm⟩ | ⟨rfl, hm⟩ | ⟨rfl, hm⟩ | ⟨rfl, hm⟩ | ⟨rfl, hm⟩ | ⟨rfl, hm⟩ | ⟨hne, hm⟩
  ·
   rw [hm, show wrap64 ((0 : Nat) : Int) = 0 from by unfold wrap64; omega]
   have ct : wr.cell? ⟨T, 0, none⟩ = some (Gs.np) := (blk_cell FT.out 0).trans rfl
   have m3 := Aside0.mk (Gs.HU_none HU2.out HCI.out (by rw [HT.out]; exact Gs.lkL_head (by decide)))
   go_wp2
   go_roundg (gk - 1)
   first | exact ⟨u, last, i + 1, l, rfl, rfl, rfl, rfl, (by first | rfl | exact congrArg _ hw.out), ⟨by have := HK.out; omega⟩, m1, m2, ⟨.inl ⟨by have := HCI.out; omega, m3.out⟩⟩⟩ | (have := HK.out; have := HCI.out; omega)
   have := HK.out
   have := HCI.out
   omega
  ·
   rw [hm, show wrap64 ((1 : Nat) : Int) = 1 from by unfold wrap64; omega]
   have ct : wr.cell? ⟨T, 1, none⟩ = some (Gs.np) := (blk_cell FT.out 1).trans rfl
   have m3 := Aside0.mk (Gs.HU_none HU2.out HCI.out (by rw [HT.out]; exact Gs.lkL_head (by decide)))
   go_wp2
   go_roundg (gk - 1)
   first | exact ⟨u, last, i + 1, l, rfl, rfl, rfl, rfl, (by first | rfl | exact congrArg _ hw.out), ⟨by have := HK.out; omega⟩, m1, m2, ⟨.inl ⟨by have := HCI.out; omega, m3.out⟩⟩⟩ | (have := HK.out; have := HCI.out; omega)
   have := HK.out
   have := HCI.out
   omega
  ·
   rw [hm, show wrap64 ((2 : Nat) : Int) = 2 from by unfold wrap64; omega]
   have ct : wr.cell? ⟨T, 2, none⟩ = some (Gs.np) := (blk_cell FT.out 2).trans rfl
   have m3 := Aside0.mk (Gs.HU_none HU2.out HCI.out (by rw [HT.out]; exact Gs.lkL_head (by decide)))
   go_wp2
   go_roundg (gk - 1)
   first | exact ⟨u, last, i + 1, l, rfl, rfl, rfl, rfl, (by first | rfl | exact congrArg _ hw.out), ⟨by have := HK.out; omega⟩, m1, m2, ⟨.inl ⟨by have := HCI.out; omega, m3.out⟩⟩⟩ | (have := HK.out; have := HCI.out; omega)
   have := HK.out
   have := HCI.out
   omega
  ·
   rw [hm, show wrap64 ((3 : Nat) : Int) = 3 from by unfold wrap64; omega]
   have ct : wr.cell? ⟨T, 3, none⟩ = some (Gs.np) := (blk_cell FT.out 3).trans rfl
   have m3 := Aside0.mk (Gs.HU_none HU2.out HCI.out (by rw [HT.out]; exact Gs.lkL_head (by decide)))
   go_wp2
   go_roundg (gk - 1)
   first | exact ⟨u, last, i + 1, l, rfl, rfl, rfl, rfl, (by first | rfl | exact congrArg _ hw.out), ⟨by have := HK.out; omega⟩, m1, m2, ⟨.inl ⟨by have := HCI.out; omega, m3.out⟩⟩⟩ | (have := HK.out; have := HCI.out; omega)
   have := HK.out
   have := HCI.out
   omega
  ·
   rw [hm, show wrap64 ((4 : Nat) : Int) = 4 from by unfold wrap64; omega]
   have ct : wr.cell? ⟨T, 4, none⟩ = some (Gs.ptr n1) := (blk_cell FT.out 4).trans rfl
   have hX : (s.extract i s.size).size = 0 ∨ bt (s.extract i s.size) 0 = 92 := .inr (by rw [Gs.bt_list, Gs.bytesOf_tail, HT.out]; rfl)
   have HX := Aside0.mk hX
   have hR := Gs.lkR_L _ hX
   rw [Gs.bytesOf_tail] at hR
   clear hX
   have HGD := Aside0.mk (show Gs.GT wr.drew b q from HGW.out)
   cases hlk : Gs.lkL ((bytesOf s).drop i) with
   | none =>
    rw [hlk] at hR
    have hV : Gs.lkV (Gs.lkR (s.extract i s.size)) = ⟨#[]⟩ := by rw [hR]; rfl
    have hN : Gs.lkN (Gs.lkR (s.extract i s.size)) = 0 := by rw [hR]; rfl
    have hI : (Gs.lkR (s.extract i s.size)).isSome = false := by rw [hR]; rfl
    have m3 := Aside0.mk (Gs.HU_none HU2.out HCI.out hlk)
    clear hR hlk
    go_wp2_with (go_at_call 261; refine (Gs.lookup q b (s.extract i s.size) _ HGD.out HX.out).mono ?_; rintro e w5 ⟨rfl, hh5, hb5⟩; rw [hV, hN, hI]; have HH5 := Aside0.mk hh5; have HB5 := Aside0.mk hb5; clear hh5 hb5)
    go_roundg (gk - 1)
    first | exact ⟨u, last, i + 1, l, rfl, rfl, rfl, rfl, (by first | rfl | exact congrArg _ hw.out), ⟨by have := HK.out; omega⟩, ⟨Gs.WS_heap HH5.out m1.out⟩, ⟨Gs.below_heap HH5.out HB5.out m2.out⟩, ⟨.inl ⟨by have := HCI.out; omega, m3.out⟩⟩⟩ | (have := HK.out; have := HCI.out; omega)
    have := HK.out
    have := HCI.out
    omega
   | some d =>
    rw [hlk] at hR
    have hV : Gs.lkV (Gs.lkR (s.extract i s.size)) = ⟨#[UInt8.ofNat d]⟩ := by rw [hR]; rfl
    have hN : Gs.lkN (Gs.lkR (s.extract i s.size)) = 3 := by rw [hR]; rfl
    have hI : (Gs.lkR (s.extract i s.size)).isSome = true := by rw [hR]; rfl
    have m3 := Aside0.mk (Gs.HU_some HU2.out hlk)
    clear hR hlk
    go_upto_region 13 with (go_at_call 261; refine (Gs.lookup q b (s.extract i s.size) _ HGD.out HX.out).mono ?_; rintro e w5 ⟨rfl, hh5, hb5⟩; rw [hV, hN, hI]; have HH5 := Aside0.mk hh5; have HB5 := Aside0.mk hb5; clear hh5 hb5)
    have hl1 : decide ((last : Int) ≤ (i : Int)) = true := decide_eq_true (by have := HU2.out.1; omega)
    have hl2 : ((last : Int) ≤ (i : Int)) = True := eq_true (by have := HU2.out.1; omega)
    have hl3 : (last ≤ i) = True := eq_true HU2.out.1
    have hl4 : (0 ≤ (last : Int)) = True := eq_true (by omega)
    have hm1 := Aside0.mk (show Gs.WS w5 base g l from Gs.WS_heap HH5.out m1.out)
    have hm2 := Aside0.mk (Gs.below_heap HH5.out HB5.out m2.out)
    go_region_with (go_at_call 274; refine (Gs.wstr base g l (s.extract last i) _ ?_ ?_).mono ?_; exact (show Gs.WS w5.drew base g l from hm1.out); exact (by have := HU2.out.2.2.1; have := HU2.out.1; have := HCI.out; have := HSZ.out; have := Gs.ext_size s last i; omega); rintro e w6 ⟨rfl, hs6, hb6⟩)
    all_goals have HS6 := Aside0.mk hs6
    all_goals have HB6 := Aside0.mk ((show Below base w0 w5.drew from below_drew hm2.out).trans hb6)
    all_goals clear hs6 hb6
    all_goals go_wp2_with (go_at_call 274; refine (Gs.wstr base g _ (⟨#[UInt8.ofNat d]⟩ : ByteArray) _ HS6.out ?hlen).mono ?_; (case hlen => (have h0 := m3.out.2.2.1; have h1 := m3.out.2.1; have h2 := HSZ.out; rw [List.length_append, bytesOf_length (⟨#[UInt8.ofNat d]⟩ : ByteArray)] at h0; omega)); rintro e w7 ⟨rfl, hs7, hb7⟩; have HS7 := Aside0.mk hs7; have HB7 := Aside0.mk (HB6.out.trans hb7); clear hs7 hb7)
    all_goals go_roundg (gk - 1)
    all_goals first | exact ⟨_, i + 3, i + 3, _, rfl, rfl, (by first | rfl | exact congrArg _ hw3.out), rfl, (by first | rfl | exact congrArg _ hw3.out), ⟨by have := HK.out; omega⟩, HS7, HB7, ⟨.inl ⟨m3.out.2.1, m3.out⟩⟩⟩ | (have := HK.out; have := HCI.out; omega)
  ·
   rw [hm, show wrap64 ((5 : Nat) : Int) = 5 from by unfold wrap64; omega]
   have ct : wr.cell? ⟨T, 5, none⟩ = some (Gs.np) := (blk_cell FT.out 5).trans rfl
   have m3 := Aside0.mk (Gs.HU_none HU2.out HCI.out (by rw [HT.out]; exact Gs.lkL_head (by decide)))
   go_wp2
   go_roundg (gk - 1)
   first | exact ⟨u, last, i + 1, l, rfl, rfl, rfl, rfl, (by first | rfl | exact congrArg _ hw.out), ⟨by have := HK.out; omega⟩, m1, m2, ⟨.inl ⟨by have := HCI.out; omega, m3.out⟩⟩⟩ | (have := HK.out; have := HCI.out; omega)
   have := HK.out
   have := HCI.out
   omega
  ·
   rw [hm, show wrap64 ((6 : Nat) : Int) = 6 from by unfold wrap64; omega]
   have ct : wr.cell? ⟨T, 6, none⟩ = some (Gs.np) := (blk_cell FT.out 6).trans rfl
   have m3 := Aside0.mk (Gs.HU_none HU2.out HCI.out (by rw [HT.out]; exact Gs.lkL_head (by decide)))
   go_wp2
   go_roundg (gk - 1)
   first | exact ⟨u, last, i + 1, l, rfl, rfl, rfl, rfl, (by first | rfl | exact congrArg _ hw.out), ⟨by have := HK.out; omega⟩, m1, m2, ⟨.inl ⟨by have := HCI.out; omega, m3.out⟩⟩⟩ | (have := HK.out; have := HCI.out; omega)
   have := HK.out
   have := HCI.out
   omega
  ·
   rw [hm, show wrap64 ((7 : Nat) : Int) = 7 from by unfold wrap64; omega]
   have m3 := Aside0.mk (Gs.HU_none HU2.out HCI.out (by rw [HT.out]; exact Gs.lkL_head (by omega)))
   go_wp2
   go_roundg (gk - 1)
   first | exact ⟨u, last, i + 1, l, rfl, rfl, rfl, rfl, (by first | rfl | exact congrArg _ hw.out), ⟨by have := HK.out; omega⟩, m1, m2, ⟨.inl ⟨by have := HCI.out; omega, m3.out⟩⟩⟩ | (have := HK.out; have := HCI.out; omega)
   have := HK.out
   have := HCI.out
   omega
def Gs.unm (s : ByteArray) : ByteArray := strOfNums (Gs.unL (bytesOf s))
theorem Gs.own_heap {w w1 : World} {base n : Nat} {v : Value} {xs : List Value} (h : w.ownsRow base 5 1 v n xs) (hb : ∀ k, k < w.heap.size → w1.heap[k]? = w.heap[k]?) : w1.ownsRow base 5 1 v n xs := by
 obtain ⟨h1, h2⟩ := h
 exact ⟨h1, h2.imp id fun ⟨g, cap, cur, he, hl, hk, hr⟩ => ⟨g, cap, cur, he, hl, (hb g (blk_lt hk)).trans hk, hr⟩⟩
theorem Gs.own_form2 {w : World} {base n : Nat} {v : Value} {xs : List Value} (h : w.ownsRow base 5 1 v n xs) : ∃ a c, v = .slice a n c := by
 obtain ⟨-, ⟨rfl, rfl⟩ | ⟨k, cap, cur, rfl, -⟩⟩ := h
 ·exact ⟨_, _, rfl⟩
 ·exact ⟨_, _, rfl⟩
theorem Gs.grown_below {w w1 : World} (h : w.grownBy w1 none) : Below w.heap.size w w1 := ⟨h.os, h.tape, h.output, h.size, fun k hk => h.block k hk (by simp)⟩
set_option maxRecDepth 100000 in
set_option maxHeartbeats 8000000 in
theorem Gs.grep (q b : Nat) (s : ByteArray) (w : World) (hG : Gs.GT w b q) (hs : s.size ≤ 40000000000000) :
  Calls Tryz.prog 258 #[Gs.ptr q, .string s] w fun e w' => e = .returned (.string (Gs.unm s)) ∧ Below w.heap.size w w' := by
 obtain ⟨i0, hi, hz0, hz1, hz2⟩ := info_parts (show (Tryz.prog.info? 5).map (fun i => (i.zero, i.size, i.bytes)) = some (some (.int .u8 0), 1, 1) from by kernel_rfl)
 obtain ⟨w1, hmk, ho1, hg1⟩ := run_make_own (P := Tryz.prog) w w.heap.size 280 5 i0 (.int .u8 0) 1 (by kernel_rfl) hi hz0 hz1 .i64 .i64 s.size (by rw [hz2]; omega) (by simp only [maxLen]; omega) (Nat.le_refl _)
 have HO := Aside0.mk ho1
 have HB1 := Aside0.mk (Gs.grown_below hg1)
 have HG := Aside0.mk hG
 have HSZ := Aside0.mk hs
 have u280 : Tryz.prog.underlying 280 = some (.slice 5) := by kernel_rfl
 have HU := Aside0.mk u280
 clear ho1 hg1 hG hs hi hz0 hz1 hz2 u280
 replace hmk : (Instr.makeSlice 280 (.int .i64 0) (.int .i64 (s.size : Int))).run Tryz.prog w = .ok (.slice (some ⟨w.heap.size, 0, none⟩) 0 s.size) w1 := hmk
 go_enter Tryz.func258, Tryz.ntmps258
 go_upto_region 2 with (((with_reducible refine gate_dst (N := 5) rfl ?_); refine box_event ?hg (N := 5) ?hd (cs := #[.slice none 0 0]) (t := 280) ?hr ?_; (case hd => rfl); (case hg => rfl); (case hr => first | (go_simp; done) | (go_simp; rfl)); intro g hg w2 hbox hb; have HGE := Aside0.mk (show w.heap.size ≤ g by rw [hg]; exact HB1.out.size); have HBX := Aside0.mk hbox; have HO2 := Aside0.mk (Gs.own_heap HO.out hb.block); have HB2 := Aside0.mk (below_step HB1.out hb); clear hbox hb hg; have hc0 : w2.cell? ⟨g, 0, none⟩ = some (.slice none 0 0) := (blk_cell HBX.out 0).trans rfl; have hz0 := blk_frozen HBX.out 0))
 have hne := Gs.own_ne HO2.out HBX.out
 have HWS := Aside0.mk (show Gs.WS (w2.setCell ⟨g, 0, none⟩ (.slice (some ⟨w.heap.size, 0, none⟩) 0 s.size)) w.heap.size g [] from ⟨HGE.out, by simpa [World.setCell] using HB2.out.size, _, blk_put HBX.out 0 _ rfl, own_setCell HO2.out hne _⟩)
 have HB3 := Aside0.mk (show Below w.heap.size w (w2.setCell ⟨g, 0, none⟩ (.slice (some ⟨w.heap.size, 0, none⟩) 0 s.size)) from HB2.out.setCell (p := ⟨g, 0, none⟩) HGE.out _)
 clear hne hc0 hz0 hmk
 go_upto_region 3 with (go_at_call 259; refine (Gs.wrs q b w.heap.size g s w _ HG.out (Nat.le_refl _) HB3.out HWS.out HSZ.out).mono ?_; rintro e w4 ⟨⟨u, rfl⟩, hs4, hb4⟩; have HS4 := Aside0.mk hs4; have HB4 := Aside0.mk hb4; clear hs4 hb4)
 obtain ⟨-, -, v, hgv, hov⟩ := HS4.out
 obtain ⟨A, c, rfl⟩ := Gs.own_form2 hov
 have hc0 : w4.cell? ⟨g, 0, none⟩ = some (.slice A (Gs.unL (bytesOf s)).length c) := (blk_cell hgv 0).trans rfl
 have hcv : (convert 280 9 (.slice A (Gs.unL (bytesOf s)).length c)).run Tryz.prog w4 = .ok (.string (Gs.unm s)) w4 := string_of_reads HU.out (by kernel_rfl) (by kernel_rfl) (own_reads' hov)
 clear hgv hov
 go_wp2
 go_ret
 exact ⟨rfl, HB4.out⟩
theorem Gs.GT_far {w : World} {base q b : Nat} (h : base ≤ q ∧ Gs.GT w base q) (hb : b < base) (i : Nat) (u : Value) : base ≤ q ∧ Gs.GT (w.setCell ⟨b, i, none⟩ u) base q := by
 obtain ⟨hq, T, h0, h1, n1, n2, n3, T3, n4, n5, T1, n6, n7, ⟨b1, b2, b3, b4, b5, b6, b7, b8, b9⟩, a1, a2, a3, a4, a5, a6, a7, a8, a9, a10⟩ := h
 have m : ∀ {k : Nat} {o : Obj}, base ≤ k → w.heap[k]? = some o → (w.setCell ⟨b, i, none⟩ u).heap[k]? = some o := fun hl hk => (Below.heap_setCell w ⟨b, i, none⟩ u _ (Nat.ne_of_gt (Nat.lt_of_lt_of_le hb hl))).trans hk
 exact ⟨hq, T, h0, m hq h1, n1, n2, n3, T3, n4, n5, T1, n6, n7, ⟨b1, b2, b3, b4, b5, b6, b7, b8, b9⟩, m h0 a1, m b1 a2, m b2 a3, m b3 a4, m b4 a5, m b5 a6, m b6 a7, m b7 a8, m b8 a9, m b9 a10⟩
set_option maxRecDepth 100000 in
set_option maxHeartbeats 16000000 in
theorem Gs.build2 (b t0 c2 : Nat) (w : World) (h4 : w.cell? ⟨b, 4, none⟩ = some (.slice (some ⟨t0, 0, none⟩) 8 c2)) (hcells : ∀ j x, Gs.ulits[j]? = some x → w.cell? ⟨t0, j, none⟩ = some (.string x)) :
  Calls Tryz.prog 149 #[.pointer (some ⟨b, 0, none⟩)] w fun e w' => ∃ (q : Nat), e = .returned (.iface 185 (.pointer (some ⟨q, 0, none⟩))) ∧ (w.heap.size ≤ q ∧ Gs.GT w' w.heap.size q) ∧ Below w.heap.size w w' := by
 have hu := Tryz.underlying144
 have e0 := hcells 0 _ rfl
 have HCL := Aside0.mk hcells
 clear hcells
 go_enter Tryz.func149, Tryz.ntmps149
 go_upto_region 6 with fail
 go_loopg [4, 5] 4 (fun kq v4 v5 w' => v5 = .int .i64 0 ∧ v4 = .bool true ∧ w' = w)
 case atStart => exact ⟨rfl, rfl, rfl⟩
 case round =>
  obtain ⟨rfl, rfl, hw⟩ := hrel
  replace hw := hw.symm
  subst hw
  go_wp2_with (go_at_call 175; refine (Gs.mkgen t0 c2 _ HCL.out).mono ?_; rintro e w1 ⟨q, hq0, rfl, hgt, hbl⟩; have HGT := Aside0.mk hgt; have HQ0 := Aside0.mk hq0; have HBL := Aside0.mk hbl; clear hgt hq0 hbl)
  go_ret
  exact ⟨q, rfl, ⟨HQ0.out, HGT.out⟩, HBL.out⟩
set_option maxRecDepth 100000 in
set_option maxHeartbeats 4000000 in
theorem Gs.buildOnce2 (b t0 c2 : Nat) (x0 x1 x2 : Value) (w : World) (hb : w.heap[b]? = some (.cells #[x0, x1, x2, .nilIface, .slice (some ⟨t0, 0, none⟩) 8 c2] 144 (0, 0))) (hcells : ∀ j x, Gs.ulits[j]? = some x → w.cell? ⟨t0, j, none⟩ = some (.string x)) :
  Calls Tryz.prog 112 #[.pointer (some ⟨b, 0, none⟩)] w fun e w' => e = .returned (.tuple #[]) ∧ ∃ q, w'.heap[b]? = some (.cells #[x0, x1, x2, .iface 185 (.pointer (some ⟨q, 0, none⟩)), .slice none 0 0] 144 (0, 0)) ∧ (w.heap.size ≤ q ∧ Gs.GT w' w.heap.size q) ∧ w.grownBy w' (some b) := by
 have hu := Tryz.underlying144
 have h4 : w.cell? ⟨b, 4, none⟩ = some (.slice (some ⟨t0, 0, none⟩) 8 c2) := (blk_cell hb 4).trans rfl
 have HBK := Aside0.mk hb
 have HCL := Aside0.mk hcells
 have H4 := Aside0.mk h4
 clear hb hcells h4
 go_enter Tryz.func112, Tryz.ntmps112
 go_wp2_with (go_at_call 149; refine (Gs.build2 b t0 c2 _ H4.out HCL.out).mono ?_; rintro e w1 ⟨q, rfl, hbs, hbl⟩; have HBS := Aside0.mk hbs; have HBL := Aside0.mk hbl; have HB2 := Aside0.mk (blk_below HBK.out hbl); clear hbs hbl; have hc3 : w1.cell? ⟨b, 3, none⟩ = some .nilIface := (blk_cell HB2.out 3).trans rfl; have hf3 := blk_frozen HB2.out 3; have hc4 : w1.cell? ⟨b, 4, none⟩ = some (.slice (some ⟨t0, 0, none⟩) 8 c2) := (blk_cell HB2.out 4).trans rfl; have hf4 := blk_frozen HB2.out 4)
 go_end0
 have hbw := blk_lt HBK.out
 refine ⟨rfl, q, ?_, ?_, ?_⟩
 ·refine blk_put (cs := #[x0, x1, x2, .iface 185 (.pointer (some ⟨q, 0, none⟩)), .slice (some ⟨t0, 0, none⟩) 8 c2]) ?_ 4 _ rfl
  refine blk_put (cs := #[x0, x1, x2, .nilIface, .slice (some ⟨t0, 0, none⟩) 8 c2]) ?_ 3 _ rfl
  exact HB2.out
 ·exact Gs.GT_far (Gs.GT_far HBS.out (blk_lt HBK.out) 3 _) (blk_lt HBK.out) 4 _
 ·refine ⟨HBL.out.os, HBL.out.tape, HBL.out.output, ?_, fun k hk hne => ?_⟩
  ·simpa [World.setCell] using HBL.out.size
  ·have hkb : k ≠ b := fun e => hne (by rw [e])
   exact (Below.heap_setCell _ ⟨b, 4, none⟩ _ k hkb).trans ((Below.heap_setCell _ ⟨b, 3, none⟩ _ k hkb).trans (HBL.out.block k hk))
theorem Gs.bonce2 (b t0 c2 : Nat) (w : World) (hb : w.heap[b]? = some (.cells #[.int .u32 0, .int .i32 0, .int .u32 0, .nilIface, .slice (some ⟨t0, 0, none⟩) 8 c2] 144 (0, 0))) (hcells : ∀ j x, Gs.ulits[j]? = some x → w.cell? ⟨t0, j, none⟩ = some (.string x)) (htb : t0 ≠ b) :
  Calls Tryz.prog 112 #[.pointer (some ⟨b, 0, none⟩)] (w.setCell ⟨b, 1, none⟩ (.int .i32 1)) fun e w' => e = .returned (.tuple #[]) ∧ w'.cell? ⟨b, 0, none⟩ = some (.int .u32 0) ∧ w'.cell? ⟨b, 1, none⟩ = some (.int .i32 1) ∧ w'.frozen? ⟨b, 0, none⟩ = false ∧ w'.frozen? ⟨b, 1, none⟩ = false ∧ ∃ q, w'.heap[b]? = some (.cells #[.int .u32 0, .int .i32 1, .int .u32 0, .iface 185 (.pointer (some ⟨q, 0, none⟩)), .slice none 0 0] 144 (0, 0)) ∧ (w.heap.size ≤ q ∧ Gs.GT w' w.heap.size q) ∧ w.grownBy w' (some b) := by
 have hb1 := blk_put hb 1 (.int .i32 1) (show _ = #[.int .u32 0, .int .i32 1, .int .u32 0, .nilIface, .slice (some ⟨t0, 0, none⟩) 8 c2] from rfl)
 have hsz : (w.setCell ⟨b, 1, none⟩ (.int .i32 1)).heap.size = w.heap.size := by simp [World.setCell]
 refine (Gs.buildOnce2 b t0 c2 _ _ _ _ hb1 (fun j x hx => (World.cell?_setCell_other _ ⟨b, 1, none⟩ ⟨t0, j, none⟩ _ (fun e => htb (by injection e with e1 e2 e3; exact e1.symm))).trans (hcells j x hx))).mono ?_
 rintro e w' ⟨rfl, q, hq, hbs, hgr⟩
 rw [hsz] at hbs
 refine ⟨rfl, (blk_cell hq 0).trans rfl, (blk_cell hq 1).trans rfl, blk_frozen hq 0, blk_frozen hq 1, q, hq, hbs, hgr.os, hgr.tape, hgr.output, by rw [← hsz]; exact hgr.size, fun k hk hne => ?_⟩
 exact (hgr.block k (by rw [hsz]; exact hk) hne).trans (Below.heap_setCell w ⟨b, 1, none⟩ _ k (fun e => hne (by rw [e])))
set_option maxRecDepth 100000 in
set_option maxHeartbeats 4000000 in
theorem Gs.replace2 (b t0 c2 : Nat) (s : ByteArray) (w : World) (hb : w.heap[b]? = some (.cells #[.int .u32 0, .int .i32 0, .int .u32 0, .nilIface, .slice (some ⟨t0, 0, none⟩) 8 c2] 144 (0, 0))) (hcells : ∀ j x, Gs.ulits[j]? = some x → w.cell? ⟨t0, j, none⟩ = some (.string x)) (htb : t0 ≠ b) (hs : s.size ≤ 40000000000000) :
  Calls Tryz.prog 78 #[.pointer (some ⟨b, 0, none⟩), .string s] w fun e w' => e = .returned (.string (Gs.unm s)) ∧ w.grownBy w' (some b) := by
 have hu := Tryz.underlying144
 have hm : ∀ (w : World) (q : Nat), (method 393 185 (.pointer (some ⟨q, 0, none⟩)) "Replace").run Tryz.prog w = .ok (258, .pointer (some ⟨q, 0, none⟩)) w := fun _ _ => by kernel_rfl
 have hmf : ∀ (fn : Fn) (first cap : Array Value) (w : World), (Instr.makeFunc fn first cap).run Tryz.prog w = .ok (.func fn first cap) w := fun _ _ _ _ => rfl
 have HBK := Aside0.mk hb
 have HCL := Aside0.mk hcells
 have HSZ := Aside0.mk hs
 have HTB := Aside0.mk htb
 clear hb hcells hs htb
 go_enter Tryz.func78, Tryz.ntmps78
 go_upto_region 2 with (go_at_call 111; refine (Gd.once b w (fun w' => ∃ q, w'.heap[b]? = some (.cells #[.int .u32 0, .int .i32 1, .int .u32 0, .iface 185 (.pointer (some ⟨q, 0, none⟩)), .slice none 0 0] 144 (0, 0)) ∧ (w.heap.size ≤ q ∧ Gs.GT w' w.heap.size q) ∧ w.grownBy w' (some b)) ((blk_cell HBK.out 0).trans rfl) ((blk_cell HBK.out 1).trans rfl) (blk_frozen HBK.out 0) (blk_frozen HBK.out 1) ?hf).mono ?_; (case hf => exact Gs.bonce2 b t0 c2 w HBK.out HCL.out HTB.out); rintro e w2 ⟨rfl, w1, ⟨q, hq, hbs, hgr⟩, rfl⟩)
 have hq2 : (((w1.setCell ⟨b, 0, none⟩ (.int .u32 1)).setCell ⟨b, 1, none⟩ (.int .i32 0)).drew).heap[b]? = some (.cells #[.int .u32 1, .int .i32 0, .int .u32 0, .iface 185 (.pointer (some ⟨q, 0, none⟩)), .slice none 0 0] 144 (0, 0)) := blk_drew (blk_put (blk_put hq 0 (.int .u32 1) (show _ = #[.int .u32 1, .int .i32 1, .int .u32 0, .iface 185 (.pointer (some ⟨q, 0, none⟩)), .slice none 0 0] from rfl)) 1 (.int .i32 0) rfl)
 have hbs2 : w.heap.size ≤ q ∧ Gs.GT (((w1.setCell ⟨b, 0, none⟩ (.int .u32 1)).setCell ⟨b, 1, none⟩ (.int .i32 0)).drew) w.heap.size q := Gs.GT_far (Gs.GT_far hbs (blk_lt HBK.out) 0 _) (blk_lt HBK.out) 1 _
 have hgr2 : w.grownBy (((w1.setCell ⟨b, 0, none⟩ (.int .u32 1)).setCell ⟨b, 1, none⟩ (.int .i32 0)).drew) (some b) := ⟨hgr.os, hgr.tape, hgr.output, by simpa [World.setCell] using hgr.size, fun k hk hne => by
  have hkb : k ≠ b := fun e => hne (by rw [e])
  exact (Below.heap_setCell _ ⟨b, 1, none⟩ _ k hkb).trans ((Below.heap_setCell _ ⟨b, 0, none⟩ _ k hkb).trans (hgr.block k hk hne))⟩
 clear hq hbs hgr
 generalize (((w1.setCell ⟨b, 0, none⟩ (.int .u32 1)).setCell ⟨b, 1, none⟩ (.int .i32 0)).drew) = w3 at hq2 hbs2 hgr2 ⊢
 have hc3 : w3.cell? ⟨b, 3, none⟩ = some (.iface 185 (.pointer (some ⟨q, 0, none⟩))) := (blk_cell hq2 3).trans rfl
 have HBS := Aside0.mk hbs2
 have HGR := Aside0.mk hgr2
 clear hq2 hbs2 hgr2
 go_wp2_with (go_at_call 258; refine (Gs.grep q _ s _ HBS.out.2 HSZ.out).mono ?_; rintro e w4 ⟨rfl, hb⟩; have HB4 := Aside0.mk hb; clear hb)
 go_ret
 exact ⟨rfl, HGR.out.os.symm ▸ HB4.out.os, HGR.out.tape.symm ▸ HB4.out.tape, HGR.out.output.symm ▸ HB4.out.output, Nat.le_trans HGR.out.size HB4.out.size, fun k hk hne => (HB4.out.block k (Nat.lt_of_lt_of_le hk HGR.out.size)).trans (HGR.out.block k hk hne)⟩
theorem Gs.ulitsC (w : World) (g : Nat) (hb : w.heap[g]? = some (.cells #[.string ⟨#[92, 50, 97]⟩, .string ⟨#[42]⟩, .string ⟨#[92, 50, 56]⟩, .string ⟨#[40]⟩, .string ⟨#[92, 50, 57]⟩, .string ⟨#[41]⟩, .string ⟨#[92, 53, 99]⟩, .string ⟨#[92]⟩] 9 (0, 0))) : Kd.C Kd.string w (some ⟨g, 0, none⟩) 8 Gs.ulits := by
 refine ⟨rfl, by decide, fun _ => ⟨⟨g, 0, none⟩, rfl, fun j p hp => ⟨[.string p], rfl, rfl, fun i u hu => ?_⟩⟩⟩
 cases i with
 | succ i => simp at hu
 | zero =>
  simp at hu
  subst hu
  have e1 : (⟨g, 0, none⟩ : Addr).add (j * Kd.string.sz + 0) = ⟨g, j, none⟩ := by simp [Addr.add, Kd.string, Kd.scalar, eq_comm]
  rw [e1, blk_cell hb j]
  have hj : j < 8 := (List.getElem?_eq_some_iff.1 hp).1
  rcases j with _ | _ | _ | _ | _ | _ | _ | _ | j
  all_goals first | (exfalso; omega) | (simp [Gs.ulits] at hp; subst hp; rfl)
theorem Gs.ulitsR {w : World} {base t c : Nat} {ok : Nat → Prop} {n : Nat} (h : Kd.R Kd.string 9 w base ok (.slice (some ⟨t, 0, none⟩) n c) Gs.ulits) : ∀ j x, Gs.ulits[j]? = some x → w.cell? ⟨t, j, none⟩ = some (.string x) := fun j x hx => by
 have hj : j < Gs.ulits.length := (List.getElem?_eq_some_iff.1 hx).1
 have h1 := (Kd.R_celln ByteArray.empty h (j : Int) (by omega) (by have := (Kd.R_reads' h).1; omega)).1
 unfold rdOf at h1
 rw [Int.toNat_natCast, List.getD_eq_getElem?_getD, hx] at h1
 exact h1
def Gs.f (a0 : ByteArray) : Option ByteArray := if a0.size ≤ 40000000000000 then some (Gs.unm a0) else none
set_option maxRecDepth 100000 in
set_option maxHeartbeats 8000000 in
theorem Gs.calls (a0 : ByteArray) (r : ByteArray) (w : World) (h : Gs.f a0 = some r) :
  Calls Tryz.prog 120 #[.string a0] w fun e w' => e = .returned (.string r) ∧ Below w.heap.size w w' := by
 unfold Gs.f at h
 by_cases hs : a0.size ≤ 40000000000000
 case neg => rw [if_neg hs] at h; cases h
 rw [if_pos hs] at h
 injection h with h
 subst h
 have HS := Aside0.mk hs
 clear hs
 have HL8 : Aside0 (Kd.C Kd.string (w.alloc (.cells #[.string ⟨#[92, 50, 97]⟩, .string ⟨#[42]⟩, .string ⟨#[92, 50, 56]⟩, .string ⟨#[40]⟩, .string ⟨#[92, 50, 57]⟩, .string ⟨#[41]⟩, .string ⟨#[92, 53, 99]⟩, .string ⟨#[92]⟩] 9)) (some ⟨w.heap.size, 0, none⟩) 8 Gs.ulits) := ⟨Gs.ulitsC _ _ (blk_new w _)⟩
 have HB3 := Aside0.mk (below_alloc (Below.refl w.heap.size w) (.cells #[.string ⟨#[92, 50, 97]⟩, .string ⟨#[42]⟩, .string ⟨#[92, 50, 56]⟩, .string ⟨#[40]⟩, .string ⟨#[92, 50, 57]⟩, .string ⟨#[41]⟩, .string ⟨#[92, 53, 99]⟩, .string ⟨#[92]⟩] 9))
 go_enter Tryz.func120, Tryz.ntmps120
 go_wp2_with (first | (go_at_call 77; refine (Gd.new (some ⟨w.heap.size, 0, none⟩) Gs.ulits _ rfl HL8.out).mono ?_; rintro e w3 ⟨b, v, rfl, hb0, hbb, hrow, hbl⟩; obtain ⟨t0, c2, ev_, _⟩ := Kd.R_form hrow (by decide); subst ev_; have HBB := Aside0.mk hbb; have HTB := Aside0.mk (hrow.1 t0 rfl); have HCL : Aside0 (∀ j x, Gs.ulits[j]? = some x → w3.cell? ⟨t0, j, none⟩ = some (.string x)) := ⟨Gs.ulitsR hrow⟩; have HB4 := Aside0.mk (below_step HB3.out hbl); have HWB := Aside0.mk (show w.heap.size ≤ b from Nat.le_trans (below_size HB3.out) hb0); clear hbb hrow hbl hb0) | (go_at_call 78; refine (Gs.replace2 b t0 c2 a0 _ HBB.out HCL.out HTB.out HS.out).mono ?_; rintro e w4 ⟨rfl, hgr⟩; have HB5 := Aside0.mk (Below.grown HB4.out hgr (below_size HB4.out) (fun k hk => by injection hk with hk; subst hk; exact HWB.out)); clear hgr))
 go_ret
 exact ⟨rfl, HB5.out⟩
end Go.Proofs.YtmkeigielncpjaaGreatDoor.PFnFilter
