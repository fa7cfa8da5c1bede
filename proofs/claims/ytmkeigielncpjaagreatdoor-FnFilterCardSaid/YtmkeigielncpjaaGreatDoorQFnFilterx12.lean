-- Laid by this session's own program out of the translation; Lean checks it.
import Derived.Test.YtmkeigielncpjaaGreatDoorQFnFilterx0
import Derived.Test.YtmkeigielncpjaaGreatDoorQFnFilterx11
import Derived.Conc.MuLone
import Derived.Lib.ConvBytes
import Derived.Laws.NewBlocks
import Derived.RegionCalls
import Derived.Deep.WholeRow
import Derived.WalkSpells
import Derived.Lib.CountLaws
import Derived.Lib.Bytealg
namespace Go.Proofs.YtmkeigielncpjaaGreatDoor.PFnFilter
open Go.RowKit Go.Proofs.YtmkeigielncpjaaGreatDoorW.PrintWords Go.Proofs.YtmkeigielncpjaaGreatDoorW.PrintLast Go.Proofs.YtmkeigielncpjaaGreatDoorW.PrintMore
attribute [local go_sem] max2_int min2_int max_two min_two max_three min_three max_four min_four   -- for this text's walks alone
set_option linter.unusedVariables false
set_option linter.unusedSimpArgs false
abbrev Gd.muLink : Go.Conc.Locks.MuLink := { lock := 171, unlock := 172, ilock := 198, iunlock := 199, lockSlow := 218, unlockSlow := 221, disable := 214, enable := 216, acquire := 217, relMerge := 219, cas32 := 215, add32 := 220, tMutex := 138, tIMutex := 136, tPMutex := 211, tPIMutex := 238, tPI32 := 240, tUP := 242, tNoCopy := 130, tU32 := 132 }
theorem Gd.muLib : Go.Conc.Locks.MuLib Tryz.prog Gd.muLink :=
 ⟨Tryz.func171, Tryz.func172, Tryz.func198, Tryz.func199, Tryz.func214, Tryz.func216, Tryz.func217, Tryz.func219, Tryz.func215, Tryz.func220, Tryz.underlying136, Tryz.runUnderlying136, Tryz.sizeOf136, Tryz.isAgg136, Tryz.zeroValue136, Tryz.underlying138, Tryz.runUnderlying138, Tryz.sizeOf138, Tryz.isAgg138, Tryz.zeroValue138, Tryz.underlying211, Tryz.runUnderlying211, Tryz.sizeOf211, Tryz.isAgg211, Tryz.zeroValue211, Tryz.underlying238, Tryz.runUnderlying238, Tryz.sizeOf238, Tryz.isAgg238, Tryz.zeroValue238, Tryz.underlying240, Tryz.runUnderlying240, Tryz.sizeOf240, Tryz.isAgg240, Tryz.zeroValue240, Tryz.underlying242, Tryz.runUnderlying242, Tryz.sizeOf242, Tryz.isAgg242, Tryz.zeroValue242, Tryz.underlying130, Tryz.runUnderlying130, Tryz.sizeOf130, Tryz.isAgg130, Tryz.zeroValue130, Tryz.underlying21, Tryz.runUnderlying21, Tryz.sizeOf21, Tryz.isAgg21, Tryz.zeroValue21, (by kernel_rfl)⟩
theorem Gd.store_deferred (a : Addr) (x : Value) (u : FrameMode) (w : World) (hc : w.cell? a = some x) (hz : w.frozen? a = false) :
  CallsD Tryz.prog 173 #[.pointer (some a), .bool true] u w fun e u' w' => u' = u ∧ (e = .returned (.tuple #[]) ∧ w' = w.drew.setCell a (.int .u32 1)) := by
 have hc' : w.drew.cell? a = some x := by go_simp
 have hz' : w.drew.frozen? a = false := by go_simp
 have hst := run_call_store (P := Tryz.prog) Tryz.func200 (by kernel_rfl) (by kernel_rfl) (by kernel_rfl) (by kernel_rfl) (k := .u32) (y := 1) hc' hz'
 go_enter_d Tryz.func173, Tryz.ntmps173
 go_wp2
 go_region_calls
 all_goals (go_end0; exact ⟨rfl, rfl⟩)
set_option maxRecDepth 100000 in
set_option maxHeartbeats 1600000 in
theorem Gd.slow (b : Nat) (w : World) (Q : World → Prop)
  (h0 : w.cell? ⟨b, 0, none⟩ = some (.int .u32 0)) (h1 : w.cell? ⟨b, 1, none⟩ = some (.int .i32 0)) (f0 : w.frozen? ⟨b, 0, none⟩ = false) (f1 : w.frozen? ⟨b, 1, none⟩ = false)
  (hf : Calls Tryz.prog 112 #[.pointer (some ⟨b, 0, none⟩)] (w.setCell ⟨b, 1, none⟩ (.int .i32 1)) fun e w' => e = .returned (.tuple #[]) ∧ w'.cell? ⟨b, 0, none⟩ = some (.int .u32 0) ∧ w'.cell? ⟨b, 1, none⟩ = some (.int .i32 1) ∧ w'.frozen? ⟨b, 0, none⟩ = false ∧ w'.frozen? ⟨b, 1, none⟩ = false ∧ Q w') :
  Calls Tryz.prog 148 #[.pointer (some ⟨b, 0, none⟩), .func (.func 112) #[.pointer (some ⟨b, 0, none⟩)] #[]] w fun e w'' => e = .returned (.tuple #[]) ∧ ∃ w', Q w' ∧ w'' = (w'.drew.setCell ⟨b, 0, none⟩ (.int .u32 1)).setCell ⟨b, 1, none⟩ (.int .i32 0) := by
 have hl := run_call_load (P := Tryz.prog) Tryz.func170 (by kernel_rfl) (by kernel_rfl) (by kernel_rfl) .u32 (by kernel_rfl) (w := w.setCell ⟨b, 1, none⟩ (.int .i32 1)) (a := ⟨b, 0, none⟩) (x := 0) ((World.cell?_setCell_other _ ⟨b, 1, none⟩ ⟨b, 0, none⟩ _ (by simp)).trans h0)
 have hnot : ∀ (x : Bool) (w : World), (Op.unary .not (.bool x)).run Tryz.prog w = .ok (.bool (!x)) w := fun _ _ => rfl
 have HF := Aside0.mk hf
 clear hf
 go_enter_defers Tryz.func148, Tryz.ntmps148
 go_wp2_with (go_at_call 171; refine (Go.MuLone.lock_free Gd.muLib ⟨b, 1, none⟩ _ (by go_simp) (by go_simp)).mono ?_; rintro e w' ⟨rfl, rfl⟩)
 go_wp2_with (first | (go_at_call 147; go_in) | (go_at_call 112; refine HF.out.mono ?_; rintro e w' ⟨rfl, c0, c1, z0, z1, hq⟩; have HQ := Aside0.mk hq; have C0 := Aside0.mk c0; have C1 := Aside0.mk c1; have Z0 := Aside0.mk z0; have Z1 := Aside0.mk z1; clear hq c0 c1 z0 z1))
 refine leaves_cons (f := 173) (args := #[.pointer (some ⟨b, 0, none⟩), .bool true]) (by simp) (by simp [go_sem]) ?_
 refine (Gd.store_deferred ⟨b, 0, none⟩ (.int .u32 0) .returning _ C0.out Z0.out).mono ?_
 rintro e u' w'' ⟨rfl, rfl, rfl⟩
 refine leaves_cons (f := 172) (args := #[.pointer (some ⟨b, 1, none⟩)]) (by simp [settle]) (by simp [go_sem]) ?_
 refine (Go.MuLone.unlock_deferred Gd.muLib ⟨b, 1, none⟩ _ _ ?_ (by simp [Z1.out])).mono ?_
 ·refine (World.cell?_setCell_other _ ⟨b, 0, none⟩ ⟨b, 1, none⟩ _ (by simp)).trans ?_
  rw [World.cell?_drew]
  exact C1.out
 rintro e u' w'' ⟨rfl, rfl, rfl⟩
 simp [Leaves, settle, results, Tryz.results148]
 exact ⟨w', HQ.out, rfl⟩
set_option maxRecDepth 100000 in
set_option maxHeartbeats 1600000 in
theorem Gd.once (b : Nat) (w : World) (Q : World → Prop)
  (h0 : w.cell? ⟨b, 0, none⟩ = some (.int .u32 0)) (h1 : w.cell? ⟨b, 1, none⟩ = some (.int .i32 0)) (f0 : w.frozen? ⟨b, 0, none⟩ = false) (f1 : w.frozen? ⟨b, 1, none⟩ = false)
  (hf : Calls Tryz.prog 112 #[.pointer (some ⟨b, 0, none⟩)] (w.setCell ⟨b, 1, none⟩ (.int .i32 1)) fun e w' => e = .returned (.tuple #[]) ∧ w'.cell? ⟨b, 0, none⟩ = some (.int .u32 0) ∧ w'.cell? ⟨b, 1, none⟩ = some (.int .i32 1) ∧ w'.frozen? ⟨b, 0, none⟩ = false ∧ w'.frozen? ⟨b, 1, none⟩ = false ∧ Q w') :
  Calls Tryz.prog 111 #[.pointer (some ⟨b, 0, none⟩), .func (.func 112) #[.pointer (some ⟨b, 0, none⟩)] #[]] w fun e w'' => e = .returned (.tuple #[]) ∧ ∃ w', Q w' ∧ w'' = (w'.drew.setCell ⟨b, 0, none⟩ (.int .u32 1)).setCell ⟨b, 1, none⟩ (.int .i32 0) := by
 have hl := run_call_load (P := Tryz.prog) Tryz.func170 (by kernel_rfl) (by kernel_rfl) (by kernel_rfl) .u32 (by kernel_rfl) h0
 have hnot : ∀ (x : Bool) (w : World), (Op.unary .not (.bool x)).run Tryz.prog w = .ok (.bool (!x)) w := fun _ _ => rfl
 have HF := Aside0.mk hf
 clear hf
 go_enter Tryz.func111, Tryz.ntmps111
 go_wp2_with (first | (go_at_call 148; refine (Gd.slow b _ Q h0 h1 f0 f1 HF.out).mono ?_; rintro e w' ⟨rfl, w1, hq, rfl⟩; have HQ := Aside0.mk hq; clear hq) | (go_at_call 147; go_in))
 go_end0
 exact ⟨rfl, _, HQ.out, rfl⟩
set_option maxRecDepth 100000 in
set_option maxHeartbeats 1600000 in
theorem Gd.new (A : Option Addr) (l : List ByteArray) (w : World) (hl8 : l.length = 8) (hr : Kd.C Kd.string w A 8 l) :
  Calls Tryz.prog 77 #[.slice A 8 8] w fun e w' => ∃ (b : Nat) (v : Value), e = .returned (.pointer (some ⟨b, 0, none⟩)) ∧ w.heap.size ≤ b ∧ w'.heap[b]? = some (.cells #[.int .u32 0, .int .i32 0, .int .u32 0, .nilIface, v] 144 (0, 0)) ∧ Kd.R Kd.string 9 w' w.heap.size (fun k => k ≠ b) v l ∧ Below w.heap.size w w' := by
 have hu := Tryz.underlying144
 have HB := Aside0.mk (Below.refl w.heap.size w)
 have HR := Aside0.mk hr
 clear hr
 go_enter Tryz.func77, Tryz.ntmps77
 go_wp2_with (first | ((with_reducible refine gate_builtin (b := .append) (xs := #[.const (.slice none 0 0), .tmp 8]) rfl ?_); at_builtin; (refine Kd.R_append_rows Kd.string (w0 := w) w.heap.size rfl (.const (.slice none 0 0)) (.tmp 8) 39 9 (.string ⟨#[]⟩) 16 rfl Tryz.underlying39 (by kernel_rfl) rfl (by decide) (by omega) (.slice none 0 0) [] l A 8 8 (fun _ => True) (fun _ => False) rfl rfl (Kd.R_nil _ _ _ _ _) HR.out (fun _ _ h => h) (fun _ h => h.elim) (fun _ _ => trivial) HB.out (Nat.le_refl _) (by simp) ?_; intro v w2 ho hb hg hat; rw [List.nil_append] at ho; obtain ⟨A2, c2, ev⟩ := Kd.R_slice ho; rw [hl8] at ev; subst ev; have HO := Aside0.mk ho; have n0_ := Aside0.mk hb; clear ho hb hg hat HB; have HB := n0_; clear n0_)) | ((with_reducible refine gate_dst (N := 11) rfl ?_); refine box_event ?hg (N := 11) ?hd (cs := #[.int .u32 0, .int .i32 0, .int .u32 0, .nilIface, .slice A2 8 c2]) (t := 144) ?hr ?_; (case hd => rfl); (case hg => rfl); (case hr => first | (go_simp; done) | (go_simp; rfl)); intro g hg w3 hbox hb; have BK := Aside0.mk hbox; have GE := Aside0.mk (show w.heap.size ≤ g by rw [hg]; exact below_size HB.out); have n0_ := Aside0.mk (below_step HB.out hb); have n1_ := Aside0.mk (Kd.R_mono (ok' := fun k => k ≠ g) (Kd.R_below (Kd.R_bound HO.out) hb) (fun k hk => by have := hk.2.2.1; omega)); clear HB HO hb hbox hg; have HB := n0_; have HO := n1_; clear n0_ n1_))
 go_ret
 exact ⟨g, _, rfl, GE.out, BK.out, HO.out, HB.out⟩
def Gd.Bw (w : World) (g : Nat) (l : List Int) : Prop := ∃ (cs : Array Value) (q : Nat), w.heap[g]? = some (.cells cs 5 (q, q + 1)) ∧ l.length ≤ q ∧ ∀ (j : Nat) (x : Int), l[j]? = some x → cs[j]? = some (Value.int .u8 x)
theorem Gd.Bw_cell {w : World} {g : Nat} {l : List Int} (h : Gd.Bw w g l) (i : Int) (h0 : 0 ≤ i) (h1 : i < l.length) : w.cell? ⟨g, i.toNat, none⟩ = some (.int .u8 (l.getD i.toNat 0)) := by
 obtain ⟨cs, q, hb, hq, hc⟩ := h
 have hi : i.toNat < l.length := by omega
 have := hc i.toNat _ (List.getElem?_eq_getElem hi)
 simp only [World.cell?, hb]
 rw [List.getD_eq_getElem?_getD, List.getElem?_eq_getElem hi]
 simpa using this
theorem Gd.Bw_move {w w1 : World} {g : Nat} {l : List Int} (h : Gd.Bw w g l) (hm : w1.heap[g]? = w.heap[g]?) : Gd.Bw w1 g l := by
 obtain ⟨cs, q, h1, h2, h3⟩ := h
 exact ⟨cs, q, hm.trans h1, h2, h3⟩
theorem Gd.Bw_lt {w : World} {g : Nat} {l : List Int} (h : Gd.Bw w g l) : g < w.heap.size := by
 obtain ⟨cs, q, h1, _⟩ := h
 exact blk_lt h1
theorem Gd.Bw_ne {w : World} {g g' t : Nat} {l : List Int} {cs : Array Value} (h : Gd.Bw w g l) (hb : w.heap[g']? = some (.cells cs t (0, 0))) : g ≠ g' := by
 obtain ⟨cs', q, h1, _⟩ := h
 rintro rfl
 rw [h1] at hb
 simp at hb
theorem Gd.Bw_C {w : World} {g : Nat} {l : List Int} (h : Gd.Bw w g l) (hm : l.length ≤ 9223372036854775807) : Kd.C (Kd.int .u8) w (some ⟨g, 0, none⟩) l.length l := by
 refine ⟨rfl, hm, fun _ => ⟨⟨g, 0, none⟩, rfl, fun j p hp => ⟨[.int .u8 p], rfl, rfl, fun i u hu => ?_⟩⟩⟩
 cases i with
 | succ i => simp at hu
 | zero =>
  simp at hu
  subst hu
  have hj : j < l.length := (List.getElem?_eq_some_iff.1 hp).1
  have h2 := Gd.Bw_cell h (j : Int) (by omega) (by omega)
  rw [Int.toNat_natCast, List.getD_eq_getElem?_getD, hp] at h2
  have e1 : (⟨g, 0, none⟩ : Addr).add (j * (Kd.int .u8).sz + 0) = ⟨g, j, none⟩ := by
   simp [Addr.add, Kd.int, Kd.scalar, eq_comm]
  rw [e1]; exact h2
theorem Gd.Bw_new (w : World) (s : ByteArray) : Gd.Bw (Lib.bytesWorld w 5 s) w.heap.size (bytesOf s) := by
 refine ⟨Lib.bytesCells w 5 s, (Lib.bytesCells w 5 s).size, Lib.bytesWorld_at_new w 5 s, ?_, ?_⟩
 ·simp [Lib.bytesCells, bytesOf]
 ·intro j x hx
  obtain ⟨hj, rfl⟩ := List.getElem?_eq_some_iff.1 hx
  have hj2 : j < s.data.size := by simpa [bytesOf] using hj
  have hj3 : j < s.size := hj2
  simp [Lib.bytesCells, bytesOf, Array.getElem?_append, hj3]
theorem Gd.bytesWorld_below (w : World) (e : TypeId) (s : ByteArray) : Below w.heap.size w (Lib.bytesWorld w e s) := by
 refine ⟨?_, ?_, ?_, by rw [Lib.bytesWorld_size]; omega, fun j hj => Lib.bytesWorld_at_old w e s j hj⟩ <;> simp [Lib.bytesWorld, World.freeze, World.alloc, World.drew, -World.alloc_eq, -World.drew_eq]
section
variable {P : Program} {ops : Array Oper} {rest : List Oper} {o : Oper} {a : Act} {Q : Exit → Act → World → Prop}
theorem Gd.bytes_event {W : World} (hgd : o.guard = none) {N : Tmp} (_hd : o.dst = some N) {s : ByteArray}
  (hrun : (execOp a.eval o).run P W = .ok (.value (.slice (some ⟨W.heap.size, 0, none⟩) s.size (grownCap W s.size 0 5))) (Lib.bytesWorld W 5 s))
  (h : ∀ g, g = W.heap.size → ∀ c w1, Gd.Bw w1 g (bytesOf s) → Below W.heap.size W w1 → wpList P ops Q rest (a.put o.dst (.slice (some ⟨g, 0, none⟩) s.size c)) w1) : wpList P ops Q (o :: rest) a W :=
 Kd.event_run hgd hrun (h _ rfl _ _ (Gd.Bw_new W s) (Gd.bytesWorld_below W 5 s))
end
def Gd.lits : List ByteArray := [⟨#[42]⟩, ⟨#[92, 50, 97]⟩, ⟨#[40]⟩, ⟨#[92, 50, 56]⟩, ⟨#[41]⟩, ⟨#[92, 50, 57]⟩, ⟨#[92]⟩, ⟨#[92, 53, 99]⟩]
def Gd.rpl (c : Nat) : List Int := if c = 42 then [92, 50, 97] else if c = 40 then [92, 50, 56] else if c = 41 then [92, 50, 57] else if c = 92 then [92, 53, 99] else []
def Gd.lv (c : Nat) : Nat := if c = 42 then 0 else if c = 40 then 1 else if c = 41 then 2 else if c = 92 then 3 else 4
def Gd.trs (m : Nat) : List ByteArray := ([⟨#[92]⟩, ⟨#[41]⟩, ⟨#[40]⟩, ⟨#[42]⟩] : List ByteArray).take (4 - m)
def Gd.BS (w : World) (base q m : Nat) : Prop := base ≤ q ∧ ∃ (cur : Array Value) (v : Value), w.heap[q]? = some (.cells cur 192 (0, 0)) ∧
 (∀ c, c < 256 → if m ≤ Gd.lv c ∧ Gd.lv c < 4 then ∃ s cap, cur[c]? = some (.slice (some ⟨s, 0, none⟩) 3 cap) ∧ base ≤ s ∧ Gd.Bw w s (Gd.rpl c) else cur[c]? = some (.slice none 0 0)) ∧ cur[256]? = some v ∧ Kd.R Kd.string 9 w base (fun _ => True) v (Gd.trs m)
theorem Gd.BS_below {w w1 : World} {base q m : Nat} (h : Gd.BS w base q m) (hb : Below w.heap.size w w1) : Gd.BS w1 base q m := by
 obtain ⟨h0, cur, v, h1, h2, h3, h4⟩ := h
 refine ⟨h0, cur, v, blk_below h1 hb, fun c hc => ?_, h3, Kd.R_below h4 hb⟩
 have h5 := h2 c hc
 by_cases hm : m ≤ Gd.lv c ∧ Gd.lv c < 4
 ·rw [if_pos hm] at h5 ⊢
  obtain ⟨s, cap, e1, e2, e3⟩ := h5
  exact ⟨s, cap, e1, e2, Gd.Bw_move e3 (hb.block s (Gd.Bw_lt e3))⟩
 rw [if_neg hm] at h5 ⊢
 exact h5
theorem Gd.BS_step {w w1 : World} {base q o s cap : Nat} {m : Nat} {cur : Array Value} {v v1 : Value} (h0 : base ≤ q) (hcur : w.heap[q]? = some (.cells cur 192 (0, 0)))
  (h2 : ∀ c, c < 256 → if m + 1 ≤ Gd.lv c ∧ Gd.lv c < 4 then ∃ s cap, cur[c]? = some (.slice (some ⟨s, 0, none⟩) 3 cap) ∧ base ≤ s ∧ Gd.Bw w s (Gd.rpl c) else cur[c]? = some (.slice none 0 0))
  (h3 : cur[256]? = some v) (hm : m < 4) (ho : o < 256) (hlo : Gd.lv o = m) (huniq : ∀ c, Gd.lv c = m → c = o)
  (h5 : w1.heap[q]? = some (.cells ((cur.setIfInBounds 256 v1).setIfInBounds o (.slice (some ⟨s, 0, none⟩) 3 cap)) 192 (0, 0)))
  (hs : base ≤ s) (hB : Gd.Bw w1 s (Gd.rpl o)) (hmv : ∀ g l, Gd.Bw w g l → Gd.Bw w1 g l) (hR : Kd.R Kd.string 9 w1 base (fun _ => True) v1 (Gd.trs m)) : Gd.BS w1 base q m := by
 have h256 : 256 < cur.size := (Array.getElem?_eq_some_iff.1 h3).1
 refine ⟨h0, _, v1, h5, fun c hc => ?_, ?_, hR⟩
 ·have h6 := h2 c hc
  by_cases hco : o = c
  ·subst hco
   rw [if_pos ⟨by omega, by omega⟩, Array.getElem?_setIfInBounds, if_pos rfl, if_pos (by simp; omega)]
   exact ⟨s, cap, rfl, hs, hB⟩
  have hget : ((cur.setIfInBounds 256 v1).setIfInBounds o (.slice (some ⟨s, 0, none⟩) 3 cap))[c]? = cur[c]? := by
   rw [Array.getElem?_setIfInBounds, if_neg hco, Array.getElem?_setIfInBounds, if_neg (by omega)]
  rw [hget]
  by_cases h7 : m + 1 ≤ Gd.lv c ∧ Gd.lv c < 4
  ·rw [if_pos h7] at h6
   rw [if_pos ⟨by omega, h7.2⟩]
   obtain ⟨s, cap, e1, e2, e3⟩ := h6
   exact ⟨s, cap, e1, e2, hmv _ _ e3⟩
  rw [if_neg h7] at h6
  rw [if_neg (fun h8 => by
   rcases Nat.lt_or_ge m (Gd.lv c) with h9 | h9
   ·exact h7 ⟨h9, h8.2⟩
   ·exact hco (huniq c (by omega)).symm)]
  exact h6
 ·rw [Array.getElem?_setIfInBounds, if_neg (by omega), Array.getElem?_setIfInBounds, if_pos rfl, if_pos h256]
theorem Gd.lv_uniq (c : Nat) : (Gd.lv c = 0 → c = 42) ∧ (Gd.lv c = 1 → c = 40) ∧ (Gd.lv c = 2 → c = 41) ∧ (Gd.lv c = 3 → c = 92) := by
 unfold Gd.lv
 refine ⟨?_, ?_, ?_, ?_⟩ <;> intro h <;> (repeat' split at h) <;> omega
theorem Gd.below_none {w w1 : World} (h : w.grownBy w1 none) : Below w.heap.size w w1 := ⟨h.os, h.tape, h.output, h.size, fun k hk => h.block k hk (by simp)⟩
theorem Gd.BS_far {w : World} {base q m b t : Nat} {cs : Array Value} (h : Gd.BS w base q m) (hb : w.heap[b]? = some (.cells cs t (0, 0))) (ht : t ≠ 192 ∧ t ≠ 9) (i : Nat) (u : Value) : Gd.BS (w.setCell ⟨b, i, none⟩ u) base q m := by
 obtain ⟨h0, cur, v, h1, h2, h3, h4⟩ := h
 refine ⟨h0, cur, v, blk_far h1 (p := ⟨b, i, none⟩) (blk_ne h1 hb (Ne.symm ht.1)) _, fun c hc => ?_, h3, Kd.R_mono (Kd.R_far (p := ⟨b, i, none⟩) (Kd.R_types h4 hb (fun q hq => by rw [List.mem_singleton.1 hq]; exact Ne.symm ht.2)) (fun _ hk => hk.2) u) (fun _ hk => hk.1)⟩
 have h5 := h2 c hc
 by_cases hm : m ≤ Gd.lv c ∧ Gd.lv c < 4
 ·rw [if_pos hm] at h5 ⊢
  obtain ⟨s, cap, e1, e2, e3⟩ := h5
  exact ⟨s, cap, e1, e2, Gd.Bw_move e3 (Below.heap_setCell _ ⟨b, i, none⟩ _ s (Gd.Bw_ne e3 hb))⟩
 rw [if_neg hm] at h5 ⊢
 exact h5
theorem Gd.BS_drew {w : World} {base q m : Nat} (h : Gd.BS w base q m) : Gd.BS w.drew base q m := h
set_option maxRecDepth 100000 in
set_option maxHeartbeats 16000000 in
theorem Gd.build (b t0 c2 : Nat) (w : World) (h4 : w.cell? ⟨b, 4, none⟩ = some (.slice (some ⟨t0, 0, none⟩) 8 c2)) (hcells : ∀ j x, Gd.lits[j]? = some x → w.cell? ⟨t0, j, none⟩ = some (.string x)) :
  Calls Tryz.prog 149 #[.pointer (some ⟨b, 0, none⟩)] w fun e w' => ∃ (q : Nat), e = .returned (.iface 193 (.pointer (some ⟨q, 0, none⟩))) ∧ Gd.BS w' w.heap.size q 0 ∧ Below w.heap.size w w' := by
 have hu := Tryz.underlying144
 have qT : ∀ (w : World) (a : Option Addr) (n c n' c' : Nat), (binOp .eql 35 (.slice a n c) (.slice none n' c')).run Tryz.prog w = .ok (.bool a.isNone) w := fun w a n c n' c' => Lib.run_eql_slice_nil w _ _ a n c n' c' Tryz.underlying35
 have hcs : ∀ (s : ByteArray) (w : World), (convert 9 35 (.string s)).run Tryz.prog w = .ok (.slice (some ⟨w.heap.size, 0, none⟩) s.size (grownCap w s.size 0 5)) (Lib.bytesWorld w 5 s) := fun s w => Lib.run_convert_string_bytes w 9 35 5 s Tryz.underlying9 Tryz.underlying35 Tryz.underlying5
 have e0 := hcells 0 _ rfl
 have e1 := hcells 1 _ rfl
 have e2 := hcells 2 _ rfl
 have e3 := hcells 3 _ rfl
 have e4 := hcells 4 _ rfl
 have e5 := hcells 5 _ rfl
 have e6 := hcells 6 _ rfl
 have e7 := hcells 7 _ rfl
 clear hcells
 go_enter Tryz.func149, Tryz.ntmps149
 go_upto_region 6 with fail
 go_loopg [4, 5] 4 (fun kq v4 v5 w' => ∃ (j : Nat), v5 = .int .i64 (2 * (j : Int)) ∧ v4 = .bool (j == 0) ∧ Aside0 (j + kq = 4) ∧ w' = w)
 case atStart => exact ⟨0, rfl, rfl, ⟨rfl⟩, rfl⟩
 case round =>
  obtain ⟨j, rfl, rfl, HJ, hw⟩ := hrel
  replace hw := hw.symm
  subst hw
  rcases Nat.lt_or_ge j 4 with hj | hj
  ·obtain rfl | rfl | rfl | rfl : j = 0 ∨ j = 1 ∨ j = 2 ∨ j = 3 := by omega
   all_goals go_wp2
   all_goals go_roundg (gk - 1)
   all_goals first
    | (have := HJ.out; omega)
    | exact ⟨1, rfl, rfl, ⟨by have := HJ.out; omega⟩, rfl⟩
    | exact ⟨2, rfl, rfl, ⟨by have := HJ.out; omega⟩, rfl⟩
    | exact ⟨3, rfl, rfl, ⟨by have := HJ.out; omega⟩, rfl⟩
    | exact ⟨4, rfl, rfl, ⟨by have := HJ.out; omega⟩, rfl⟩
  ·obtain rfl : j = 4 := by have := HJ.out; omega
   clear hj HJ
   have E0 := Aside0.mk e0
   have E1 := Aside0.mk e1
   have E2 := Aside0.mk e2
   have E3 := Aside0.mk e3
   have E4 := Aside0.mk e4
   have E5 := Aside0.mk e5
   have E6 := Aside0.mk e6
   have E7 := Aside0.mk e7
   clear e0 e1 e2 e3 e4 e5 e6 e7
   obtain ⟨i0, hi, hz0, hz1, hz2⟩ := info_parts (show (Tryz.prog.info? 9).map (fun i => (i.zero, i.size, i.bytes)) = some (some (.string ⟨#[]⟩), 1, 16) from by kernel_rfl)
   obtain ⟨w1, hmk, ho1, hg1⟩ := run_make_own (P := Tryz.prog) w w.heap.size 39 9 i0 (.string ⟨#[]⟩) 1 Tryz.underlying39 hi hz0 hz1 .i64 .i64 4 (by rw [hz2]; decide) (by decide) (Nat.le_refl _)
   have HO := Aside0.mk (show Kd.R Kd.string 9 w1 w.heap.size (fun _ => True) (.slice (some ⟨w.heap.size, 0, none⟩) 0 4) ([] : List ByteArray) from Kd.R_of_own ho1 (fun _ _ => trivial))
   have HG := Aside0.mk hg1
   replace hmk : (Instr.makeSlice 39 (.int .i64 0) (.int .i64 4)).run Tryz.prog w = .ok (.slice (some ⟨w.heap.size, 0, none⟩) 0 4) w1 := hmk
   have hst : (storeCells ⟨w1.heap.size, 0, none⟩ (Tryz.zeroCells192.toList.set 256 (.slice (some ⟨w.heap.size, 0, none⟩) 0 4)) 0).run Tryz.prog (w1.alloc (.cells Tryz.zeroCells192 192)) = .ok () (w1.alloc (.cells (Tryz.zeroCells192.toList.set 256 (.slice (some ⟨w.heap.size, 0, none⟩) 0 4)).toArray 192)) := by
    have := run_storeCells_new (P := Tryz.prog) w1 192 Tryz.zeroCells192 (Tryz.zeroCells192.toList.set 256 (.slice (some ⟨w.heap.size, 0, none⟩) 0 4)).toArray (by rw [show (Tryz.zeroCells192.toList.set 256 (.slice (some ⟨w.heap.size, 0, none⟩) 0 4)).toArray.size = 257 from by kernel_rfl]; kernel_rfl) (by kernel_rfl) (by kernel_rfl)
    exact this
   clear hi hz0 hz1 hz2 ho1 hg1
   go_upto_region 27 with fail
   have hzc : Tryz.zeroCells192 = Array.replicate 257 (.slice none 0 0) := by kernel_rfl
   have HS : Aside0 (Gd.BS (w1.alloc (.cells (Tryz.zeroCells192.toList.set 256 (.slice (some ⟨w.heap.size, 0, none⟩) 0 4)).toArray 192)) w.heap.size w1.heap.size 4) := ⟨by
    refine ⟨HG.out.size, _, .slice (some ⟨w.heap.size, 0, none⟩) 0 4, blk_new _ _, fun c hc => ?_, ?_, ?_⟩
    ·rw [if_neg (by omega)]
     rw [List.getElem?_toArray, List.getElem?_set, if_neg (by omega), hzc, Array.toList_replicate, List.getElem?_replicate, if_pos (by omega)]
    ·rw [List.getElem?_toArray, List.getElem?_set, if_pos rfl, if_pos (by rw [hzc]; simp)]
    ·exact Kd.R_below HO.out (below_alloc (Below.refl _ _) _)⟩
   have HB : Aside0 (Below w.heap.size w (w1.alloc (.cells (Tryz.zeroCells192.toList.set 256 (.slice (some ⟨w.heap.size, 0, none⟩) 0 4)).toArray 192))) := ⟨below_alloc (Gd.below_none HG.out) _⟩
   clear HO HG hst hmk hzc
   generalize w1.heap.size = q at HS ⊢
   generalize (w1.alloc (.cells (Tryz.zeroCells192.toList.set 256 (.slice (some ⟨w.heap.size, 0, none⟩) 0 4)).toArray 192)) = w2 at HS HB ⊢
   go_upto_region 28 with fail
   go_loopg [12] 4 (fun kq v12 w' => ∃ (m : Nat), v12 = .int .i64 (2 * (m : Int) - 2) ∧ Aside0 (m = kq ∧ m ≤ 4) ∧ Aside0 (Gd.BS w' w.heap.size q m) ∧ Aside0 (Below w.heap.size w w'))
   case atStart => exact ⟨4, rfl, ⟨rfl, by omega⟩, HS, HB⟩
   case round =>
    clear HS HB
    obtain ⟨m, rfl, HM, HS, HB⟩ := hrel
    have hm4 : m ≤ 4 := HM.out.2
    obtain rfl | rfl | rfl | rfl | rfl : m = 0 ∨ m = 1 ∨ m = 2 ∨ m = 3 ∨ m = 4 := by omega
    ·go_wp2
     go_ret
     exact ⟨q, rfl, HS.out, HB.out⟩
    ·obtain ⟨hbq, cur, v, hcur, hrep, h256, hrow⟩ := HS.out
     obtain ⟨A5, c5, ev⟩ := Kd.R_slice hrow
     subst ev
     rw [show (Gd.trs 1).length = 3 from rfl] at h256 hrow
     have hj_ := (HB.out.cell (World.block_lt_of_cell? w _ E0.out)).trans E0.out
     have hk_ := (HB.out.cell (World.block_lt_of_cell? w _ E1.out)).trans E1.out
     have hco : wr.cell? ⟨q, 42, none⟩ = some (.slice none 0 0) := (blk_cell hcur 42).trans (by have h := hrep 42 (by omega); rw [if_neg (by decide)] at h; exact h)
     have hfo := blk_frozen hcur 42
     have hby : ∀ h : 0 < (⟨#[42]⟩ : ByteArray).size, (((⟨#[42]⟩ : ByteArray)[0]'h).toNat : Int) = 42 := fun _ => rfl
     have hcv : wr.cell? ⟨q, 256, none⟩ = some (.slice A5 3 c5) := (blk_cell hcur 256).trans h256
     have hfv := blk_frozen hcur 256
     have HBQ := Aside0.mk hbq
     have HCUR := Aside0.mk hcur
     have HCUR0 := Aside0.mk hcur
     have HREP := Aside0.mk hrep
     have H256 := Aside0.mk h256
     have HROW := Aside0.mk hrow
     have HMV : Aside0 (∀ g l, Gd.Bw wr g l → Gd.Bw wr g l) := ⟨fun _ _ h => h⟩
     clear hbq hcur hrep h256 hrow HS
     go_upto_region 33 with fail
     clear hco hfo hj_
     go_upto_region 34 with (first | ((with_reducible refine gate_dst (N := 121) rfl ?_); refine Kd.R_lit (Kd.int .u8) _ 5 ?hg (N := 121) ?hd (xs := ([42] : List Int)) (inner := [.int .u8 42]) (ok := fun _ => True) (okp := fun _ => True) ?hr ?hp (fun _ hk => hk) trivial (Below.refl _ _) (Nat.le_refl _) (by simp) ?_; (case hd => rfl); (case hg => rfl); (case hr => first | (go_simp; done) | (go_simp; rfl)); (case hp => exact (Reps.one (show Kd.M (Kd.int .u8) _ _ _ 42 [.int .u8 42] from rfl) (Reps.none _ _))); intro v5 w5 ho6 hb hg_ hnew_; clear hg_ hnew_; have n0_ := Aside0.mk (below_step HB.out hb); have n1_ := Aside0.mk (blk_below HCUR.out hb); have n2_ := Aside0.mk (Kd.R_below HROW.out hb); have n3_ : Aside0 (∀ g l, Gd.Bw wr g l → Gd.Bw w5 g l) := ⟨fun g l h => Gd.Bw_move h (hb.block g (Gd.Bw_lt h))⟩; clear HB HCUR HROW HMV hcv hfv hb; have HB := n0_; have HCUR := n1_; have HROW := n2_; have HMV := n3_; clear n0_ n1_ n2_ n3_; have hcv7 := own_string (P := Tryz.prog) Tryz.underlying35 Tryz.underlying5 Tryz.underlying9 (Kd.own_of_R ho6); clear ho6; rw [show strOfNums [42] = (⟨#[42]⟩ : ByteArray) from rfl] at hcv7) | ((with_reducible refine gate_builtin (b := .append) (xs := #[.tmp 119, .tmp 123]) rfl ?_); at_builtin; refine Kd.R_append Kd.string (w0 := w) w.heap.size rfl (.tmp 119) (.tmp 123) 39 9 (.string ⟨#[]⟩) 16 rfl Tryz.underlying39 (by kernel_rfl) rfl (by decide) (by omega) (.slice A5 3 c5) (Gd.trs 1) (⟨#[42]⟩ : ByteArray) [.string ⟨#[42]⟩] (fun _ => True) (fun _ => False) rfl rfl ?aP (fun _ hk => hk.elim) ?aF ?aO ?aB ?aS ?aL ?_; (case aP => rfl); (case aF => exact fun _ _ => trivial); (case aO => exact HROW.out); (case aB => exact HB.out); (case aS => exact below_size HB.out); (case aL => decide); intro v9 w9 ho hb hg hat; have hne := Kd.R_ne HROW.out HCUR.out (by decide); have n0_ := Aside0.mk hb; have n1_ := Aside0.mk ((hg.block q (blk_lt HCUR.out) hne).trans HCUR.out); have n2_ := Aside0.mk (show Kd.R Kd.string 9 w9 w.heap.size (fun _ => True) v9 (Gd.trs 0) from ho); have n3_ : Aside0 (∀ g l, Gd.Bw wr g l → Gd.Bw w9 g l) := ⟨fun g l h => Gd.Bw_move (HMV.out g l h) (hg.block g (Gd.Bw_lt (HMV.out g l h)) (fun e => by obtain ⟨cells, hc⟩ := Kd.R_typed HROW.out g e.symm; exact Gd.Bw_ne (HMV.out g l h) hc rfl))⟩; clear HB HCUR HROW HMV ho hb hg hat hne; have HB := n0_; have HCUR := n1_; have HROW := n2_; have HMV := n3_; clear n0_ n1_ n2_ n3_; obtain ⟨A9, c9, ev9⟩ := Kd.R_slice HROW.out; subst ev9; have hcv : w9.cell? ⟨q, 256, none⟩ = some (.slice A5 3 c5) := (blk_cell HCUR.out 256).trans H256.out; have hfv := blk_frozen HCUR.out 256))
     have n0_ : Aside0 (Below w.heap.size w (w9.setCell ⟨q, 256, none⟩ (.slice A9 (Gd.trs 0).length c9))) := ⟨below_set HB.out HBQ.out⟩
     have n1_ := Aside0.mk (blk_set HCUR.out 256 (.slice A9 (Gd.trs 0).length c9))
     have n2_ := Aside0.mk (Kd.R_mono (Kd.R_far (p := ⟨q, 256, none⟩) (Kd.R_types HROW.out HCUR.out (by decide)) (fun _ hk => hk.2) (.slice A9 (Gd.trs 0).length c9)) (fun _ hk => hk.1))
     have n3_ : Aside0 (∀ g l, Gd.Bw wr g l → Gd.Bw (w9.setCell ⟨q, 256, none⟩ (.slice A9 (Gd.trs 0).length c9)) g l) := ⟨fun g l h => Gd.Bw_move (HMV.out g l h) (Below.heap_setCell _ ⟨q, 256, none⟩ _ g (Gd.Bw_ne (HMV.out g l h) HCUR.out))⟩
     clear HB HCUR HROW HMV hcv hfv
     generalize w9.setCell ⟨q, 256, none⟩ (.slice A9 (Gd.trs 0).length c9) = w10 at n0_ n1_ n2_ n3_ ⊢
     have HB := n0_
     have HCUR := n1_
     have HROW := n2_
     have HMV := n3_
     clear n0_ n1_ n2_ n3_
     go_wp2_with ((with_reducible refine gate_dst (N := 128) rfl ?_); refine Gd.bytes_event ?hg (N := 128) ?hd (s := (⟨#[92, 50, 97]⟩ : ByteArray)) ?hr ?_; (case hd => rfl); (case hg => rfl); (case hr => first | (go_simp; done) | (go_simp; rfl)); intro s hs c12 w12 hBw hb; have HSB := Aside0.mk (show w.heap.size ≤ s by rw [hs]; exact below_size HB.out); have HSW := Aside0.mk (show Gd.Bw w12 s (Gd.rpl 42) from hBw); have n0_ := Aside0.mk (below_step HB.out hb); have n1_ := Aside0.mk (blk_below HCUR.out hb); have n2_ := Aside0.mk (Kd.R_below HROW.out hb); have n3_ : Aside0 (∀ g l, Gd.Bw wr g l → Gd.Bw w12 g l) := ⟨fun g l h => Gd.Bw_move (HMV.out g l h) (hb.block g (Gd.Bw_lt (HMV.out g l h)))⟩; clear HB HCUR HROW HMV hb hs hBw; have HB := n0_; have HCUR := n1_; have HROW := n2_; have HMV := n3_; clear n0_ n1_ n2_ n3_; have hco : w12.cell? ⟨q, 42, none⟩ = some (.slice none 0 0) := (blk_cell HCUR.out 42).trans (by rw [Array.getElem?_setIfInBounds, if_neg (by omega)]; have h := HREP.out 42 (by omega); rw [if_neg (by decide)] at h; exact h); have hfo := blk_frozen HCUR.out 42)
     go_roundg (gk - 1)
     case measure => have := HM.out.1; omega
     case rel => exact ⟨0, rfl, ⟨by have := HM.out.1; omega, by omega⟩, ⟨Gd.BS_step HBQ.out HCUR0.out HREP.out H256.out (by omega) (by omega) rfl (fun c hc => (Gd.lv_uniq c).1 hc) (blk_set HCUR.out 42 _) HSB.out (Gd.Bw_move HSW.out (Below.heap_setCell _ ⟨q, 42, none⟩ _ s (Gd.Bw_ne HSW.out HCUR.out))) (fun g l h => Gd.Bw_move (HMV.out g l h) (Below.heap_setCell _ ⟨q, 42, none⟩ _ g (Gd.Bw_ne (HMV.out g l h) HCUR.out))) (Kd.R_mono (Kd.R_far (p := ⟨q, 42, none⟩) (Kd.R_types HROW.out HCUR.out (by decide)) (fun _ hk => hk.2) _) (fun _ hk => hk.1))⟩, ⟨below_set HB.out HBQ.out⟩⟩
    ·obtain ⟨hbq, cur, v, hcur, hrep, h256, hrow⟩ := HS.out
     obtain ⟨A5, c5, ev⟩ := Kd.R_slice hrow
     subst ev
     rw [show (Gd.trs 2).length = 2 from rfl] at h256 hrow
     have hj_ := (HB.out.cell (World.block_lt_of_cell? w _ E2.out)).trans E2.out
     have hk_ := (HB.out.cell (World.block_lt_of_cell? w _ E3.out)).trans E3.out
     have hco : wr.cell? ⟨q, 40, none⟩ = some (.slice none 0 0) := (blk_cell hcur 40).trans (by have h := hrep 40 (by omega); rw [if_neg (by decide)] at h; exact h)
     have hfo := blk_frozen hcur 40
     have hby : ∀ h : 0 < (⟨#[40]⟩ : ByteArray).size, (((⟨#[40]⟩ : ByteArray)[0]'h).toNat : Int) = 40 := fun _ => rfl
     have hcv : wr.cell? ⟨q, 256, none⟩ = some (.slice A5 2 c5) := (blk_cell hcur 256).trans h256
     have hfv := blk_frozen hcur 256
     have HBQ := Aside0.mk hbq
     have HCUR := Aside0.mk hcur
     have HCUR0 := Aside0.mk hcur
     have HREP := Aside0.mk hrep
     have H256 := Aside0.mk h256
     have HROW := Aside0.mk hrow
     have HMV : Aside0 (∀ g l, Gd.Bw wr g l → Gd.Bw wr g l) := ⟨fun _ _ h => h⟩
     clear hbq hcur hrep h256 hrow HS
     go_upto_region 33 with fail
     clear hco hfo hj_
     go_upto_region 34 with (first | ((with_reducible refine gate_dst (N := 121) rfl ?_); refine Kd.R_lit (Kd.int .u8) _ 5 ?hg (N := 121) ?hd (xs := ([40] : List Int)) (inner := [.int .u8 40]) (ok := fun _ => True) (okp := fun _ => True) ?hr ?hp (fun _ hk => hk) trivial (Below.refl _ _) (Nat.le_refl _) (by simp) ?_; (case hd => rfl); (case hg => rfl); (case hr => first | (go_simp; done) | (go_simp; rfl)); (case hp => exact (Reps.one (show Kd.M (Kd.int .u8) _ _ _ 40 [.int .u8 40] from rfl) (Reps.none _ _))); intro v5 w5 ho6 hb hg_ hnew_; clear hg_ hnew_; have n0_ := Aside0.mk (below_step HB.out hb); have n1_ := Aside0.mk (blk_below HCUR.out hb); have n2_ := Aside0.mk (Kd.R_below HROW.out hb); have n3_ : Aside0 (∀ g l, Gd.Bw wr g l → Gd.Bw w5 g l) := ⟨fun g l h => Gd.Bw_move h (hb.block g (Gd.Bw_lt h))⟩; clear HB HCUR HROW HMV hcv hfv hb; have HB := n0_; have HCUR := n1_; have HROW := n2_; have HMV := n3_; clear n0_ n1_ n2_ n3_; have hcv7 := own_string (P := Tryz.prog) Tryz.underlying35 Tryz.underlying5 Tryz.underlying9 (Kd.own_of_R ho6); clear ho6; rw [show strOfNums [40] = (⟨#[40]⟩ : ByteArray) from rfl] at hcv7) | ((with_reducible refine gate_builtin (b := .append) (xs := #[.tmp 119, .tmp 123]) rfl ?_); at_builtin; refine Kd.R_append Kd.string (w0 := w) w.heap.size rfl (.tmp 119) (.tmp 123) 39 9 (.string ⟨#[]⟩) 16 rfl Tryz.underlying39 (by kernel_rfl) rfl (by decide) (by omega) (.slice A5 2 c5) (Gd.trs 2) (⟨#[40]⟩ : ByteArray) [.string ⟨#[40]⟩] (fun _ => True) (fun _ => False) rfl rfl ?aP (fun _ hk => hk.elim) ?aF ?aO ?aB ?aS ?aL ?_; (case aP => rfl); (case aF => exact fun _ _ => trivial); (case aO => exact HROW.out); (case aB => exact HB.out); (case aS => exact below_size HB.out); (case aL => decide); intro v9 w9 ho hb hg hat; have hne := Kd.R_ne HROW.out HCUR.out (by decide); have n0_ := Aside0.mk hb; have n1_ := Aside0.mk ((hg.block q (blk_lt HCUR.out) hne).trans HCUR.out); have n2_ := Aside0.mk (show Kd.R Kd.string 9 w9 w.heap.size (fun _ => True) v9 (Gd.trs 1) from ho); have n3_ : Aside0 (∀ g l, Gd.Bw wr g l → Gd.Bw w9 g l) := ⟨fun g l h => Gd.Bw_move (HMV.out g l h) (hg.block g (Gd.Bw_lt (HMV.out g l h)) (fun e => by obtain ⟨cells, hc⟩ := Kd.R_typed HROW.out g e.symm; exact Gd.Bw_ne (HMV.out g l h) hc rfl))⟩; clear HB HCUR HROW HMV ho hb hg hat hne; have HB := n0_; have HCUR := n1_; have HROW := n2_; have HMV := n3_; clear n0_ n1_ n2_ n3_; obtain ⟨A9, c9, ev9⟩ := Kd.R_slice HROW.out; subst ev9; have hcv : w9.cell? ⟨q, 256, none⟩ = some (.slice A5 2 c5) := (blk_cell HCUR.out 256).trans H256.out; have hfv := blk_frozen HCUR.out 256))
     have n0_ : Aside0 (Below w.heap.size w (w9.setCell ⟨q, 256, none⟩ (.slice A9 (Gd.trs 1).length c9))) := ⟨below_set HB.out HBQ.out⟩
     have n1_ := Aside0.mk (blk_set HCUR.out 256 (.slice A9 (Gd.trs 1).length c9))
     have n2_ := Aside0.mk (Kd.R_mono (Kd.R_far (p := ⟨q, 256, none⟩) (Kd.R_types HROW.out HCUR.out (by decide)) (fun _ hk => hk.2) (.slice A9 (Gd.trs 1).length c9)) (fun _ hk => hk.1))
     have n3_ : Aside0 (∀ g l, Gd.Bw wr g l → Gd.Bw (w9.setCell ⟨q, 256, none⟩ (.slice A9 (Gd.trs 1).length c9)) g l) := ⟨fun g l h => Gd.Bw_move (HMV.out g l h) (Below.heap_setCell _ ⟨q, 256, none⟩ _ g (Gd.Bw_ne (HMV.out g l h) HCUR.out))⟩
     clear HB HCUR HROW HMV hcv hfv
     generalize w9.setCell ⟨q, 256, none⟩ (.slice A9 (Gd.trs 1).length c9) = w10 at n0_ n1_ n2_ n3_ ⊢
     have HB := n0_
     have HCUR := n1_
     have HROW := n2_
     have HMV := n3_
     clear n0_ n1_ n2_ n3_
     go_wp2_with ((with_reducible refine gate_dst (N := 128) rfl ?_); refine Gd.bytes_event ?hg (N := 128) ?hd (s := (⟨#[92, 50, 56]⟩ : ByteArray)) ?hr ?_; (case hd => rfl); (case hg => rfl); (case hr => first | (go_simp; done) | (go_simp; rfl)); intro s hs c12 w12 hBw hb; have HSB := Aside0.mk (show w.heap.size ≤ s by rw [hs]; exact below_size HB.out); have HSW := Aside0.mk (show Gd.Bw w12 s (Gd.rpl 40) from hBw); have n0_ := Aside0.mk (below_step HB.out hb); have n1_ := Aside0.mk (blk_below HCUR.out hb); have n2_ := Aside0.mk (Kd.R_below HROW.out hb); have n3_ : Aside0 (∀ g l, Gd.Bw wr g l → Gd.Bw w12 g l) := ⟨fun g l h => Gd.Bw_move (HMV.out g l h) (hb.block g (Gd.Bw_lt (HMV.out g l h)))⟩; clear HB HCUR HROW HMV hb hs hBw; have HB := n0_; have HCUR := n1_; have HROW := n2_; have HMV := n3_; clear n0_ n1_ n2_ n3_; have hco : w12.cell? ⟨q, 40, none⟩ = some (.slice none 0 0) := (blk_cell HCUR.out 40).trans (by rw [Array.getElem?_setIfInBounds, if_neg (by omega)]; have h := HREP.out 40 (by omega); rw [if_neg (by decide)] at h; exact h); have hfo := blk_frozen HCUR.out 40)
     go_roundg (gk - 1)
     case measure => have := HM.out.1; omega
     case rel => exact ⟨1, rfl, ⟨by have := HM.out.1; omega, by omega⟩, ⟨Gd.BS_step HBQ.out HCUR0.out HREP.out H256.out (by omega) (by omega) rfl (fun c hc => (Gd.lv_uniq c).2.1 hc) (blk_set HCUR.out 40 _) HSB.out (Gd.Bw_move HSW.out (Below.heap_setCell _ ⟨q, 40, none⟩ _ s (Gd.Bw_ne HSW.out HCUR.out))) (fun g l h => Gd.Bw_move (HMV.out g l h) (Below.heap_setCell _ ⟨q, 40, none⟩ _ g (Gd.Bw_ne (HMV.out g l h) HCUR.out))) (Kd.R_mono (Kd.R_far (p := ⟨q, 40, none⟩) (Kd.R_types HROW.out HCUR.out (by decide)) (fun _ hk => hk.2) _) (fun _ hk => hk.1))⟩, ⟨below_set HB.out HBQ.out⟩⟩
    ·obtain ⟨hbq, cur, v, hcur, hrep, h256, hrow⟩ := HS.out
     obtain ⟨A5, c5, ev⟩ := Kd.R_slice hrow
     subst ev
     rw [show (Gd.trs 3).length = 1 from rfl] at h256 hrow
     have hj_ := (HB.out.cell (World.block_lt_of_cell? w _ E4.out)).trans E4.out
     have hk_ := (HB.out.cell (World.block_lt_of_cell? w _ E5.out)).trans E5.out
     have hco : wr.cell? ⟨q, 41, none⟩ = some (.slice none 0 0) := (blk_cell hcur 41).trans (by have h := hrep 41 (by omega); rw [if_neg (by decide)] at h; exact h)
     have hfo := blk_frozen hcur 41
     have hby : ∀ h : 0 < (⟨#[41]⟩ : ByteArray).size, (((⟨#[41]⟩ : ByteArray)[0]'h).toNat : Int) = 41 := fun _ => rfl
     have hcv : wr.cell? ⟨q, 256, none⟩ = some (.slice A5 1 c5) := (blk_cell hcur 256).trans h256
     have hfv := blk_frozen hcur 256
     have HBQ := Aside0.mk hbq
     have HCUR := Aside0.mk hcur
     have HCUR0 := Aside0.mk hcur
     have HREP := Aside0.mk hrep
     have H256 := Aside0.mk h256
     have HROW := Aside0.mk hrow
     have HMV : Aside0 (∀ g l, Gd.Bw wr g l → Gd.Bw wr g l) := ⟨fun _ _ h => h⟩
     clear hbq hcur hrep h256 hrow HS
     go_upto_region 33 with fail
     clear hco hfo hj_
     go_upto_region 34 with (first | ((with_reducible refine gate_dst (N := 121) rfl ?_); refine Kd.R_lit (Kd.int .u8) _ 5 ?hg (N := 121) ?hd (xs := ([41] : List Int)) (inner := [.int .u8 41]) (ok := fun _ => True) (okp := fun _ => True) ?hr ?hp (fun _ hk => hk) trivial (Below.refl _ _) (Nat.le_refl _) (by simp) ?_; (case hd => rfl); (case hg => rfl); (case hr => first | (go_simp; done) | (go_simp; rfl)); (case hp => exact (Reps.one (show Kd.M (Kd.int .u8) _ _ _ 41 [.int .u8 41] from rfl) (Reps.none _ _))); intro v5 w5 ho6 hb hg_ hnew_; clear hg_ hnew_; have n0_ := Aside0.mk (below_step HB.out hb); have n1_ := Aside0.mk (blk_below HCUR.out hb); have n2_ := Aside0.mk (Kd.R_below HROW.out hb); have n3_ : Aside0 (∀ g l, Gd.Bw wr g l → Gd.Bw w5 g l) := ⟨fun g l h => Gd.Bw_move h (hb.block g (Gd.Bw_lt h))⟩; clear HB HCUR HROW HMV hcv hfv hb; have HB := n0_; have HCUR := n1_; have HROW := n2_; have HMV := n3_; clear n0_ n1_ n2_ n3_; have hcv7 := own_string (P := Tryz.prog) Tryz.underlying35 Tryz.underlying5 Tryz.underlying9 (Kd.own_of_R ho6); clear ho6; rw [show strOfNums [41] = (⟨#[41]⟩ : ByteArray) from rfl] at hcv7) | ((with_reducible refine gate_builtin (b := .append) (xs := #[.tmp 119, .tmp 123]) rfl ?_); at_builtin; refine Kd.R_append Kd.string (w0 := w) w.heap.size rfl (.tmp 119) (.tmp 123) 39 9 (.string ⟨#[]⟩) 16 rfl Tryz.underlying39 (by kernel_rfl) rfl (by decide) (by omega) (.slice A5 1 c5) (Gd.trs 3) (⟨#[41]⟩ : ByteArray) [.string ⟨#[41]⟩] (fun _ => True) (fun _ => False) rfl rfl ?aP (fun _ hk => hk.elim) ?aF ?aO ?aB ?aS ?aL ?_; (case aP => rfl); (case aF => exact fun _ _ => trivial); (case aO => exact HROW.out); (case aB => exact HB.out); (case aS => exact below_size HB.out); (case aL => decide); intro v9 w9 ho hb hg hat; have hne := Kd.R_ne HROW.out HCUR.out (by decide); have n0_ := Aside0.mk hb; have n1_ := Aside0.mk ((hg.block q (blk_lt HCUR.out) hne).trans HCUR.out); have n2_ := Aside0.mk (show Kd.R Kd.string 9 w9 w.heap.size (fun _ => True) v9 (Gd.trs 2) from ho); have n3_ : Aside0 (∀ g l, Gd.Bw wr g l → Gd.Bw w9 g l) := ⟨fun g l h => Gd.Bw_move (HMV.out g l h) (hg.block g (Gd.Bw_lt (HMV.out g l h)) (fun e => by obtain ⟨cells, hc⟩ := Kd.R_typed HROW.out g e.symm; exact Gd.Bw_ne (HMV.out g l h) hc rfl))⟩; clear HB HCUR HROW HMV ho hb hg hat hne; have HB := n0_; have HCUR := n1_; have HROW := n2_; have HMV := n3_; clear n0_ n1_ n2_ n3_; obtain ⟨A9, c9, ev9⟩ := Kd.R_slice HROW.out; subst ev9; have hcv : w9.cell? ⟨q, 256, none⟩ = some (.slice A5 1 c5) := (blk_cell HCUR.out 256).trans H256.out; have hfv := blk_frozen HCUR.out 256))
     have n0_ : Aside0 (Below w.heap.size w (w9.setCell ⟨q, 256, none⟩ (.slice A9 (Gd.trs 2).length c9))) := ⟨below_set HB.out HBQ.out⟩
     have n1_ := Aside0.mk (blk_set HCUR.out 256 (.slice A9 (Gd.trs 2).length c9))
     have n2_ := Aside0.mk (Kd.R_mono (Kd.R_far (p := ⟨q, 256, none⟩) (Kd.R_types HROW.out HCUR.out (by decide)) (fun _ hk => hk.2) (.slice A9 (Gd.trs 2).length c9)) (fun _ hk => hk.1))
     have n3_ : Aside0 (∀ g l, Gd.Bw wr g l → Gd.Bw (w9.setCell ⟨q, 256, none⟩ (.slice A9 (Gd.trs 2).length c9)) g l) := ⟨fun g l h => Gd.Bw_move (HMV.out g l h) (Below.heap_setCell _ ⟨q, 256, none⟩ _ g (Gd.Bw_ne (HMV.out g l h) HCUR.out))⟩
     clear HB HCUR HROW HMV hcv hfv
     generalize w9.setCell ⟨q, 256, none⟩ (.slice A9 (Gd.trs 2).length c9) = w10 at n0_ n1_ n2_ n3_ ⊢
     have HB := n0_
     have HCUR := n1_
     have HROW := n2_
     have HMV := n3_
     clear n0_ n1_ n2_ n3_
     go_wp2_with ((with_reducible refine gate_dst (N := 128) rfl ?_); refine Gd.bytes_event ?hg (N := 128) ?hd (s := (⟨#[92, 50, 57]⟩ : ByteArray)) ?hr ?_; (case hd => rfl); (case hg => rfl); (case hr => first | (go_simp; done) | (go_simp; rfl)); intro s hs c12 w12 hBw hb; have HSB := Aside0.mk (show w.heap.size ≤ s by rw [hs]; exact below_size HB.out); have HSW := Aside0.mk (show Gd.Bw w12 s (Gd.rpl 41) from hBw); have n0_ := Aside0.mk (below_step HB.out hb); have n1_ := Aside0.mk (blk_below HCUR.out hb); have n2_ := Aside0.mk (Kd.R_below HROW.out hb); have n3_ : Aside0 (∀ g l, Gd.Bw wr g l → Gd.Bw w12 g l) := ⟨fun g l h => Gd.Bw_move (HMV.out g l h) (hb.block g (Gd.Bw_lt (HMV.out g l h)))⟩; clear HB HCUR HROW HMV hb hs hBw; have HB := n0_; have HCUR := n1_; have HROW := n2_; have HMV := n3_; clear n0_ n1_ n2_ n3_; have hco : w12.cell? ⟨q, 41, none⟩ = some (.slice none 0 0) := (blk_cell HCUR.out 41).trans (by rw [Array.getElem?_setIfInBounds, if_neg (by omega)]; have h := HREP.out 41 (by omega); rw [if_neg (by decide)] at h; exact h); have hfo := blk_frozen HCUR.out 41)
     go_roundg (gk - 1)
     case measure => have := HM.out.1; omega
     case rel => exact ⟨2, rfl, ⟨by have := HM.out.1; omega, by omega⟩, ⟨Gd.BS_step HBQ.out HCUR0.out HREP.out H256.out (by omega) (by omega) rfl (fun c hc => (Gd.lv_uniq c).2.2.1 hc) (blk_set HCUR.out 41 _) HSB.out (Gd.Bw_move HSW.out (Below.heap_setCell _ ⟨q, 41, none⟩ _ s (Gd.Bw_ne HSW.out HCUR.out))) (fun g l h => Gd.Bw_move (HMV.out g l h) (Below.heap_setCell _ ⟨q, 41, none⟩ _ g (Gd.Bw_ne (HMV.out g l h) HCUR.out))) (Kd.R_mono (Kd.R_far (p := ⟨q, 41, none⟩) (Kd.R_types HROW.out HCUR.out (by decide)) (fun _ hk => hk.2) _) (fun _ hk => hk.1))⟩, ⟨below_set HB.out HBQ.out⟩⟩
    ·obtain ⟨hbq, cur, v, hcur, hrep, h256, hrow⟩ := HS.out
     obtain ⟨A5, c5, ev⟩ := Kd.R_slice hrow
     subst ev
     rw [show (Gd.trs 4).length = 0 from rfl] at h256 hrow
     have hj_ := (HB.out.cell (World.block_lt_of_cell? w _ E6.out)).trans E6.out
     have hk_ := (HB.out.cell (World.block_lt_of_cell? w _ E7.out)).trans E7.out
     have hco : wr.cell? ⟨q, 92, none⟩ = some (.slice none 0 0) := (blk_cell hcur 92).trans (by have h := hrep 92 (by omega); rw [if_neg (by decide)] at h; exact h)
     have hfo := blk_frozen hcur 92
     have hby : ∀ h : 0 < (⟨#[92]⟩ : ByteArray).size, (((⟨#[92]⟩ : ByteArray)[0]'h).toNat : Int) = 92 := fun _ => rfl
     have hcv : wr.cell? ⟨q, 256, none⟩ = some (.slice A5 0 c5) := (blk_cell hcur 256).trans h256
     have hfv := blk_frozen hcur 256
     have HBQ := Aside0.mk hbq
     have HCUR := Aside0.mk hcur
     have HCUR0 := Aside0.mk hcur
     have HREP := Aside0.mk hrep
     have H256 := Aside0.mk h256
     have HROW := Aside0.mk hrow
     have HMV : Aside0 (∀ g l, Gd.Bw wr g l → Gd.Bw wr g l) := ⟨fun _ _ h => h⟩
     clear hbq hcur hrep h256 hrow HS
     go_upto_region 33 with fail
     clear hco hfo hj_
     go_upto_region 34 with (first | ((with_reducible refine gate_dst (N := 121) rfl ?_); refine Kd.R_lit (Kd.int .u8) _ 5 ?hg (N := 121) ?hd (xs := ([92] : List Int)) (inner := [.int .u8 92]) (ok := fun _ => True) (okp := fun _ => True) ?hr ?hp (fun _ hk => hk) trivial (Below.refl _ _) (Nat.le_refl _) (by simp) ?_; (case hd => rfl); (case hg => rfl); (case hr => first | (go_simp; done) | (go_simp; rfl)); (case hp => exact (Reps.one (show Kd.M (Kd.int .u8) _ _ _ 92 [.int .u8 92] from rfl) (Reps.none _ _))); intro v5 w5 ho6 hb hg_ hnew_; clear hg_ hnew_; have n0_ := Aside0.mk (below_step HB.out hb); have n1_ := Aside0.mk (blk_below HCUR.out hb); have n2_ := Aside0.mk (Kd.R_below HROW.out hb); have n3_ : Aside0 (∀ g l, Gd.Bw wr g l → Gd.Bw w5 g l) := ⟨fun g l h => Gd.Bw_move h (hb.block g (Gd.Bw_lt h))⟩; clear HB HCUR HROW HMV hcv hfv hb; have HB := n0_; have HCUR := n1_; have HROW := n2_; have HMV := n3_; clear n0_ n1_ n2_ n3_; have hcv7 := own_string (P := Tryz.prog) Tryz.underlying35 Tryz.underlying5 Tryz.underlying9 (Kd.own_of_R ho6); clear ho6; rw [show strOfNums [92] = (⟨#[92]⟩ : ByteArray) from rfl] at hcv7) | ((with_reducible refine gate_builtin (b := .append) (xs := #[.tmp 119, .tmp 123]) rfl ?_); at_builtin; refine Kd.R_append Kd.string (w0 := w) w.heap.size rfl (.tmp 119) (.tmp 123) 39 9 (.string ⟨#[]⟩) 16 rfl Tryz.underlying39 (by kernel_rfl) rfl (by decide) (by omega) (.slice A5 0 c5) (Gd.trs 4) (⟨#[92]⟩ : ByteArray) [.string ⟨#[92]⟩] (fun _ => True) (fun _ => False) rfl rfl ?aP (fun _ hk => hk.elim) ?aF ?aO ?aB ?aS ?aL ?_; (case aP => rfl); (case aF => exact fun _ _ => trivial); (case aO => exact HROW.out); (case aB => exact HB.out); (case aS => exact below_size HB.out); (case aL => decide); intro v9 w9 ho hb hg hat; have hne := Kd.R_ne HROW.out HCUR.out (by decide); have n0_ := Aside0.mk hb; have n1_ := Aside0.mk ((hg.block q (blk_lt HCUR.out) hne).trans HCUR.out); have n2_ := Aside0.mk (show Kd.R Kd.string 9 w9 w.heap.size (fun _ => True) v9 (Gd.trs 3) from ho); have n3_ : Aside0 (∀ g l, Gd.Bw wr g l → Gd.Bw w9 g l) := ⟨fun g l h => Gd.Bw_move (HMV.out g l h) (hg.block g (Gd.Bw_lt (HMV.out g l h)) (fun e => by obtain ⟨cells, hc⟩ := Kd.R_typed HROW.out g e.symm; exact Gd.Bw_ne (HMV.out g l h) hc rfl))⟩; clear HB HCUR HROW HMV ho hb hg hat hne; have HB := n0_; have HCUR := n1_; have HROW := n2_; have HMV := n3_; clear n0_ n1_ n2_ n3_; obtain ⟨A9, c9, ev9⟩ := Kd.R_slice HROW.out; subst ev9; have hcv : w9.cell? ⟨q, 256, none⟩ = some (.slice A5 0 c5) := (blk_cell HCUR.out 256).trans H256.out; have hfv := blk_frozen HCUR.out 256))
     have n0_ : Aside0 (Below w.heap.size w (w9.setCell ⟨q, 256, none⟩ (.slice A9 (Gd.trs 3).length c9))) := ⟨below_set HB.out HBQ.out⟩
     have n1_ := Aside0.mk (blk_set HCUR.out 256 (.slice A9 (Gd.trs 3).length c9))
     have n2_ := Aside0.mk (Kd.R_mono (Kd.R_far (p := ⟨q, 256, none⟩) (Kd.R_types HROW.out HCUR.out (by decide)) (fun _ hk => hk.2) (.slice A9 (Gd.trs 3).length c9)) (fun _ hk => hk.1))
     have n3_ : Aside0 (∀ g l, Gd.Bw wr g l → Gd.Bw (w9.setCell ⟨q, 256, none⟩ (.slice A9 (Gd.trs 3).length c9)) g l) := ⟨fun g l h => Gd.Bw_move (HMV.out g l h) (Below.heap_setCell _ ⟨q, 256, none⟩ _ g (Gd.Bw_ne (HMV.out g l h) HCUR.out))⟩
     clear HB HCUR HROW HMV hcv hfv
     generalize w9.setCell ⟨q, 256, none⟩ (.slice A9 (Gd.trs 3).length c9) = w10 at n0_ n1_ n2_ n3_ ⊢
     have HB := n0_
     have HCUR := n1_
     have HROW := n2_
     have HMV := n3_
     clear n0_ n1_ n2_ n3_
     go_wp2_with ((with_reducible refine gate_dst (N := 128) rfl ?_); refine Gd.bytes_event ?hg (N := 128) ?hd (s := (⟨#[92, 53, 99]⟩ : ByteArray)) ?hr ?_; (case hd => rfl); (case hg => rfl); (case hr => first | (go_simp; done) | (go_simp; rfl)); intro s hs c12 w12 hBw hb; have HSB := Aside0.mk (show w.heap.size ≤ s by rw [hs]; exact below_size HB.out); have HSW := Aside0.mk (show Gd.Bw w12 s (Gd.rpl 92) from hBw); have n0_ := Aside0.mk (below_step HB.out hb); have n1_ := Aside0.mk (blk_below HCUR.out hb); have n2_ := Aside0.mk (Kd.R_below HROW.out hb); have n3_ : Aside0 (∀ g l, Gd.Bw wr g l → Gd.Bw w12 g l) := ⟨fun g l h => Gd.Bw_move (HMV.out g l h) (hb.block g (Gd.Bw_lt (HMV.out g l h)))⟩; clear HB HCUR HROW HMV hb hs hBw; have HB := n0_; have HCUR := n1_; have HROW := n2_; have HMV := n3_; clear n0_ n1_ n2_ n3_; have hco : w12.cell? ⟨q, 92, none⟩ = some (.slice none 0 0) := (blk_cell HCUR.out 92).trans (by rw [Array.getElem?_setIfInBounds, if_neg (by omega)]; have h := HREP.out 92 (by omega); rw [if_neg (by decide)] at h; exact h); have hfo := blk_frozen HCUR.out 92)
     go_roundg (gk - 1)
     case measure => have := HM.out.1; omega
     case rel => exact ⟨3, rfl, ⟨by have := HM.out.1; omega, by omega⟩, ⟨Gd.BS_step HBQ.out HCUR0.out HREP.out H256.out (by omega) (by omega) rfl (fun c hc => (Gd.lv_uniq c).2.2.2 hc) (blk_set HCUR.out 92 _) HSB.out (Gd.Bw_move HSW.out (Below.heap_setCell _ ⟨q, 92, none⟩ _ s (Gd.Bw_ne HSW.out HCUR.out))) (fun g l h => Gd.Bw_move (HMV.out g l h) (Below.heap_setCell _ ⟨q, 92, none⟩ _ g (Gd.Bw_ne (HMV.out g l h) HCUR.out))) (Kd.R_mono (Kd.R_far (p := ⟨q, 92, none⟩) (Kd.R_types HROW.out HCUR.out (by decide)) (fun _ hk => hk.2) _) (fun _ hk => hk.1))⟩, ⟨below_set HB.out HBQ.out⟩⟩
set_option maxHeartbeats 1000000 in
set_option maxRecDepth 100000 in
theorem Gd.count (s : ByteArray) (c : UInt8) (w : World) : Calls Tryz.prog 266 #[.string s, .string ⟨#[c]⟩] w fun e w' => e = .returned (.int .i64 (Lib.countByte s.data.toList c)) ∧ w' = w := by
 go_enter Tryz.func266, Tryz.ntmps266
 go_wp2
 rw [run_callFunc_extern Tryz.func268 (by kernel_rfl) (by kernel_rfl) (by kernel_rfl) (e := Extern.BytealgCount.count) (by kernel_rfl), Lib.run_countString]
 simp only [Result.andThen]
 rw [Oper.upon_value]
 go_wp2
 go_ret
 exact ⟨rfl, rfl⟩
def Gd.one (c : Int) : List Int := if Gd.rpl c.toNat = [] then [c] else Gd.rpl c.toNat
def Gd.escL (l : List Int) : List Int := l.flatMap Gd.one
def Gd.esc (s : ByteArray) : ByteArray := strOfNums (Gd.escL (bytesOf s))
def Gd.hits (l : List Int) : Nat := (l.filter fun c => Gd.lv c.toNat < 4).length
theorem Gd.rpl_lv (c : Nat) : Gd.rpl c = [] ↔ ¬ Gd.lv c < 4 := by
 unfold Gd.rpl Gd.lv
 repeat' split
 all_goals simp
theorem Gd.rpl_len (c : Nat) (h : Gd.lv c < 4) : (Gd.rpl c).length = 3 := by
 unfold Gd.lv at h
 unfold Gd.rpl
 repeat' split at h
 all_goals first | (exfalso; omega) | simp [*]
theorem Gd.escL_append (a b : List Int) : Gd.escL (a ++ b) = Gd.escL a ++ Gd.escL b := by simp [Gd.escL]
theorem Gd.hits_append (a b : List Int) : Gd.hits (a ++ b) = Gd.hits a + Gd.hits b := by simp [Gd.hits]
theorem Gd.escL_length : ∀ l, (Gd.escL l).length = l.length + 2 * Gd.hits l
 | [] => rfl
 | c :: l => by
  have ih := Gd.escL_length l
  rw [show c :: l = [c] ++ l from rfl, Gd.escL_append, Gd.hits_append, List.length_append, List.length_append, ih]
  have h1 : (Gd.escL [c]).length = 1 + 2 * Gd.hits [c] := by
   unfold Gd.escL Gd.hits Gd.one
   by_cases h : Gd.lv c.toNat < 4
   ·rw [List.flatMap_cons, List.flatMap_nil, List.append_nil, if_neg (fun e => (Gd.rpl_lv _).1 e h), Gd.rpl_len _ h]
    simp [h]
   rw [List.flatMap_cons, List.flatMap_nil, List.append_nil, if_pos ((Gd.rpl_lv _).2 h)]
   simp [h]
  rw [h1]
  simp only [List.length_cons, List.length_nil]
  omega
theorem Gd.escL_none : ∀ l, Gd.hits l = 0 → Gd.escL l = l
 | [], _ => rfl
 | c :: l, h => by
  rw [show c :: l = [c] ++ l from rfl, Gd.hits_append] at h
  have h2 : ¬ Gd.lv c.toNat < 4 := fun h3 => by
   have : Gd.hits [c] = 1 := by simp [Gd.hits, h3]
   omega
  rw [show c :: l = [c] ++ l from rfl, Gd.escL_append, Gd.escL_none l (by omega)]
  simp [Gd.escL, Gd.one, (Gd.rpl_lv _).2 h2]
theorem Gd.hits_count : ∀ l : List UInt8, Gd.hits (l.map fun b => (b.toNat : Int)) = l.count 92 + l.count 41 + l.count 40 + l.count 42
 | [] => rfl
 | c :: l => by
  have ih := Gd.hits_count l
  rw [List.map_cons, show ((c.toNat : Int) :: l.map fun b => (b.toNat : Int)) = [(c.toNat : Int)] ++ (l.map fun b => (b.toNat : Int)) from rfl, Gd.hits_append, ih]
  have h1 : Gd.hits [(c.toNat : Int)] = (if c = 92 then 1 else 0) + (if c = 41 then 1 else 0) + (if c = 40 then 1 else 0) + (if c = 42 then 1 else 0) := by
   have e : ∀ k : UInt8, c = k ↔ c.toNat = k.toNat := fun k => ⟨fun h => by rw [h], fun h => UInt8.toNat_inj.1 h⟩
   simp only [Gd.hits, e, Int.toNat_natCast]
   show (List.filter (fun c => decide (Gd.lv c.toNat < 4)) [(c.toNat : Int)]).length = (if c.toNat = 92 then 1 else 0) + (if c.toNat = 41 then 1 else 0) + (if c.toNat = 40 then 1 else 0) + (if c.toNat = 42 then 1 else 0)
   generalize c.toNat = k
   have h4 : (Gd.lv k < 4) ↔ (k = 42 ∨ k = 40 ∨ k = 41 ∨ k = 92) := by
    unfold Gd.lv
    repeat' split
    all_goals omega
   simp only [List.filter_cons, List.filter_nil, Int.toNat_natCast, h4]
   repeat' split
   all_goals simp_all
  rw [h1]
  simp only [List.count_cons, beq_iff_eq]
  omega
theorem Gd.set1 (a : Int) : ∀ (D : List Int) (n : Nat), (D ++ List.replicate (n + 1) 0).set D.length a = D ++ [a] ++ List.replicate n 0
 | [], n => by simp [List.replicate_succ]
 | d :: D, n => by
  have := Gd.set1 a D n
  simp only [List.cons_append, List.length_cons, List.set_cons_succ, this]
theorem Gd.set3 (a b c : Int) : ∀ (D : List Int) (n : Nat), (((D ++ List.replicate (n + 3) 0).set D.length a).set (D.length + 1) b).set (D.length + 2) c = D ++ [a, b, c] ++ List.replicate n 0
 | [], n => by simp [List.replicate_succ]
 | d :: D, n => by
  have := Gd.set3 a b c D n
  simp only [List.cons_append, List.length_cons, show D.length + 1 + 1 = (D.length + 1) + 1 from rfl, show D.length + 1 + 2 = (D.length + 2) + 1 from rfl, List.set_cons_succ, this]
theorem Gd.str_bytes (s : ByteArray) : strOfNums (bytesOf s) = s := by
 unfold strOfNums bytesOf
 rw [List.map_map]
 have : (fun n : Int => UInt8.ofNat n.toNat) ∘ (fun b : UInt8 => (b.toNat : Int)) = id := by
  funext b
  simp
 rw [this, List.map_id]
def Gd.pc (s : ByteArray) (k : Nat) : Nat := (([92, 41, 40, 42] : List UInt8).take k).foldl (fun n c => n + Lib.countByte s.data.toList c) 0
theorem Gd.count_le (s : ByteArray) (c : UInt8) : Lib.countByte s.data.toList c ≤ s.size := by
 unfold Lib.countByte
 exact List.count_le_length
theorem Gd.pc_le (s : ByteArray) (k : Nat) : Gd.pc s k ≤ 4 * s.size := by
 have h1 := Gd.count_le s 92
 have h2 := Gd.count_le s 41
 have h3 := Gd.count_le s 40
 have h4 := Gd.count_le s 42
 unfold Gd.pc
 rcases k with _ | _ | _ | _ | k <;> simp <;> omega
theorem Gd.pc_hits (s : ByteArray) : Gd.pc s 4 = Gd.hits (bytesOf s) := by
 unfold bytesOf
 rw [Gd.hits_count]
 simp [Gd.pc, Lib.countByte]
set_option maxRecDepth 100000 in
set_option maxHeartbeats 16000000 in
theorem Gd.bsr (q base : Nat) (s : ByteArray) (w : World) (hS : Gd.BS w base q 0) (hs : s.size ≤ 40000000000000) :
  Calls Tryz.prog 264 #[.pointer (some ⟨q, 0, none⟩), .string s] w fun e w' => e = .returned (.string (Gd.esc s)) ∧ Below w.heap.size w w' := by
 have hu := Tryz.underlying192
 have hnot : ∀ (x : Bool) (w : World), (Op.unary .not (.bool x)).run Tryz.prog w = .ok (.bool (!x)) w := fun _ _ => rfl
 have qT : ∀ (w : World) (a : Option Addr) (n c n' c' : Nat), (binOp .neq 35 (.slice a n c) (.slice none n' c')).run Tryz.prog w = .ok (.bool (!a.isNone)) w := fun w a n c n' c' => run_neq_slice_nil_any w _ _ a n c n' c' Tryz.underlying35
 obtain ⟨hbq, cur, v, hcur, hrep, h256, hrow⟩ := hS
 obtain ⟨t, ct, ev, _⟩ := Kd.R_form hrow (by decide)
 subst ev
 rw [show (Gd.trs 0).length = 4 from rfl] at h256 hrow
 have hcv : w.cell? ⟨q, 256, none⟩ = some (.slice (some ⟨t, 0, none⟩) 4 ct) := (blk_cell hcur 256).trans h256
 have x0 : w.cell? ⟨t, 0, none⟩ = some (.string ⟨#[92]⟩) := (Kd.R_celln ByteArray.empty hrow 0 (by omega) (by omega)).1
 have x1 : w.cell? ⟨t, 1, none⟩ = some (.string ⟨#[41]⟩) := (Kd.R_celln ByteArray.empty hrow 1 (by omega) (by omega)).1
 have x2 : w.cell? ⟨t, 2, none⟩ = some (.string ⟨#[40]⟩) := (Kd.R_celln ByteArray.empty hrow 2 (by omega) (by omega)).1
 have x3 : w.cell? ⟨t, 3, none⟩ = some (.string ⟨#[42]⟩) := (Kd.R_celln ByteArray.empty hrow 3 (by omega) (by omega)).1
 have HSZ := Aside0.mk hs
 have HB := Aside0.mk (Below.refl w.heap.size w)
 have HCUR := Aside0.mk hcur
 have HREP := Aside0.mk hrep
 clear hbq hrow h256 hs hcur hrep
 by_cases c32 : (32 : Int) ≤ (s.size : Int)
 rotate_left
 ·have c32b : decide ((32 : Int) ≤ (s.size : Int)) = false := decide_eq_false c32
  have c32c : decide (32 ≤ s.size) = false := decide_eq_false (by omega)
  clear c32 x0 x1 x2 x3
  go_enter Tryz.func264, Tryz.ntmps264
  go_upto_region 13 with fail
  go_loopg [5, 6, 10] s.size (fun kq v5 v6 v10 w' => ∃ (i : Nat), v10 = .int .i64 (i : Int) ∧ v5 = .int .i64 ((s.size : Int) + 2 * (Gd.hits ((bytesOf s).take i) : Int)) ∧ v6 = .bool (decide (0 < Gd.hits ((bytesOf s).take i))) ∧ Aside0 (i + kq = s.size) ∧ Aside0 (w'.heap = w.heap) ∧ Aside0 (Below w.heap.size w w'))
  case atStart => exact ⟨0, rfl, by simp [Gd.hits], by simp [Gd.hits], ⟨by omega⟩, ⟨rfl⟩, HB⟩
  case round =>
   clear HB
   obtain ⟨i, rfl, rfl, rfl, HI, HH, HB⟩ := hrel
   by_cases c1 : (i : Int) < (s.size : Int)
   ·have c1b0 := decide_eq_true c1
    have c1b1 : decide (i < s.size) = true := decide_eq_true (by omega)
    have HWI : Aside0 (wrap64 ((i : Int) + 1) = ((i + 1 : Nat) : Int)) := ⟨by have := HSZ.out; unfold wrap64; omega⟩
    have hx : ∀ h : i < s.size, ((s[i]'h).toNat : Int) = bt s (i : Int) := bt_at s (i : Int)
    obtain ⟨B, hB⟩ : ∃ B, bt s (i : Int) = B := ⟨_, rfl⟩
    have hB0 : 0 ≤ B := by rw [← hB]; exact (bt_range s _).1
    have hB1 : B < 256 := by rw [← hB]; have := (bt_range s (i : Int)).2; omega
    have hdrop : (bytesOf s).take (i + 1) = (bytesOf s).take i ++ [B] := by
     rw [List.take_succ_eq_append_getElem (by rw [bytesOf_length]; omega)]
     congr 2
     have h1 := rd_bytesOf s (i : Int)
     unfold rd at h1
     rw [Int.toNat_natCast, List.getD_eq_getElem?_getD, List.getElem?_eq_getElem (by rw [bytesOf_length]; omega)] at h1
     simpa [hB] using h1
    rw [hB] at hx
    have HI2 := Aside0.mk (show i < s.size by omega)
    have hht : Gd.hits ((bytesOf s).take (i + 1)) = Gd.hits ((bytesOf s).take i) + Gd.hits [B] := by rw [hdrop, Gd.hits_append]
    have hle : Gd.hits ((bytesOf s).take i) ≤ s.size := Nat.le_trans (List.length_filter_le _ _) (by rw [List.length_take]; omega)
    have p1 : 0 ≤ (i : Int) := by omega
    have c1i := eq_true c1
    have c1j := eq_true (show i < s.size by omega)
    obtain ⟨H1, hH1⟩ : ∃ H1, H1 = Gd.hits ((bytesOf s).take i) := ⟨_, rfl⟩
    rw [← hH1] at hht hle ⊢
    have hsz := HSZ.out
    clear hB hdrop c1 hH1
    by_cases hit : Gd.lv B.toNat < 4
    ·obtain ⟨s1, cp1, hz, hs1, hBw⟩ := (show ∃ s1 cap, cur[B.toNat]? = some (.slice (some ⟨s1, 0, none⟩) 3 cap) ∧ base ≤ s1 ∧ Gd.Bw w s1 (Gd.rpl B.toNat) from by have h := HREP.out B.toNat (by omega); rw [if_pos ⟨by omega, hit⟩] at h; exact h)
     have hyz : wr.cell? ⟨q, B.toNat, none⟩ = some (.slice (some ⟨s1, 0, none⟩) 3 cp1) := (show wr.cell? _ = w.cell? _ by simp only [World.cell?, HH.out]).trans ((blk_cell HCUR.out B.toNat).trans hz)
     rw [show Gd.hits [B] = 1 from by simp [Gd.hits, hit]] at hht
     have HHT := Aside0.mk hht
     have HSW : Aside0 (wrap64 ((s.size : Int) + 2 * (H1 : Int) + 2) = (s.size : Int) + 2 * ((H1 + 1 : Nat) : Int)) := ⟨by unfold wrap64; omega⟩
     clear hht hle hit hz hs1 hBw hsz
     go_wp2
     go_roundg (gk - 1)
     case measure => have := HI.out; have := HI2.out; omega
     case rel => exact ⟨i + 1, by rw [HWI.out], by rw [HHT.out, ← HSW.out], by rw [HHT.out, decide_eq_true (Nat.succ_pos H1)], ⟨by have := HI.out; have := HI2.out; omega⟩, HH, HB⟩
    have hyz : wr.cell? ⟨q, B.toNat, none⟩ = some (.slice none 0 0) := (show wr.cell? _ = w.cell? _ by simp only [World.cell?, HH.out]).trans ((blk_cell HCUR.out B.toNat).trans (by have h := HREP.out B.toNat (by omega); rw [if_neg (fun h => hit h.2)] at h; exact h))
    rw [show Gd.hits [B] = 0 from by simp [Gd.hits, hit]] at hht
    have HHT := Aside0.mk hht
    clear hht hle hit hsz
    go_wp2
    go_roundg (gk - 1)
    case measure => have := HI.out; have := HI2.out; omega
    case rel => exact ⟨i + 1, by rw [HWI.out], by rw [HHT.out, Nat.add_zero], by rw [HHT.out, Nat.add_zero], ⟨by have := HI.out; have := HI2.out; omega⟩, HH, HB⟩
   have c1b0 := decide_eq_false c1
   have c1b1 : decide (i < s.size) = false := decide_eq_false (by omega)
   have HIT : Gd.hits ((bytesOf s).take i) = Gd.hits (bytesOf s) := by rw [List.take_of_length_le (by rw [bytesOf_length]; have := HI.out; omega)]
   clear c1
   have hH : Gd.hits ((bytesOf s).take i) = Gd.hits (bytesOf s) := HIT
   obtain ⟨H, hHe⟩ : ∃ H, H = Gd.hits ((bytesOf s).take i) := ⟨_, rfl⟩
   rw [← hHe] at hH ⊢
   clear hHe
   have HHIT := Aside0.mk hH
   have HCURW := Aside0.mk (show wr.heap[q]? = some (.cells cur 192 (0, 0)) from by rw [HH.out]; exact HCUR.out)
   have HMV : Aside0 (∀ g l, Gd.Bw w g l → Gd.Bw wr g l) := ⟨fun g l h => Gd.Bw_move h (by rw [HH.out])⟩
   clear hH HH HCUR hcv
   by_cases h0 : H = 0
   ·subst h0
    have hd0 : decide (0 < 0) = false := rfl
    go_wp2
    go_ret
    exact ⟨by rw [show Gd.esc s = s from by unfold Gd.esc; rw [Gd.escL_none _ HHIT.out.symm, Gd.str_bytes]]; rfl, HB.out⟩
   have hd0 : decide (0 < H) = true := decide_eq_true (by omega)
   have hHle : H ≤ s.size := by rw [HHIT.out, ← bytesOf_length s]; exact List.length_filter_le _ _
   have hsz := HSZ.out
   have HP := Aside0.mk (show 0 < s.size by omega)
   have HLE := Aside0.mk hHle
   clear hHle
   go_upto_region 23 with ((with_reducible refine gate_dst (N := 85) rfl ?_); refine Kd.R_make (Kd.int .u8) _ 5 rfl (N := 85) rfl 35 _ _ rfl ((s.size : Int) + 2 * (H : Int)) rfl rfl Tryz.underlying35 (.int .u8 0) 1 (by kernel_rfl) rfl (by decide) (by omega) 0 (ok := fun _ => True) (okp := fun _ => True) rfl (fun _ hk => hk) trivial (by omega) (by have := HLE.out; omega) (Below.refl _ _) (Nat.le_refl _) ?_; intro v w5 ho hb hg_ hnew_; clear hg_ hnew_; rw [show ((s.size : Int) + 2 * (H : Int)).toNat = s.size + 2 * H by omega] at ho; obtain ⟨g, cp, ev, _⟩ := Kd.R_form ho (by rw [List.length_replicate]; have := HP.out; omega); subst ev; rw [List.length_replicate] at ho; have HBUF := Aside0.mk (Kd.R_lower ho (below_size HB.out)); have n0_ := Aside0.mk (below_step HB.out hb); have n1_ := Aside0.mk (blk_below HCURW.out hb); have n2_ : Aside0 (∀ g l, Gd.Bw w g l → Gd.Bw w5 g l) := ⟨fun g l h => Gd.Bw_move (HMV.out g l h) (hb.block g (Gd.Bw_lt (HMV.out g l h)))⟩; clear HB HCURW HMV hb ho; have HB := n0_; have HCURW := n1_; have HMV := n2_; clear n0_ n1_ n2_)
   go_upto_region 24 with fail
   go_loopg [13, 14] s.size (fun kq v13 v14 w' => ∃ (i : Nat), v14 = .int .i64 (i : Int) ∧ v13 = .int .i64 ((Gd.escL ((bytesOf s).take i)).length : Int) ∧ Aside0 (i + kq = s.size) ∧ Aside0 (Kd.R (Kd.int .u8) 5 w' w.heap.size (fun _ => True) (.slice (some ⟨g, 0, none⟩) (s.size + 2 * H) cp) (Gd.escL ((bytesOf s).take i) ++ List.replicate (s.size + 2 * H - (Gd.escL ((bytesOf s).take i)).length) 0)) ∧ Aside0 (Below w.heap.size w w') ∧ Aside0 (w'.heap[q]? = some (.cells cur 192 (0, 0))) ∧ Aside0 (∀ g l, Gd.Bw w g l → Gd.Bw w' g l))
   case atStart => exact ⟨0, rfl, rfl, ⟨by omega⟩, HBUF, HB, HCURW, HMV⟩
   case round =>
    clear HBUF HB HCURW HMV
    obtain ⟨i, rfl, rfl, HI, HBUF, HB, HCURW, HMV⟩ := hrel
    by_cases c1 : (i : Int) < (s.size : Int)
    rotate_left
    ·have c1b0 := decide_eq_false c1
     have c1b1 : decide (i < s.size) = false := decide_eq_false (by omega)
     have hi : i = s.size := by have := HI.out; omega
     have hfull : (bytesOf s).take i = bytesOf s := List.take_of_length_le (by rw [bytesOf_length]; omega)
     have hln : (Gd.escL (bytesOf s)).length = s.size + 2 * H := by rw [Gd.escL_length, bytesOf_length, ← HHIT.out]
     have HF := Aside0.mk (show Kd.R (Kd.int .u8) 5 wr w.heap.size (fun _ => True) (.slice (some ⟨g, 0, none⟩) (s.size + 2 * H) cp) (Gd.escL (bytesOf s)) from by have h := HBUF.out; rw [hfull, hln, Nat.sub_self, List.replicate_zero, List.append_nil] at h; exact h)
     have hcv7 := own_string (P := Tryz.prog) Tryz.underlying35 Tryz.underlying5 Tryz.underlying9 (Kd.own_of_R HF.out)
     clear c1 hi hfull hln HBUF
     go_wp2
     go_ret
     exact ⟨rfl, HB.out⟩
    have c1b0 := decide_eq_true c1
    have c1b1 : decide (i < s.size) = true := decide_eq_true (by omega)
    have HWI : Aside0 (wrap64 ((i : Int) + 1) = ((i + 1 : Nat) : Int)) := ⟨by have := HSZ.out; unfold wrap64; omega⟩
    have hx : ∀ h : i < s.size, ((s[i]'h).toNat : Int) = bt s (i : Int) := bt_at s (i : Int)
    obtain ⟨B, hB⟩ : ∃ B, bt s (i : Int) = B := ⟨_, rfl⟩
    have hB0 : 0 ≤ B := by rw [← hB]; exact (bt_range s _).1
    have hB1 : B < 256 := by rw [← hB]; have := (bt_range s (i : Int)).2; omega
    have hdrop : (bytesOf s).take (i + 1) = (bytesOf s).take i ++ [B] := by
     rw [List.take_succ_eq_append_getElem (by rw [bytesOf_length]; omega)]
     congr 2
     have h1 := rd_bytesOf s (i : Int)
     unfold rd at h1
     rw [Int.toNat_natCast, List.getD_eq_getElem?_getD, List.getElem?_eq_getElem (by rw [bytesOf_length]; omega)] at h1
     simpa [hB] using h1
    rw [hB] at hx
    have HTK := Aside0.mk hdrop
    have HI2 := Aside0.mk (show i < s.size by omega)
    clear hB hdrop
    have p1 : 0 ≤ (i : Int) := by omega
    have c1i := eq_true c1
    have c1j := eq_true (show i < s.size by omega)
    clear c1
    obtain ⟨J, hJ⟩ : ∃ J, J = (Gd.escL ((bytesOf s).take i)).length := ⟨_, rfl⟩
    have hlen : (Gd.escL ((bytesOf s).take (i + 1))).length = J + (Gd.one B).length := by
     rw [HTK.out, Gd.escL_append, List.length_append, ← hJ]
     simp [Gd.escL]
    have hall : (Gd.escL ((bytesOf s).take (i + 1))).length ≤ s.size + 2 * H := by
     have h1 := Gd.escL_length (bytesOf s)
     rw [bytesOf_length, ← HHIT.out] at h1
     have h2 : (Gd.escL (bytesOf s)).length = (Gd.escL ((bytesOf s).take (i + 1))).length + (Gd.escL ((bytesOf s).drop (i + 1))).length := by
      rw [← List.length_append, ← Gd.escL_append, List.take_append_drop]
     omega
    have hcpn : s.size + 2 * H ≤ cp := (Kd.R_reads' HBUF.out).2.1
    have HBUF2 := Aside0.mk (show Kd.R (Kd.int .u8) 5 wr w.heap.size (fun _ => True) (.slice (some ⟨g, 0, none⟩) (s.size + 2 * H) cp) (Gd.escL ((bytesOf s).take i) ++ List.replicate (s.size + 2 * H - J) 0) from by rw [hJ]; exact HBUF.out)
    rw [← hJ] at ⊢
    have HJJ := Aside0.mk hJ
    have HLEN := Aside0.mk hlen
    have hgw : w.heap.size ≤ g := (Kd.R_base HBUF.out g rfl)
    have HGW := Aside0.mk hgw
    obtain ⟨bcells, hbc⟩ := Kd.R_typed HBUF.out g rfl
    have HGQ := Aside0.mk (show g ≠ q from blk_ne hbc HCURW.out (by decide))
    have HGC := Aside0.mk hbc
    clear HBUF hJ hgw hbc
    by_cases hit : Gd.lv B.toNat < 4
    rotate_left
    ·have hone : Gd.one B = [B] := by unfold Gd.one; rw [if_pos ((Gd.rpl_lv _).2 hit)]
     have hyz : wr.cell? ⟨q, B.toNat, none⟩ = some (.slice none 0 0) := (blk_cell HCURW.out _).trans (by have h := HREP.out B.toNat (by omega); rw [if_neg (fun h => hit h.2)] at h; exact h)
     rw [hone] at HLEN hlen
     have HON := Aside0.mk hone
     have hJ1 : J + 1 ≤ s.size + 2 * H := by simp only [List.length_cons, List.length_nil] at hlen; omega
     have hcl : wr.cell? ⟨g, J, none⟩ = some (.int .u8 (rdOf 0 (Gd.escL ((bytesOf s).take i) ++ List.replicate (s.size + 2 * H - J) 0) (J : Int))) := by
      have h1 := (Kd.R_celln (0 : Int) HBUF2.out (J : Int) (by omega) (by have := (Kd.R_reads' HBUF2.out).1; omega)).1
      rw [Int.toNat_natCast] at h1
      exact h1
     have hfz := blk_frozen HGC.out J
     have hle1 : ((J : Int) < (s.size : Int) + 2 * (H : Int)) = True := eq_true (by omega)
     have hle2 : (J < s.size + 2 * H) = True := eq_true (by omega)
     have HSW : Aside0 (wrap64 ((J : Int) + 1) = ((J + (0 + 1) : Nat) : Int)) := ⟨by have := HSZ.out; have := HLE.out; unfold wrap64; omega⟩
     have HN3 : Aside0 (∃ n3, s.size + 2 * H - J = n3 + 1 ∧ s.size + 2 * H - (J + (0 + 1)) = n3) := ⟨⟨s.size + 2 * H - J - 1, by omega, by omega⟩⟩
     clear hit hlen hall hcpn hone
     go_wp2
     have r3 := (Kd.R_putg HBUF2.out ((J : Nat) : Int) B).1
     simp only [Int.toNat_natCast] at r3
     obtain ⟨n3, hn3, hn4⟩ := HN3.out
     rw [hn3, HJJ.out, Gd.set1] at r3
     have he : Gd.escL ((bytesOf s).take (i + 1)) = Gd.escL ((bytesOf s).take i) ++ [B] := by rw [HTK.out, Gd.escL_append]; congr 1; simp [Gd.escL, HON.out]
     have hl3 := HLEN.out
     simp only [List.length_cons, List.length_nil] at hl3
     have H3 := Aside0.mk (show Kd.R (Kd.int .u8) 5 (wr.setCell ⟨g, J, none⟩ (.int .u8 B)) w.heap.size (fun _ => True) (.slice (some ⟨g, 0, none⟩) (s.size + 2 * H) cp) (Gd.escL ((bytesOf s).take (i + 1)) ++ List.replicate (s.size + 2 * H - (Gd.escL ((bytesOf s).take (i + 1))).length) 0) from by rw [hl3, hn4, he, HJJ.out]; exact r3)
     have hgq := HGQ.out
     have hfar : ∀ k, k ≠ g → (wr.setCell ⟨g, J, none⟩ (.int .u8 B)).heap[k]? = wr.heap[k]? := fun k hk => (Below.heap_setCell _ ⟨g, J, none⟩ _ k hk)
     clear r3 he
     go_roundg (gk - 1)
     case measure => have := HI.out; have := HI2.out; omega
     case rel =>
      refine ⟨i + 1, ?_, ?_, ⟨by have := HI.out; have := HI2.out; omega⟩, H3, ⟨below_set HB.out HGW.out⟩, ⟨(hfar q (Ne.symm hgq)).trans HCURW.out⟩, ⟨fun k l h => Gd.Bw_move (HMV.out k l h) (hfar k (Gd.Bw_ne (HMV.out k l h) HGC.out))⟩⟩
      ·rw [HWI.out]
      ·rw [hl3, HSW.out]
    obtain ⟨s1, cp1, hz, hs1, hBw⟩ := (show ∃ s1 cap, cur[B.toNat]? = some (.slice (some ⟨s1, 0, none⟩) 3 cap) ∧ base ≤ s1 ∧ Gd.Bw w s1 (Gd.rpl B.toNat) from by have h := HREP.out B.toNat (by omega); rw [if_pos ⟨by omega, hit⟩] at h; exact h)
    have hyz : wr.cell? ⟨q, B.toNat, none⟩ = some (.slice (some ⟨s1, 0, none⟩) 3 cp1) := (blk_cell HCURW.out _).trans hz
    have HBW := Aside0.mk (HMV.out _ _ hBw)
    have HZ := Aside0.mk hz
    have h3 := Gd.rpl_len _ hit
    have hone : Gd.one B = Gd.rpl B.toNat := by unfold Gd.one; rw [if_neg (fun e => (Gd.rpl_lv _).1 e hit)]
    rw [hone] at HLEN hlen
    have HON := Aside0.mk hone
    obtain ⟨ra, rb, rc, hrr⟩ : ∃ ra rb rc, Gd.rpl B.toNat = [ra, rb, rc] := by
     generalize Gd.rpl B.toNat = l at h3
     match l, h3 with
     | [x, y, z], _ => exact ⟨x, y, z, rfl⟩
    rw [hrr] at HBW HLEN hlen
    have HRR := Aside0.mk hrr
    have hJ3 : J + 3 ≤ s.size + 2 * H := by simp only [List.length_cons, List.length_nil] at hlen; omega
    have HN3 : Aside0 (∃ n3, s.size + 2 * H - J = n3 + 3 ∧ s.size + 2 * H - (J + (0 + 1 + 1 + 1)) = n3) := ⟨⟨s.size + 2 * H - J - 3, by omega, by omega⟩⟩
    have hcell : ∀ j : Nat, j < s.size + 2 * H → (wr.drew.cell? ⟨g, j, none⟩).isSome = true := fun j hj => by
     have h1 := (Kd.R_celln (0 : Int) HBUF2.out (j : Int) (by omega) (by have := (Kd.R_reads' HBUF2.out).1; omega)).1
     rw [Int.toNat_natCast] at h1
     show (wr.cell? ⟨g, j, none⟩).isSome = true
     rw [h1]; rfl
    have hcp := run_copy_cells (P := Tryz.prog) wr.drew 35 35 3 5 g J (s.size + 2 * H - J) (cp - J) ⟨s1, 0, none⟩ 3 cp1 [.int .u8 ra, .int .u8 rb, .int .u8 rc] Tryz.underlying35 (by kernel_rfl) (by simp only [List.length_cons, List.length_nil]; exact (Nat.min_eq_left (by omega)).symm)
     (fun j v hv => by
      have hw : wr.drew.cell? (Addr.add ⟨s1, 0, none⟩ j) = wr.cell? ⟨s1, j, none⟩ := by rw [show (⟨s1, 0, none⟩ : Addr).add j = ⟨s1, j, none⟩ from by simp [Addr.add, eq_comm]]; rfl
      rw [hw]
      have h1 := fun (hj : j < 3) => Gd.Bw_cell HBW.out (j : Int) (by omega) (by simp; omega)
      rcases j with _ | _ | _ | j
      ·have := h1 (by omega); simp at this hv; rw [this, hv]
      ·have := h1 (by omega); simp at this hv; rw [this, hv]
      ·have := h1 (by omega); simp at this hv; rw [this, hv]
      ·simp at hv)
     (fun j hj => hcell (J + j) (by simp only [List.length_cons, List.length_nil] at hj; omega)) (fun j _ => blk_frozen (w := wr.drew) HGC.out _) (by simp [Value.oneCell'])
    have hle1 : ((J : Int) ≤ (s.size : Int) + 2 * (H : Int)) = True := eq_true (by omega)
    have hne1 : (cp = J) = False := eq_false (by omega)
    have HSW : Aside0 (wrap64 ((J : Int) + 3) = ((J + (0 + 1 + 1 + 1) : Nat) : Int)) := ⟨by have := HSZ.out; have := HLE.out; unfold wrap64; omega⟩
    clear hz hBw hs1 hit hcell hlen hall hcpn h3 hone
    go_upto_region 28 with fail
    go_region
    go_wp2
    have hsc : wr.drew.setCells g J [.int .u8 ra, .int .u8 rb, .int .u8 rc] = ((wr.drew.setCell ⟨g, J, none⟩ (.int .u8 ra)).setCell ⟨g, J + 1, none⟩ (.int .u8 rb)).setCell ⟨g, J + 2, none⟩ (.int .u8 rc) := by simp [World.setCells]
    rw [hsc]
    have r1 := (Kd.R_putg (Kd.R_drew HBUF2.out) ((J : Nat) : Int) ra).1
    have r2 := (Kd.R_putg r1 ((J + 1 : Nat) : Int) rb).1
    have r3 := (Kd.R_putg r2 ((J + 2 : Nat) : Int) rc).1
    simp only [Int.toNat_natCast] at r3
    obtain ⟨n3, hn3, hn4⟩ := HN3.out
    rw [hn3, HJJ.out, Gd.set3] at r3
    have he : Gd.escL ((bytesOf s).take (i + 1)) = Gd.escL ((bytesOf s).take i) ++ [ra, rb, rc] := by rw [HTK.out, Gd.escL_append]; congr 1; simp [Gd.escL, HON.out, HRR.out]
    have hl3 := HLEN.out
    simp only [List.length_cons, List.length_nil] at hl3
    have H3 := Aside0.mk (show Kd.R (Kd.int .u8) 5 (((wr.drew.setCell ⟨g, J, none⟩ (.int .u8 ra)).setCell ⟨g, J + 1, none⟩ (.int .u8 rb)).setCell ⟨g, J + 2, none⟩ (.int .u8 rc)) w.heap.size (fun _ => True) (.slice (some ⟨g, 0, none⟩) (s.size + 2 * H) cp) (Gd.escL ((bytesOf s).take (i + 1)) ++ List.replicate (s.size + 2 * H - (Gd.escL ((bytesOf s).take (i + 1))).length) 0) from by rw [hl3, hn4, he, HJJ.out]; exact r3)
    have hgq := HGQ.out
    have hfar : ∀ k, k ≠ g → (((wr.drew.setCell ⟨g, J, none⟩ (.int .u8 ra)).setCell ⟨g, J + 1, none⟩ (.int .u8 rb)).setCell ⟨g, J + 2, none⟩ (.int .u8 rc)).heap[k]? = wr.heap[k]? := fun k hk => (Below.heap_setCell _ ⟨g, J + 2, none⟩ _ k hk).trans ((Below.heap_setCell _ ⟨g, J + 1, none⟩ _ k hk).trans (Below.heap_setCell _ ⟨g, J, none⟩ _ k hk))
    clear r1 r2 r3 he hsc hcp
    go_roundg (gk - 1)
    case measure => have := HI.out; have := HI2.out; omega
    case rel =>
     refine ⟨i + 1, ?_, ?_, ⟨by have := HI.out; have := HI2.out; omega⟩, H3, ⟨below_set (below_set (below_set (below_drew HB.out) HGW.out) HGW.out) HGW.out⟩, ⟨(hfar q (Ne.symm hgq)).trans HCURW.out⟩, ⟨fun k l h => Gd.Bw_move (HMV.out k l h) (hfar k (Gd.Bw_ne (HMV.out k l h) HGC.out))⟩⟩
     ·rw [HWI.out]
     ·rw [hl3, HSW.out]
 have c32b : decide ((32 : Int) ≤ (s.size : Int)) = true := decide_eq_true c32
 have c32c : decide (32 ≤ s.size) = true := decide_eq_true (by omega)
 clear c32
 go_enter Tryz.func264, Tryz.ntmps264
 go_upto_region 5 with fail
 go_loopg [5, 6, 32] 4 (fun kq v5 v6 v32 w' => ∃ (k : Nat), v32 = .int .i64 (k : Int) ∧ v5 = .int .i64 ((s.size : Int) + 2 * (Gd.pc s k : Int)) ∧ v6 = .bool (decide (0 < Gd.pc s k)) ∧ Aside0 (k + kq = 4) ∧ Aside0 (w'.heap = w.heap) ∧ Aside0 (Below w.heap.size w w'))
 case atStart => exact ⟨0, rfl, by simp [Gd.pc], by simp [Gd.pc], ⟨rfl⟩, ⟨rfl⟩, HB⟩
 case round =>
  clear HB
  obtain ⟨k, rfl, rfl, rfl, HK, HH, HB⟩ := hrel
  have hk4 : k ≤ 4 := by have := HK.out; omega
  obtain rfl | rfl | rfl | rfl | rfl : k = 4 ∨ k = 0 ∨ k = 1 ∨ k = 2 ∨ k = 3 := by omega
  ·have HIT := Gd.pc_hits s
   clear x0 x1 x2 x3
   have hH : Gd.pc s 4 = Gd.hits (bytesOf s) := HIT
   obtain ⟨H, hHe⟩ : ∃ H, H = Gd.pc s 4 := ⟨_, rfl⟩
   rw [← hHe] at hH ⊢
   clear hHe
   have HHIT := Aside0.mk hH
   have HCURW := Aside0.mk (show wr.heap[q]? = some (.cells cur 192 (0, 0)) from by rw [HH.out]; exact HCUR.out)
   have HMV : Aside0 (∀ g l, Gd.Bw w g l → Gd.Bw wr g l) := ⟨fun g l h => Gd.Bw_move h (by rw [HH.out])⟩
   clear hH HH HCUR hcv
   by_cases h0 : H = 0
   ·subst h0
    have hd0 : decide (0 < 0) = false := rfl
    go_wp2
    go_ret
    exact ⟨by rw [show Gd.esc s = s from by unfold Gd.esc; rw [Gd.escL_none _ HHIT.out.symm, Gd.str_bytes]]; rfl, HB.out⟩
   have hd0 : decide (0 < H) = true := decide_eq_true (by omega)
   have hHle : H ≤ s.size := by rw [HHIT.out, ← bytesOf_length s]; exact List.length_filter_le _ _
   have hsz := HSZ.out
   have HP := Aside0.mk (show 0 < s.size by omega)
   have HLE := Aside0.mk hHle
   clear hHle
   go_upto_region 23 with ((with_reducible refine gate_dst (N := 85) rfl ?_); refine Kd.R_make (Kd.int .u8) _ 5 rfl (N := 85) rfl 35 _ _ rfl ((s.size : Int) + 2 * (H : Int)) rfl rfl Tryz.underlying35 (.int .u8 0) 1 (by kernel_rfl) rfl (by decide) (by omega) 0 (ok := fun _ => True) (okp := fun _ => True) rfl (fun _ hk => hk) trivial (by omega) (by have := HLE.out; omega) (Below.refl _ _) (Nat.le_refl _) ?_; intro v w5 ho hb hg_ hnew_; clear hg_ hnew_; rw [show ((s.size : Int) + 2 * (H : Int)).toNat = s.size + 2 * H by omega] at ho; obtain ⟨g, cp, ev, _⟩ := Kd.R_form ho (by rw [List.length_replicate]; have := HP.out; omega); subst ev; rw [List.length_replicate] at ho; have HBUF := Aside0.mk (Kd.R_lower ho (below_size HB.out)); have n0_ := Aside0.mk (below_step HB.out hb); have n1_ := Aside0.mk (blk_below HCURW.out hb); have n2_ : Aside0 (∀ g l, Gd.Bw w g l → Gd.Bw w5 g l) := ⟨fun g l h => Gd.Bw_move (HMV.out g l h) (hb.block g (Gd.Bw_lt (HMV.out g l h)))⟩; clear HB HCURW HMV hb ho; have HB := n0_; have HCURW := n1_; have HMV := n2_; clear n0_ n1_ n2_)
   go_upto_region 24 with fail
   go_loopg [13, 14] s.size (fun kq v13 v14 w' => ∃ (i : Nat), v14 = .int .i64 (i : Int) ∧ v13 = .int .i64 ((Gd.escL ((bytesOf s).take i)).length : Int) ∧ Aside0 (i + kq = s.size) ∧ Aside0 (Kd.R (Kd.int .u8) 5 w' w.heap.size (fun _ => True) (.slice (some ⟨g, 0, none⟩) (s.size + 2 * H) cp) (Gd.escL ((bytesOf s).take i) ++ List.replicate (s.size + 2 * H - (Gd.escL ((bytesOf s).take i)).length) 0)) ∧ Aside0 (Below w.heap.size w w') ∧ Aside0 (w'.heap[q]? = some (.cells cur 192 (0, 0))) ∧ Aside0 (∀ g l, Gd.Bw w g l → Gd.Bw w' g l))
   case atStart => exact ⟨0, rfl, rfl, ⟨by omega⟩, HBUF, HB, HCURW, HMV⟩
   case round =>
    clear HBUF HB HCURW HMV
    obtain ⟨i, rfl, rfl, HI, HBUF, HB, HCURW, HMV⟩ := hrel
    by_cases c1 : (i : Int) < (s.size : Int)
    rotate_left
    ·have c1b0 := decide_eq_false c1
     have c1b1 : decide (i < s.size) = false := decide_eq_false (by omega)
     have hi : i = s.size := by have := HI.out; omega
     have hfull : (bytesOf s).take i = bytesOf s := List.take_of_length_le (by rw [bytesOf_length]; omega)
     have hln : (Gd.escL (bytesOf s)).length = s.size + 2 * H := by rw [Gd.escL_length, bytesOf_length, ← HHIT.out]
     have HF := Aside0.mk (show Kd.R (Kd.int .u8) 5 wr w.heap.size (fun _ => True) (.slice (some ⟨g, 0, none⟩) (s.size + 2 * H) cp) (Gd.escL (bytesOf s)) from by have h := HBUF.out; rw [hfull, hln, Nat.sub_self, List.replicate_zero, List.append_nil] at h; exact h)
     have hcv7 := own_string (P := Tryz.prog) Tryz.underlying35 Tryz.underlying5 Tryz.underlying9 (Kd.own_of_R HF.out)
     clear c1 hi hfull hln HBUF
     go_wp2
     go_ret
     exact ⟨rfl, HB.out⟩
    have c1b0 := decide_eq_true c1
    have c1b1 : decide (i < s.size) = true := decide_eq_true (by omega)
    have HWI : Aside0 (wrap64 ((i : Int) + 1) = ((i + 1 : Nat) : Int)) := ⟨by have := HSZ.out; unfold wrap64; omega⟩
    have hx : ∀ h : i < s.size, ((s[i]'h).toNat : Int) = bt s (i : Int) := bt_at s (i : Int)
    obtain ⟨B, hB⟩ : ∃ B, bt s (i : Int) = B := ⟨_, rfl⟩
    have hB0 : 0 ≤ B := by rw [← hB]; exact (bt_range s _).1
    have hB1 : B < 256 := by rw [← hB]; have := (bt_range s (i : Int)).2; omega
    have hdrop : (bytesOf s).take (i + 1) = (bytesOf s).take i ++ [B] := by
     rw [List.take_succ_eq_append_getElem (by rw [bytesOf_length]; omega)]
     congr 2
     have h1 := rd_bytesOf s (i : Int)
     unfold rd at h1
     rw [Int.toNat_natCast, List.getD_eq_getElem?_getD, List.getElem?_eq_getElem (by rw [bytesOf_length]; omega)] at h1
     simpa [hB] using h1
    rw [hB] at hx
    have HTK := Aside0.mk hdrop
    have HI2 := Aside0.mk (show i < s.size by omega)
    clear hB hdrop
    have p1 : 0 ≤ (i : Int) := by omega
    have c1i := eq_true c1
    have c1j := eq_true (show i < s.size by omega)
    clear c1
    obtain ⟨J, hJ⟩ : ∃ J, J = (Gd.escL ((bytesOf s).take i)).length := ⟨_, rfl⟩
    have hlen : (Gd.escL ((bytesOf s).take (i + 1))).length = J + (Gd.one B).length := by
     rw [HTK.out, Gd.escL_append, List.length_append, ← hJ]
     simp [Gd.escL]
    have hall : (Gd.escL ((bytesOf s).take (i + 1))).length ≤ s.size + 2 * H := by
     have h1 := Gd.escL_length (bytesOf s)
     rw [bytesOf_length, ← HHIT.out] at h1
     have h2 : (Gd.escL (bytesOf s)).length = (Gd.escL ((bytesOf s).take (i + 1))).length + (Gd.escL ((bytesOf s).drop (i + 1))).length := by
      rw [← List.length_append, ← Gd.escL_append, List.take_append_drop]
     omega
    have hcpn : s.size + 2 * H ≤ cp := (Kd.R_reads' HBUF.out).2.1
    have HBUF2 := Aside0.mk (show Kd.R (Kd.int .u8) 5 wr w.heap.size (fun _ => True) (.slice (some ⟨g, 0, none⟩) (s.size + 2 * H) cp) (Gd.escL ((bytesOf s).take i) ++ List.replicate (s.size + 2 * H - J) 0) from by rw [hJ]; exact HBUF.out)
    rw [← hJ] at ⊢
    have HJJ := Aside0.mk hJ
    have HLEN := Aside0.mk hlen
    have hgw : w.heap.size ≤ g := (Kd.R_base HBUF.out g rfl)
    have HGW := Aside0.mk hgw
    obtain ⟨bcells, hbc⟩ := Kd.R_typed HBUF.out g rfl
    have HGQ := Aside0.mk (show g ≠ q from blk_ne hbc HCURW.out (by decide))
    have HGC := Aside0.mk hbc
    clear HBUF hJ hgw hbc
    by_cases hit : Gd.lv B.toNat < 4
    rotate_left
    ·have hone : Gd.one B = [B] := by unfold Gd.one; rw [if_pos ((Gd.rpl_lv _).2 hit)]
     have hyz : wr.cell? ⟨q, B.toNat, none⟩ = some (.slice none 0 0) := (blk_cell HCURW.out _).trans (by have h := HREP.out B.toNat (by omega); rw [if_neg (fun h => hit h.2)] at h; exact h)
     rw [hone] at HLEN hlen
     have HON := Aside0.mk hone
     have hJ1 : J + 1 ≤ s.size + 2 * H := by simp only [List.length_cons, List.length_nil] at hlen; omega
     have hcl : wr.cell? ⟨g, J, none⟩ = some (.int .u8 (rdOf 0 (Gd.escL ((bytesOf s).take i) ++ List.replicate (s.size + 2 * H - J) 0) (J : Int))) := by
      have h1 := (Kd.R_celln (0 : Int) HBUF2.out (J : Int) (by omega) (by have := (Kd.R_reads' HBUF2.out).1; omega)).1
      rw [Int.toNat_natCast] at h1
      exact h1
     have hfz := blk_frozen HGC.out J
     have hle1 : ((J : Int) < (s.size : Int) + 2 * (H : Int)) = True := eq_true (by omega)
     have hle2 : (J < s.size + 2 * H) = True := eq_true (by omega)
     have HSW : Aside0 (wrap64 ((J : Int) + 1) = ((J + (0 + 1) : Nat) : Int)) := ⟨by have := HSZ.out; have := HLE.out; unfold wrap64; omega⟩
     have HN3 : Aside0 (∃ n3, s.size + 2 * H - J = n3 + 1 ∧ s.size + 2 * H - (J + (0 + 1)) = n3) := ⟨⟨s.size + 2 * H - J - 1, by omega, by omega⟩⟩
     clear hit hlen hall hcpn hone
     go_wp2
     have r3 := (Kd.R_putg HBUF2.out ((J : Nat) : Int) B).1
     simp only [Int.toNat_natCast] at r3
     obtain ⟨n3, hn3, hn4⟩ := HN3.out
     rw [hn3, HJJ.out, Gd.set1] at r3
     have he : Gd.escL ((bytesOf s).take (i + 1)) = Gd.escL ((bytesOf s).take i) ++ [B] := by rw [HTK.out, Gd.escL_append]; congr 1; simp [Gd.escL, HON.out]
     have hl3 := HLEN.out
     simp only [List.length_cons, List.length_nil] at hl3
     have H3 := Aside0.mk (show Kd.R (Kd.int .u8) 5 (wr.setCell ⟨g, J, none⟩ (.int .u8 B)) w.heap.size (fun _ => True) (.slice (some ⟨g, 0, none⟩) (s.size + 2 * H) cp) (Gd.escL ((bytesOf s).take (i + 1)) ++ List.replicate (s.size + 2 * H - (Gd.escL ((bytesOf s).take (i + 1))).length) 0) from by rw [hl3, hn4, he, HJJ.out]; exact r3)
     have hgq := HGQ.out
     have hfar : ∀ k, k ≠ g → (wr.setCell ⟨g, J, none⟩ (.int .u8 B)).heap[k]? = wr.heap[k]? := fun k hk => (Below.heap_setCell _ ⟨g, J, none⟩ _ k hk)
     clear r3 he
     go_roundg (gk - 1)
     case measure => have := HI.out; have := HI2.out; omega
     case rel =>
      refine ⟨i + 1, ?_, ?_, ⟨by have := HI.out; have := HI2.out; omega⟩, H3, ⟨below_set HB.out HGW.out⟩, ⟨(hfar q (Ne.symm hgq)).trans HCURW.out⟩, ⟨fun k l h => Gd.Bw_move (HMV.out k l h) (hfar k (Gd.Bw_ne (HMV.out k l h) HGC.out))⟩⟩
      ·rw [HWI.out]
      ·rw [hl3, HSW.out]
    obtain ⟨s1, cp1, hz, hs1, hBw⟩ := (show ∃ s1 cap, cur[B.toNat]? = some (.slice (some ⟨s1, 0, none⟩) 3 cap) ∧ base ≤ s1 ∧ Gd.Bw w s1 (Gd.rpl B.toNat) from by have h := HREP.out B.toNat (by omega); rw [if_pos ⟨by omega, hit⟩] at h; exact h)
    have hyz : wr.cell? ⟨q, B.toNat, none⟩ = some (.slice (some ⟨s1, 0, none⟩) 3 cp1) := (blk_cell HCURW.out _).trans hz
    have HBW := Aside0.mk (HMV.out _ _ hBw)
    have HZ := Aside0.mk hz
    have h3 := Gd.rpl_len _ hit
    have hone : Gd.one B = Gd.rpl B.toNat := by unfold Gd.one; rw [if_neg (fun e => (Gd.rpl_lv _).1 e hit)]
    rw [hone] at HLEN hlen
    have HON := Aside0.mk hone
    obtain ⟨ra, rb, rc, hrr⟩ : ∃ ra rb rc, Gd.rpl B.toNat = [ra, rb, rc] := by
     generalize Gd.rpl B.toNat = l at h3
     match l, h3 with
     | [x, y, z], _ => exact ⟨x, y, z, rfl⟩
    rw [hrr] at HBW HLEN hlen
    have HRR := Aside0.mk hrr
    have hJ3 : J + 3 ≤ s.size + 2 * H := by simp only [List.length_cons, List.length_nil] at hlen; omega
    have HN3 : Aside0 (∃ n3, s.size + 2 * H - J = n3 + 3 ∧ s.size + 2 * H - (J + (0 + 1 + 1 + 1)) = n3) := ⟨⟨s.size + 2 * H - J - 3, by omega, by omega⟩⟩
    have hcell : ∀ j : Nat, j < s.size + 2 * H → (wr.drew.cell? ⟨g, j, none⟩).isSome = true := fun j hj => by
     have h1 := (Kd.R_celln (0 : Int) HBUF2.out (j : Int) (by omega) (by have := (Kd.R_reads' HBUF2.out).1; omega)).1
     rw [Int.toNat_natCast] at h1
     show (wr.cell? ⟨g, j, none⟩).isSome = true
     rw [h1]; rfl
    have hcp := run_copy_cells (P := Tryz.prog) wr.drew 35 35 3 5 g J (s.size + 2 * H - J) (cp - J) ⟨s1, 0, none⟩ 3 cp1 [.int .u8 ra, .int .u8 rb, .int .u8 rc] Tryz.underlying35 (by kernel_rfl) (by simp only [List.length_cons, List.length_nil]; exact (Nat.min_eq_left (by omega)).symm)
     (fun j v hv => by
      have hw : wr.drew.cell? (Addr.add ⟨s1, 0, none⟩ j) = wr.cell? ⟨s1, j, none⟩ := by rw [show (⟨s1, 0, none⟩ : Addr).add j = ⟨s1, j, none⟩ from by simp [Addr.add, eq_comm]]; rfl
      rw [hw]
      have h1 := fun (hj : j < 3) => Gd.Bw_cell HBW.out (j : Int) (by omega) (by simp; omega)
      rcases j with _ | _ | _ | j
      ·have := h1 (by omega); simp at this hv; rw [this, hv]
      ·have := h1 (by omega); simp at this hv; rw [this, hv]
      ·have := h1 (by omega); simp at this hv; rw [this, hv]
      ·simp at hv)
     (fun j hj => hcell (J + j) (by simp only [List.length_cons, List.length_nil] at hj; omega)) (fun j _ => blk_frozen (w := wr.drew) HGC.out _) (by simp [Value.oneCell'])
    have hle1 : ((J : Int) ≤ (s.size : Int) + 2 * (H : Int)) = True := eq_true (by omega)
    have hne1 : (cp = J) = False := eq_false (by omega)
    have HSW : Aside0 (wrap64 ((J : Int) + 3) = ((J + (0 + 1 + 1 + 1) : Nat) : Int)) := ⟨by have := HSZ.out; have := HLE.out; unfold wrap64; omega⟩
    clear hz hBw hs1 hit hcell hlen hall hcpn h3 hone
    go_upto_region 28 with fail
    go_region
    go_wp2
    have hsc : wr.drew.setCells g J [.int .u8 ra, .int .u8 rb, .int .u8 rc] = ((wr.drew.setCell ⟨g, J, none⟩ (.int .u8 ra)).setCell ⟨g, J + 1, none⟩ (.int .u8 rb)).setCell ⟨g, J + 2, none⟩ (.int .u8 rc) := by simp [World.setCells]
    rw [hsc]
    have r1 := (Kd.R_putg (Kd.R_drew HBUF2.out) ((J : Nat) : Int) ra).1
    have r2 := (Kd.R_putg r1 ((J + 1 : Nat) : Int) rb).1
    have r3 := (Kd.R_putg r2 ((J + 2 : Nat) : Int) rc).1
    simp only [Int.toNat_natCast] at r3
    obtain ⟨n3, hn3, hn4⟩ := HN3.out
    rw [hn3, HJJ.out, Gd.set3] at r3
    have he : Gd.escL ((bytesOf s).take (i + 1)) = Gd.escL ((bytesOf s).take i) ++ [ra, rb, rc] := by rw [HTK.out, Gd.escL_append]; congr 1; simp [Gd.escL, HON.out, HRR.out]
    have hl3 := HLEN.out
    simp only [List.length_cons, List.length_nil] at hl3
    have H3 := Aside0.mk (show Kd.R (Kd.int .u8) 5 (((wr.drew.setCell ⟨g, J, none⟩ (.int .u8 ra)).setCell ⟨g, J + 1, none⟩ (.int .u8 rb)).setCell ⟨g, J + 2, none⟩ (.int .u8 rc)) w.heap.size (fun _ => True) (.slice (some ⟨g, 0, none⟩) (s.size + 2 * H) cp) (Gd.escL ((bytesOf s).take (i + 1)) ++ List.replicate (s.size + 2 * H - (Gd.escL ((bytesOf s).take (i + 1))).length) 0) from by rw [hl3, hn4, he, HJJ.out]; exact r3)
    have hgq := HGQ.out
    have hfar : ∀ k, k ≠ g → (((wr.drew.setCell ⟨g, J, none⟩ (.int .u8 ra)).setCell ⟨g, J + 1, none⟩ (.int .u8 rb)).setCell ⟨g, J + 2, none⟩ (.int .u8 rc)).heap[k]? = wr.heap[k]? := fun k hk => (Below.heap_setCell _ ⟨g, J + 2, none⟩ _ k hk).trans ((Below.heap_setCell _ ⟨g, J + 1, none⟩ _ k hk).trans (Below.heap_setCell _ ⟨g, J, none⟩ _ k hk))
    clear r1 r2 r3 he hsc hcp
    go_roundg (gk - 1)
    case measure => have := HI.out; have := HI2.out; omega
    case rel =>
     refine ⟨i + 1, ?_, ?_, ⟨by have := HI.out; have := HI2.out; omega⟩, H3, ⟨below_set (below_set (below_set (below_drew HB.out) HGW.out) HGW.out) HGW.out⟩, ⟨(hfar q (Ne.symm hgq)).trans HCURW.out⟩, ⟨fun k l h => Gd.Bw_move (HMV.out k l h) (hfar k (Gd.Bw_ne (HMV.out k l h) HGC.out))⟩⟩
     ·rw [HWI.out]
     ·rw [hl3, HSW.out]
  ·have hcnt : (Gd.pc s 1 : Int) = (Gd.pc s 0 : Int) + (Lib.countByte s.data.toList 92 : Int) := by simp [Gd.pc]
   have hle := Gd.pc_le s 1
   have hsz := HSZ.out
   have hx : wr.cell? ⟨t, 0, none⟩ = some (.string ⟨#[92]⟩) := (show wr.cell? _ = w.cell? _ by simp only [World.cell?, HH.out]).trans x0
   have hy : wr.cell? ⟨q, 256, none⟩ = some (.slice (some ⟨t, 0, none⟩) 4 ct) := (show wr.cell? _ = w.cell? _ by simp only [World.cell?, HH.out]).trans hcv
   obtain ⟨s1, cp1, hz, _, _⟩ := (show ∃ s1 cap, cur[92]? = some (.slice (some ⟨s1, 0, none⟩) 3 cap) ∧ base ≤ s1 ∧ Gd.Bw w s1 (Gd.rpl 92) from by have h := HREP.out 92 (by omega); rw [if_pos (by decide)] at h; exact h)
   have hy2 : wr.cell? ⟨q, 92, none⟩ = some (.slice (some ⟨s1, 0, none⟩) 3 cp1) := (show wr.cell? _ = w.cell? _ by simp only [World.cell?, HH.out]).trans ((blk_cell HCUR.out 92).trans hz)
   generalize hN : Lib.countByte s.data.toList 92 = N at hcnt
   have HC := Aside0.mk (And.intro hcnt (And.intro hle hsz))
   have HN := Aside0.mk hN
   clear hcnt hle hsz hN hz
   go_upto_region 8 with (go_at_call 266; refine (Gd.count s 92 _).mono ?_; rintro e w' ⟨rfl, rfl⟩; rw [HN.out])
   by_cases hn0 : N = 0
   ·subst hn0
    have hnb : (((0 : Nat) : Int) != 0) = false := rfl
    go_wp2
    go_roundg (gk - 1)
    case measure => have := HK.out; omega
    case rel => exact ⟨1, rfl, by rw [HC.out.1]; simp, by have := HC.out.1; rw [show Gd.pc s 1 = Gd.pc s 0 by omega], ⟨by have := HK.out; omega⟩, HH, HB⟩
   have hnb : (((N : Nat) : Int) != 0) = true := by simp; omega
   have hby : ∀ h : 0 < (⟨#[92]⟩ : ByteArray).size, (((⟨#[92]⟩ : ByteArray)[0]'h).toNat : Int) = 92 := fun _ => rfl
   go_upto_region 9 with fail
   go_region
   go_wp2
   go_roundg (gk - 1)
   case measure => have := HK.out; omega
   case rel => exact ⟨1, rfl, by rw [HC.out.1]; have h2 := HC.out.2.1; have h3 := HC.out.2.2; have h1 := HC.out.1; congr 1; unfold wrap64; omega, by have := HC.out.1; rw [decide_eq_true (show 0 < Gd.pc s 1 by omega)], ⟨by have := HK.out; omega⟩, ⟨HH.out⟩, ⟨below_drew HB.out⟩⟩
  ·have hcnt : (Gd.pc s 2 : Int) = (Gd.pc s 1 : Int) + (Lib.countByte s.data.toList 41 : Int) := by simp [Gd.pc]
   have hle := Gd.pc_le s 2
   have hsz := HSZ.out
   have hx : wr.cell? ⟨t, 1, none⟩ = some (.string ⟨#[41]⟩) := (show wr.cell? _ = w.cell? _ by simp only [World.cell?, HH.out]).trans x1
   have hy : wr.cell? ⟨q, 256, none⟩ = some (.slice (some ⟨t, 0, none⟩) 4 ct) := (show wr.cell? _ = w.cell? _ by simp only [World.cell?, HH.out]).trans hcv
   obtain ⟨s1, cp1, hz, _, _⟩ := (show ∃ s1 cap, cur[41]? = some (.slice (some ⟨s1, 0, none⟩) 3 cap) ∧ base ≤ s1 ∧ Gd.Bw w s1 (Gd.rpl 41) from by have h := HREP.out 41 (by omega); rw [if_pos (by decide)] at h; exact h)
   have hy2 : wr.cell? ⟨q, 41, none⟩ = some (.slice (some ⟨s1, 0, none⟩) 3 cp1) := (show wr.cell? _ = w.cell? _ by simp only [World.cell?, HH.out]).trans ((blk_cell HCUR.out 41).trans hz)
   generalize hN : Lib.countByte s.data.toList 41 = N at hcnt
   have HC := Aside0.mk (And.intro hcnt (And.intro hle hsz))
   have HN := Aside0.mk hN
   clear hcnt hle hsz hN hz
   go_upto_region 8 with (go_at_call 266; refine (Gd.count s 41 _).mono ?_; rintro e w' ⟨rfl, rfl⟩; rw [HN.out])
   by_cases hn0 : N = 0
   ·subst hn0
    have hnb : (((0 : Nat) : Int) != 0) = false := rfl
    go_wp2
    go_roundg (gk - 1)
    case measure => have := HK.out; omega
    case rel => exact ⟨2, rfl, by rw [HC.out.1]; simp, by have := HC.out.1; rw [show Gd.pc s 2 = Gd.pc s 1 by omega], ⟨by have := HK.out; omega⟩, HH, HB⟩
   have hnb : (((N : Nat) : Int) != 0) = true := by simp; omega
   have hby : ∀ h : 0 < (⟨#[41]⟩ : ByteArray).size, (((⟨#[41]⟩ : ByteArray)[0]'h).toNat : Int) = 41 := fun _ => rfl
   go_upto_region 9 with fail
   go_region
   go_wp2
   go_roundg (gk - 1)
   case measure => have := HK.out; omega
   case rel => exact ⟨2, rfl, by rw [HC.out.1]; have h2 := HC.out.2.1; have h3 := HC.out.2.2; have h1 := HC.out.1; congr 1; unfold wrap64; omega, by have := HC.out.1; rw [decide_eq_true (show 0 < Gd.pc s 2 by omega)], ⟨by have := HK.out; omega⟩, ⟨HH.out⟩, ⟨below_drew HB.out⟩⟩
  ·have hcnt : (Gd.pc s 3 : Int) = (Gd.pc s 2 : Int) + (Lib.countByte s.data.toList 40 : Int) := by simp [Gd.pc]
   have hle := Gd.pc_le s 3
   have hsz := HSZ.out
   have hx : wr.cell? ⟨t, 2, none⟩ = some (.string ⟨#[40]⟩) := (show wr.cell? _ = w.cell? _ by simp only [World.cell?, HH.out]).trans x2
   have hy : wr.cell? ⟨q, 256, none⟩ = some (.slice (some ⟨t, 0, none⟩) 4 ct) := (show wr.cell? _ = w.cell? _ by simp only [World.cell?, HH.out]).trans hcv
   obtain ⟨s1, cp1, hz, _, _⟩ := (show ∃ s1 cap, cur[40]? = some (.slice (some ⟨s1, 0, none⟩) 3 cap) ∧ base ≤ s1 ∧ Gd.Bw w s1 (Gd.rpl 40) from by have h := HREP.out 40 (by omega); rw [if_pos (by decide)] at h; exact h)
   have hy2 : wr.cell? ⟨q, 40, none⟩ = some (.slice (some ⟨s1, 0, none⟩) 3 cp1) := (show wr.cell? _ = w.cell? _ by simp only [World.cell?, HH.out]).trans ((blk_cell HCUR.out 40).trans hz)
   generalize hN : Lib.countByte s.data.toList 40 = N at hcnt
   have HC := Aside0.mk (And.intro hcnt (And.intro hle hsz))
   have HN := Aside0.mk hN
   clear hcnt hle hsz hN hz
   go_upto_region 8 with (go_at_call 266; refine (Gd.count s 40 _).mono ?_; rintro e w' ⟨rfl, rfl⟩; rw [HN.out])
   by_cases hn0 : N = 0
   ·subst hn0
    have hnb : (((0 : Nat) : Int) != 0) = false := rfl
    go_wp2
    go_roundg (gk - 1)
    case measure => have := HK.out; omega
    case rel => exact ⟨3, rfl, by rw [HC.out.1]; simp, by have := HC.out.1; rw [show Gd.pc s 3 = Gd.pc s 2 by omega], ⟨by have := HK.out; omega⟩, HH, HB⟩
   have hnb : (((N : Nat) : Int) != 0) = true := by simp; omega
   have hby : ∀ h : 0 < (⟨#[40]⟩ : ByteArray).size, (((⟨#[40]⟩ : ByteArray)[0]'h).toNat : Int) = 40 := fun _ => rfl
   go_upto_region 9 with fail
   go_region
   go_wp2
   go_roundg (gk - 1)
   case measure => have := HK.out; omega
   case rel => exact ⟨3, rfl, by rw [HC.out.1]; have h2 := HC.out.2.1; have h3 := HC.out.2.2; have h1 := HC.out.1; congr 1; unfold wrap64; omega, by have := HC.out.1; rw [decide_eq_true (show 0 < Gd.pc s 3 by omega)], ⟨by have := HK.out; omega⟩, ⟨HH.out⟩, ⟨below_drew HB.out⟩⟩
  ·have hcnt : (Gd.pc s 4 : Int) = (Gd.pc s 3 : Int) + (Lib.countByte s.data.toList 42 : Int) := by simp [Gd.pc]
   have hle := Gd.pc_le s 4
   have hsz := HSZ.out
   have hx : wr.cell? ⟨t, 3, none⟩ = some (.string ⟨#[42]⟩) := (show wr.cell? _ = w.cell? _ by simp only [World.cell?, HH.out]).trans x3
   have hy : wr.cell? ⟨q, 256, none⟩ = some (.slice (some ⟨t, 0, none⟩) 4 ct) := (show wr.cell? _ = w.cell? _ by simp only [World.cell?, HH.out]).trans hcv
   obtain ⟨s1, cp1, hz, _, _⟩ := (show ∃ s1 cap, cur[42]? = some (.slice (some ⟨s1, 0, none⟩) 3 cap) ∧ base ≤ s1 ∧ Gd.Bw w s1 (Gd.rpl 42) from by have h := HREP.out 42 (by omega); rw [if_pos (by decide)] at h; exact h)
   have hy2 : wr.cell? ⟨q, 42, none⟩ = some (.slice (some ⟨s1, 0, none⟩) 3 cp1) := (show wr.cell? _ = w.cell? _ by simp only [World.cell?, HH.out]).trans ((blk_cell HCUR.out 42).trans hz)
   generalize hN : Lib.countByte s.data.toList 42 = N at hcnt
   have HC := Aside0.mk (And.intro hcnt (And.intro hle hsz))
   have HN := Aside0.mk hN
   clear hcnt hle hsz hN hz
   go_upto_region 8 with (go_at_call 266; refine (Gd.count s 42 _).mono ?_; rintro e w' ⟨rfl, rfl⟩; rw [HN.out])
   by_cases hn0 : N = 0
   ·subst hn0
    have hnb : (((0 : Nat) : Int) != 0) = false := rfl
    go_wp2
    go_roundg (gk - 1)
    case measure => have := HK.out; omega
    case rel => exact ⟨4, rfl, by rw [HC.out.1]; simp, by have := HC.out.1; rw [show Gd.pc s 4 = Gd.pc s 3 by omega], ⟨by have := HK.out; omega⟩, HH, HB⟩
   have hnb : (((N : Nat) : Int) != 0) = true := by simp; omega
   have hby : ∀ h : 0 < (⟨#[42]⟩ : ByteArray).size, (((⟨#[42]⟩ : ByteArray)[0]'h).toNat : Int) = 42 := fun _ => rfl
   go_upto_region 9 with fail
   go_region
   go_wp2
   go_roundg (gk - 1)
   case measure => have := HK.out; omega
   case rel => exact ⟨4, rfl, by rw [HC.out.1]; have h2 := HC.out.2.1; have h3 := HC.out.2.2; have h1 := HC.out.1; congr 1; unfold wrap64; omega, by have := HC.out.1; rw [decide_eq_true (show 0 < Gd.pc s 4 by omega)], ⟨by have := HK.out; omega⟩, ⟨HH.out⟩, ⟨below_drew HB.out⟩⟩
set_option maxRecDepth 100000 in
set_option maxHeartbeats 4000000 in
theorem Gd.buildOnce (b t0 c2 : Nat) (x0 x1 x2 : Value) (w : World) (hb : w.heap[b]? = some (.cells #[x0, x1, x2, .nilIface, .slice (some ⟨t0, 0, none⟩) 8 c2] 144 (0, 0))) (hcells : ∀ j x, Gd.lits[j]? = some x → w.cell? ⟨t0, j, none⟩ = some (.string x)) :
  Calls Tryz.prog 112 #[.pointer (some ⟨b, 0, none⟩)] w fun e w' => e = .returned (.tuple #[]) ∧ ∃ q, w'.heap[b]? = some (.cells #[x0, x1, x2, .iface 193 (.pointer (some ⟨q, 0, none⟩)), .slice none 0 0] 144 (0, 0)) ∧ Gd.BS w' w.heap.size q 0 ∧ w.grownBy w' (some b) := by
 have hu := Tryz.underlying144
 have h4 : w.cell? ⟨b, 4, none⟩ = some (.slice (some ⟨t0, 0, none⟩) 8 c2) := (blk_cell hb 4).trans rfl
 have HBK := Aside0.mk hb
 have HCL := Aside0.mk hcells
 have H4 := Aside0.mk h4
 clear hb hcells h4
 go_enter Tryz.func112, Tryz.ntmps112
 go_wp2_with (go_at_call 149; refine (Gd.build b t0 c2 _ H4.out HCL.out).mono ?_; rintro e w1 ⟨q, rfl, hbs, hbl⟩; have HBS := Aside0.mk hbs; have HBL := Aside0.mk hbl; have HB2 := Aside0.mk (blk_below HBK.out hbl); clear hbs hbl; have hc3 : w1.cell? ⟨b, 3, none⟩ = some .nilIface := (blk_cell HB2.out 3).trans rfl; have hf3 := blk_frozen HB2.out 3; have hc4 : w1.cell? ⟨b, 4, none⟩ = some (.slice (some ⟨t0, 0, none⟩) 8 c2) := (blk_cell HB2.out 4).trans rfl; have hf4 := blk_frozen HB2.out 4)
 go_end0
 have hbw := blk_lt HBK.out
 refine ⟨rfl, q, ?_, ?_, ?_⟩
 ·refine blk_put (cs := #[x0, x1, x2, .iface 193 (.pointer (some ⟨q, 0, none⟩)), .slice (some ⟨t0, 0, none⟩) 8 c2]) ?_ 4 _ rfl
  refine blk_put (cs := #[x0, x1, x2, .nilIface, .slice (some ⟨t0, 0, none⟩) 8 c2]) ?_ 3 _ rfl
  exact HB2.out
 ·exact Gd.BS_far (Gd.BS_far HBS.out HB2.out (by decide) 3 _) (blk_set HB2.out 3 _) (by decide) 4 _
 ·refine ⟨HBL.out.os, HBL.out.tape, HBL.out.output, ?_, fun k hk hne => ?_⟩
  ·simpa [World.setCell] using HBL.out.size
  ·have hkb : k ≠ b := fun e => hne (by rw [e])
   exact (Below.heap_setCell _ ⟨b, 4, none⟩ _ k hkb).trans ((Below.heap_setCell _ ⟨b, 3, none⟩ _ k hkb).trans (HBL.out.block k hk))
theorem Gd.bonce (b t0 c2 : Nat) (w : World) (hb : w.heap[b]? = some (.cells #[.int .u32 0, .int .i32 0, .int .u32 0, .nilIface, .slice (some ⟨t0, 0, none⟩) 8 c2] 144 (0, 0))) (hcells : ∀ j x, Gd.lits[j]? = some x → w.cell? ⟨t0, j, none⟩ = some (.string x)) (htb : t0 ≠ b) :
  Calls Tryz.prog 112 #[.pointer (some ⟨b, 0, none⟩)] (w.setCell ⟨b, 1, none⟩ (.int .i32 1)) fun e w' => e = .returned (.tuple #[]) ∧ w'.cell? ⟨b, 0, none⟩ = some (.int .u32 0) ∧ w'.cell? ⟨b, 1, none⟩ = some (.int .i32 1) ∧ w'.frozen? ⟨b, 0, none⟩ = false ∧ w'.frozen? ⟨b, 1, none⟩ = false ∧ ∃ q, w'.heap[b]? = some (.cells #[.int .u32 0, .int .i32 1, .int .u32 0, .iface 193 (.pointer (some ⟨q, 0, none⟩)), .slice none 0 0] 144 (0, 0)) ∧ Gd.BS w' w.heap.size q 0 ∧ w.grownBy w' (some b) := by
 have hb1 := blk_put hb 1 (.int .i32 1) (show _ = #[.int .u32 0, .int .i32 1, .int .u32 0, .nilIface, .slice (some ⟨t0, 0, none⟩) 8 c2] from rfl)
 have hsz : (w.setCell ⟨b, 1, none⟩ (.int .i32 1)).heap.size = w.heap.size := by simp [World.setCell]
 refine (Gd.buildOnce b t0 c2 _ _ _ _ hb1 (fun j x hx => (World.cell?_setCell_other _ ⟨b, 1, none⟩ ⟨t0, j, none⟩ _ (fun e => htb (by injection e with e1 e2 e3; exact e1.symm))).trans (hcells j x hx))).mono ?_
 rintro e w' ⟨rfl, q, hq, hbs, hgr⟩
 rw [hsz] at hbs
 refine ⟨rfl, (blk_cell hq 0).trans rfl, (blk_cell hq 1).trans rfl, blk_frozen hq 0, blk_frozen hq 1, q, hq, hbs, hgr.os, hgr.tape, hgr.output, by rw [← hsz]; exact hgr.size, fun k hk hne => ?_⟩
 exact (hgr.block k (by rw [hsz]; exact hk) hne).trans (Below.heap_setCell w ⟨b, 1, none⟩ _ k (fun e => hne (by rw [e])))
set_option maxRecDepth 100000 in
set_option maxHeartbeats 4000000 in
theorem Gd.replace (b t0 c2 : Nat) (s : ByteArray) (w : World) (hb : w.heap[b]? = some (.cells #[.int .u32 0, .int .i32 0, .int .u32 0, .nilIface, .slice (some ⟨t0, 0, none⟩) 8 c2] 144 (0, 0))) (hcells : ∀ j x, Gd.lits[j]? = some x → w.cell? ⟨t0, j, none⟩ = some (.string x)) (htb : t0 ≠ b) (hs : s.size ≤ 40000000000000) :
  Calls Tryz.prog 78 #[.pointer (some ⟨b, 0, none⟩), .string s] w fun e w' => e = .returned (.string (Gd.esc s)) ∧ w.grownBy w' (some b) := by
 have hu := Tryz.underlying144
 have hm : ∀ (w : World) (q : Nat), (method 393 193 (.pointer (some ⟨q, 0, none⟩)) "Replace").run Tryz.prog w = .ok (264, .pointer (some ⟨q, 0, none⟩)) w := fun _ _ => by kernel_rfl
 have hmf : ∀ (fn : Fn) (first cap : Array Value) (w : World), (Instr.makeFunc fn first cap).run Tryz.prog w = .ok (.func fn first cap) w := fun _ _ _ _ => rfl
 have HBK := Aside0.mk hb
 have HCL := Aside0.mk hcells
 have HSZ := Aside0.mk hs
 have HTB := Aside0.mk htb
 clear hb hcells hs htb
 go_enter Tryz.func78, Tryz.ntmps78
 go_upto_region 2 with (go_at_call 111; refine (Gd.once b w (fun w' => ∃ q, w'.heap[b]? = some (.cells #[.int .u32 0, .int .i32 1, .int .u32 0, .iface 193 (.pointer (some ⟨q, 0, none⟩)), .slice none 0 0] 144 (0, 0)) ∧ Gd.BS w' w.heap.size q 0 ∧ w.grownBy w' (some b)) ((blk_cell HBK.out 0).trans rfl) ((blk_cell HBK.out 1).trans rfl) (blk_frozen HBK.out 0) (blk_frozen HBK.out 1) ?hf).mono ?_; (case hf => exact Gd.bonce b t0 c2 w HBK.out HCL.out HTB.out); rintro e w2 ⟨rfl, w1, ⟨q, hq, hbs, hgr⟩, rfl⟩)
 have hq2 : (((w1.setCell ⟨b, 0, none⟩ (.int .u32 1)).setCell ⟨b, 1, none⟩ (.int .i32 0)).drew).heap[b]? = some (.cells #[.int .u32 1, .int .i32 0, .int .u32 0, .iface 193 (.pointer (some ⟨q, 0, none⟩)), .slice none 0 0] 144 (0, 0)) := blk_drew (blk_put (blk_put hq 0 (.int .u32 1) (show _ = #[.int .u32 1, .int .i32 1, .int .u32 0, .iface 193 (.pointer (some ⟨q, 0, none⟩)), .slice none 0 0] from rfl)) 1 (.int .i32 0) rfl)
 have hbs2 : Gd.BS (((w1.setCell ⟨b, 0, none⟩ (.int .u32 1)).setCell ⟨b, 1, none⟩ (.int .i32 0)).drew) w.heap.size q 0 := Gd.BS_drew (Gd.BS_far (Gd.BS_far hbs hq (by decide) 0 _) (blk_set hq 0 _) (by decide) 1 _)
 have hgr2 : w.grownBy (((w1.setCell ⟨b, 0, none⟩ (.int .u32 1)).setCell ⟨b, 1, none⟩ (.int .i32 0)).drew) (some b) := ⟨hgr.os, hgr.tape, hgr.output, by simpa [World.setCell] using hgr.size, fun k hk hne => by
  have hkb : k ≠ b := fun e => hne (by rw [e])
  exact (Below.heap_setCell _ ⟨b, 1, none⟩ _ k hkb).trans ((Below.heap_setCell _ ⟨b, 0, none⟩ _ k hkb).trans (hgr.block k hk hne))⟩
 clear hq hbs hgr
 generalize (((w1.setCell ⟨b, 0, none⟩ (.int .u32 1)).setCell ⟨b, 1, none⟩ (.int .i32 0)).drew) = w3 at hq2 hbs2 hgr2 ⊢
 have hc3 : w3.cell? ⟨b, 3, none⟩ = some (.iface 193 (.pointer (some ⟨q, 0, none⟩))) := (blk_cell hq2 3).trans rfl
 have HBS := Aside0.mk hbs2
 have HGR := Aside0.mk hgr2
 clear hq2 hbs2 hgr2
 go_wp2_with (go_at_call 264; refine (Gd.bsr q _ s _ HBS.out HSZ.out).mono ?_; rintro e w4 ⟨rfl, hb⟩; have HB4 := Aside0.mk hb; clear hb)
 go_ret
 exact ⟨rfl, HGR.out.os.symm ▸ HB4.out.os, HGR.out.tape.symm ▸ HB4.out.tape, HGR.out.output.symm ▸ HB4.out.output, Nat.le_trans HGR.out.size HB4.out.size, fun k hk hne => (HB4.out.block k (Nat.lt_of_lt_of_le hk HGR.out.size)).trans (HGR.out.block k hk hne)⟩
def Gd.lp (g : List S64 → Option (ByteArray × List S64)) : Nat → List S64 → ByteArray → Option (ByteArray × List S64)
 | 0, r, t => some (t, r)
 | m + 1, r, t => (g r).bind fun q => if t.size + q.1.size ≤ 9000000000000000000 then Gd.lp g m q.2 (t ++ q.1) else none
def Gd.opt (c : Int) : ByteArray := if c = 1 then ⟨#[38]⟩ else if c = 2 then ⟨#[124]⟩ else ⟨#[33]⟩
def Gd.wrap (t : ByteArray) (r : List S64) : Option (ByteArray × List S64) := if t.size ≤ 9000000000000000000 then some ((⟨#[40]⟩ : ByteArray) ++ t ++ (⟨#[41]⟩ : ByteArray), r) else none
def Gd.ft : Nat → List S64 → Option (ByteArray × List S64)
 | 0, _ => none
 | _ + 1, [] => none
 | k + 1, n :: rest => if n.f2.size ≤ 40000000000000 ∧ n.f1.size ≤ 4000000000000000000 ∧ n.f3 ≤ 1000000000 then
   (if n.f0 = 1 ∨ n.f0 = 2 ∨ n.f0 = 3 then (Gd.lp (Gd.ft k) n.f3.toNat rest (Gd.opt n.f0)).bind fun q => Gd.wrap q.1 q.2
    else if n.f0 = 4 then Gd.wrap (n.f1 ++ (⟨#[61]⟩ : ByteArray) ++ Gd.esc n.f2) rest
    else if n.f0 = 5 then Gd.wrap (n.f1 ++ (⟨#[61, 42]⟩ : ByteArray)) rest
    else if n.f0 = 6 then Gd.wrap (n.f1 ++ (⟨#[61]⟩ : ByteArray) ++ Gd.esc n.f2 ++ (⟨#[42]⟩ : ByteArray)) rest
    else if n.f0 = 7 then Gd.wrap (n.f1 ++ (⟨#[62, 61]⟩ : ByteArray) ++ Gd.esc n.f2) rest
    else if n.f0 = 8 then Gd.wrap (n.f1 ++ (⟨#[60, 61]⟩ : ByteArray) ++ Gd.esc n.f2) rest
    else Gd.wrap ⟨#[]⟩ rest) else none
theorem Gd.litsC (w : World) (g : Nat) (hb : w.heap[g]? = some (.cells #[.string ⟨#[42]⟩, .string ⟨#[92, 50, 97]⟩, .string ⟨#[40]⟩, .string ⟨#[92, 50, 56]⟩, .string ⟨#[41]⟩, .string ⟨#[92, 50, 57]⟩, .string ⟨#[92]⟩, .string ⟨#[92, 53, 99]⟩] 9 (0, 0))) : Kd.C Kd.string w (some ⟨g, 0, none⟩) 8 Gd.lits := by
 refine ⟨rfl, by decide, fun _ => ⟨⟨g, 0, none⟩, rfl, fun j p hp => ⟨[.string p], rfl, rfl, fun i u hu => ?_⟩⟩⟩
 cases i with
 | succ i => simp at hu
 | zero =>
  simp at hu
  subst hu
  have e1 : (⟨g, 0, none⟩ : Addr).add (j * Kd.string.sz + 0) = ⟨g, j, none⟩ := by simp [Addr.add, Kd.string, Kd.scalar, eq_comm]
  rw [e1, blk_cell hb j]
  have hj : j < 8 := (List.getElem?_eq_some_iff.1 hp).1
  rcases j with _ | _ | _ | _ | _ | _ | _ | _ | j
  all_goals first | (exfalso; omega) | (simp [Gd.lits] at hp; subst hp; rfl)
theorem Gd.litsR {w : World} {base t c : Nat} {ok : Nat → Prop} {n : Nat} (h : Kd.R Kd.string 9 w base ok (.slice (some ⟨t, 0, none⟩) n c) Gd.lits) : ∀ j x, Gd.lits[j]? = some x → w.cell? ⟨t, j, none⟩ = some (.string x) := fun j x hx => by
 have hj : j < Gd.lits.length := (List.getElem?_eq_some_iff.1 hx).1
 have h1 := (Kd.R_celln ByteArray.empty h (j : Int) (by omega) (by have := (Kd.R_reads' h).1; omega)).1
 unfold rdOf at h1
 rw [Int.toNat_natCast, List.getD_eq_getElem?_getD, hx] at h1
 exact h1
set_option maxRecDepth 100000 in
set_option maxHeartbeats 16000000 in
theorem Gd.ftext : ∀ (k : Nat) (A : Option Addr) (c : Nat) (l : List S64) (t : ByteArray) (r : List S64) (w : World) (hr0 : Kd.C k64 w A l.length l) (hc0 : l.length ≤ c) (h : Gd.ft k l = some (t, r)),
  Calls Tryz.prog 40 #[.slice A l.length c] w fun e w' => ∃ A2 c2, e = .returned (.tuple #[.string t, .slice A2 r.length c2]) ∧ Kd.C k64 w' A2 r.length r ∧ r.length ≤ c2 ∧ Below w.heap.size w w' := by
 intro k
 induction k with
 | zero => intro A c l t r w hr0 hc0 h; simp [Gd.ft] at h
 | succ k ih =>
  intro A c l t r w hr0 hc0 h
  cases l with
  | nil => simp [Gd.ft] at h
  | cons n rest =>
   obtain ⟨op, attr, val, many⟩ := n
   have hu := Tryz.underlying64
   have hl1 : (((⟨op, attr, val, many⟩ : S64) :: rest).length : Int) = (rest.length : Int) + 1 := by simp
   have hdr := Kd.C_drop (m := 1) hr0 (by simp) hc0
   rw [show ((⟨op, attr, val, many⟩ : S64) :: rest).drop 1 = rest from rfl] at hdr
   obtain ⟨ad, e1, hx0, hx1, hx2, hx3⟩ := at_T64 hr0 0 (by omega) (by simp)
   subst e1
   have hrd : rd_T64 ((⟨op, attr, val, many⟩ : S64) :: rest) 0 = ⟨op, attr, val, many⟩ := rfl
   rw [hrd, show (0 : Int).toNat * 4 = 0 from rfl, Addr.add_zero'] at hx0 hx1 hx2 hx3
   dsimp only at hx0 hx1 hx2 hx3
   simp only [Gd.ft] at h
   by_cases hsz : val.size ≤ 40000000000000 ∧ attr.size ≤ 4000000000000000000 ∧ many ≤ 1000000000
   case neg => rw [if_neg hsz] at h; cases h
   rw [if_pos hsz] at h
   have HS := Aside0.mk hsz
   have H := Aside0.mk h
   have HB := Aside0.mk (Below.refl w.heap.size w)
   clear hsz h hr0 hl1 hrd
   have hle1 : ((1 : Int) ≤ (rest.length : Int) + 1) = True := eq_true (by omega)
   obtain ⟨A2, hA2⟩ : ∃ A2, (if c = 1 then some ad else some (⟨ad.block, ad.off + 4, none⟩ : Addr)) = A2 := ⟨_, rfl⟩
   have HD := Aside0.mk (show Kd.C k64 w A2 rest.length rest from by rw [← hA2]; have e : Option.map (fun x : Addr => x.add (1 * k64.sz)) (some ad) = some (⟨ad.block, ad.off + 4, none⟩ : Addr) := rfl; rw [e] at hdr; exact hdr)
   have HC := Aside0.mk (show rest.length ≤ c - 1 from by simp only [List.length_cons] at hc0; omega)
   clear hdr hc0
   have hy0 := pw_cell_below (below_alloc (Below.refl _ _) (.cells #[.int .i64 0, .string ⟨#[]⟩, .string ⟨#[]⟩, .int .i64 0] 64)) hx0
   have hy1 := pw_cell_below (below_alloc (Below.refl _ _) (.cells #[.int .i64 0, .string ⟨#[]⟩, .string ⟨#[]⟩, .int .i64 0] 64)) hx1
   have hy2 := pw_cell_below (below_alloc (Below.refl _ _) (.cells #[.int .i64 0, .string ⟨#[]⟩, .string ⟨#[]⟩, .int .i64 0] 64)) hx2
   have hy3 := pw_cell_below (below_alloc (Below.refl _ _) (.cells #[.int .i64 0, .string ⟨#[]⟩, .string ⟨#[]⟩, .int .i64 0] 64)) hx3
   go_enter Tryz.func40, Tryz.ntmps40
   go_upto_region 1 with fail
   go_region
   clear hy0 hy1 hy2 hy3 hx0 hx1 hx2 hx3 hle1 hA2
   obtain ⟨g, hg⟩ : ∃ g, g = w.heap.size := ⟨_, rfl⟩
   have GE := Aside0.mk (show w.heap.size ≤ g by omega)
   have BK : Aside0 (((w.alloc (.cells #[.int .i64 op, .string attr, .string val, .int .i64 many] 64)).drew).heap[g]? = some (.cells #[.int .i64 op, .string attr, .string val, .int .i64 many] 64 (0, 0))) := ⟨by rw [hg]; exact blk_drew (blk_new w _)⟩
   have n0_ := Aside0.mk (below_drew (below_alloc HB.out (.cells #[.int .i64 op, .string attr, .string val, .int .i64 many] 64)))
   clear HB
   have HB := n0_
   clear n0_
   rw [← hg]
   clear hg
   generalize (w.alloc (.cells #[.int .i64 op, .string attr, .string val, .int .i64 many] 64)).drew = w2 at BK HB ⊢
   go_upto_region 2 with fail
   have hq2 : w2.cell? ⟨g, 2, none⟩ = some (.string val) := (blk_cell BK.out 2).trans rfl
   have hqa : ((w2.alloc (.cells #[.string ⟨#[42]⟩, .string ⟨#[92, 50, 97]⟩, .string ⟨#[40]⟩, .string ⟨#[92, 50, 56]⟩, .string ⟨#[41]⟩, .string ⟨#[92, 50, 57]⟩, .string ⟨#[92]⟩, .string ⟨#[92, 53, 99]⟩] 9)).drew).cell? ⟨g, 2, none⟩ = some (.string val) := pw_cell_below (below_drew (below_alloc (Below.refl _ _) _)) hq2
   have HL8 : Aside0 (Kd.C Kd.string ((w2.alloc (.cells #[.string ⟨#[42]⟩, .string ⟨#[92, 50, 97]⟩, .string ⟨#[40]⟩, .string ⟨#[92, 50, 56]⟩, .string ⟨#[41]⟩, .string ⟨#[92, 50, 57]⟩, .string ⟨#[92]⟩, .string ⟨#[92, 53, 99]⟩] 9)).drew) (some ⟨w2.heap.size, 0, none⟩) 8 Gd.lits) := ⟨Gd.litsC _ _ (blk_drew (blk_new w2 _))⟩
   have HB3 := Aside0.mk (below_drew (below_alloc HB.out (.cells #[.string ⟨#[42]⟩, .string ⟨#[92, 50, 97]⟩, .string ⟨#[40]⟩, .string ⟨#[92, 50, 56]⟩, .string ⟨#[41]⟩, .string ⟨#[92, 50, 57]⟩, .string ⟨#[92]⟩, .string ⟨#[92, 53, 99]⟩] 9)))
   have BK3 := Aside0.mk (blk_drew (blk_alloc BK.out (.cells #[.string ⟨#[42]⟩, .string ⟨#[92, 50, 97]⟩, .string ⟨#[40]⟩, .string ⟨#[92, 50, 56]⟩, .string ⟨#[41]⟩, .string ⟨#[92, 50, 57]⟩, .string ⟨#[92]⟩, .string ⟨#[92, 53, 99]⟩] 9)))
   go_region_held3 (fun w' => w'.cell? ⟨g, 2, none⟩ = some (.string val)) (first | exact hq2 | exact hqa | exact hq3 | exact hq4) (first | (go_at_call 77; refine (Gd.new (some ⟨w2.heap.size, 0, none⟩) Gd.lits _ rfl HL8.out).mono ?_; rintro e w3 ⟨b, v, rfl, hb0, hbb, hrow, hbl⟩; obtain ⟨t0, c2, ev_, _⟩ := Kd.R_form hrow (by decide); subst ev_; have HBB := Aside0.mk hbb; have HTB := Aside0.mk (hrow.1 t0 rfl); have HCL : Aside0 (∀ j x, Gd.lits[j]? = some x → w3.cell? ⟨t0, j, none⟩ = some (.string x)) := ⟨Gd.litsR hrow⟩; have HB4 := Aside0.mk (below_step HB3.out hbl); have BK4 := Aside0.mk (blk_below BK3.out hbl); have HGB := Aside0.mk (show g ≠ b from by have h1 := blk_lt BK3.out; omega); have HWB := Aside0.mk (show w.heap.size ≤ b from Nat.le_trans (below_size HB3.out) hb0); have hq3 : w3.cell? ⟨g, 2, none⟩ = some (.string val) := pw_cell_below hbl hqa; clear hbb hrow hbl hb0) | (go_at_call 78; refine (Gd.replace b t0 c2 val _ HBB.out HCL.out HTB.out HS.out.1).mono ?_; rintro e w4 ⟨rfl, hgr⟩; have HB5 := Aside0.mk (Below.grown HB4.out hgr (below_size HB4.out) (fun k hk => by injection hk with hk; subst hk; exact HWB.out)); have BK5 := Aside0.mk (blk_grown BK4.out hgr (fun e => HGB.out (by injection e))); have hq4 : w4.cell? ⟨g, 2, none⟩ = some (.string val) := (blk_cell BK5.out 2).trans rfl; clear hgr))
   clear hq2 hqa hq3 HL8 HB3 BK3 HBB HTB HCL HB4 BK4 HGB HWB HB BK hq4
   have HB := HB5
   have BK := BK5
   clear HB5 BK5
   rename_i hHeld_
   clear hHeld_
   have HD2 := Aside0.mk (Kd.C_below HD.out HB.out)
   have H2 := Aside0.mk H.out
   clear HD H
   have hz0 : w4.cell? ⟨g, 0, none⟩ = some (.int .i64 op) := (blk_cell BK.out 0).trans rfl
   have hz1 : w4.cell? ⟨g, 1, none⟩ = some (.string attr) := (blk_cell BK.out 1).trans rfl
   have hz2 : w4.cell? ⟨g, 2, none⟩ = some (.string val) := (blk_cell BK.out 2).trans rfl
   have hz3 : w4.cell? ⟨g, 3, none⟩ = some (.int .i64 many) := (blk_cell BK.out 3).trans rfl
   by_cases o4 : op = 4
   ·subst o4
    have H := H2.out
    rw [if_neg (show ¬ ((4 : Int) = 1 ∨ (4 : Int) = 2 ∨ (4 : Int) = 3) by decide), if_pos (show (4 : Int) = 4 from rfl)] at H
    simp only [Gd.wrap] at H
    by_cases hw : (attr ++ (⟨#[61]⟩ : ByteArray) ++ Gd.esc val).size ≤ 9000000000000000000
    case neg => rw [if_neg hw] at H; cases H
    rw [if_pos hw] at H
    obtain ⟨rfl, rfl⟩ := SPz H
    have hwn := hw
    have hk1 : (⟨#[61]⟩ : ByteArray).size = 1 := rfl
    have hk2 : (⟨#[42]⟩ : ByteArray).size = 1 := rfl
    have hk3 : (⟨#[40]⟩ : ByteArray).size = 1 := rfl
    simp only [ByteArray.size_append, hk1, hk2] at hwn
    have faa := eq_true (show attr.size + 1 ≤ 9223372036854775807 by omega)
    have fab : decide (attr.size + 1 ≤ 9223372036854775807) = true := decide_eq_true (by omega)
    have fac : (9223372036854775807 < attr.size + 1) = False := eq_false (by omega)
    have fba := eq_true (show attr.size + 1 + (Gd.esc val).size ≤ 9223372036854775807 by omega)
    have fbb : decide (attr.size + 1 + (Gd.esc val).size ≤ 9223372036854775807) = true := decide_eq_true (by omega)
    have fbc : (9223372036854775807 < attr.size + 1 + (Gd.esc val).size) = False := eq_false (by omega)
    have fda := eq_true (show 1 + (attr.size + 1 + (Gd.esc val).size) ≤ 9223372036854775807 by omega)
    have fdb : decide (1 + (attr.size + 1 + (Gd.esc val).size) ≤ 9223372036854775807) = true := decide_eq_true (by omega)
    have fdc : (9223372036854775807 < 1 + (attr.size + 1 + (Gd.esc val).size)) = False := eq_false (by omega)
    have fea := eq_true (show 1 + (attr.size + 1 + (Gd.esc val).size) + 1 ≤ 9223372036854775807 by omega)
    have feb : decide (1 + (attr.size + 1 + (Gd.esc val).size) + 1 ≤ 9223372036854775807) = true := decide_eq_true (by omega)
    have fec : (9223372036854775807 < 1 + (attr.size + 1 + (Gd.esc val).size) + 1) = False := eq_false (by omega)
    clear H2 hw hwn hk1 hk2 hk3
    go_wp2
    refine bodyPost_ret (results_tmp2 rfl _ _ _) rfl ?_
    exact ⟨_, _, rfl, HD2.out, HC.out, HB.out⟩
   by_cases o5 : op = 5
   ·subst o5
    have H := H2.out
    rw [if_neg (show ¬ ((5 : Int) = 1 ∨ (5 : Int) = 2 ∨ (5 : Int) = 3) by decide), if_neg (show ¬ ((5 : Int) = 4) by decide), if_pos (show (5 : Int) = 5 from rfl)] at H
    simp only [Gd.wrap] at H
    by_cases hw : (attr ++ (⟨#[61, 42]⟩ : ByteArray)).size ≤ 9000000000000000000
    case neg => rw [if_neg hw] at H; cases H
    rw [if_pos hw] at H
    obtain ⟨rfl, rfl⟩ := SPz H
    have hwn := hw
    have hk1 : (⟨#[61, 42]⟩ : ByteArray).size = 2 := rfl
    have hk2 : (⟨#[42]⟩ : ByteArray).size = 1 := rfl
    have hk3 : (⟨#[40]⟩ : ByteArray).size = 1 := rfl
    simp only [ByteArray.size_append, hk1, hk2] at hwn
    have faa := eq_true (show attr.size + 2 ≤ 9223372036854775807 by omega)
    have fab : decide (attr.size + 2 ≤ 9223372036854775807) = true := decide_eq_true (by omega)
    have fac : (9223372036854775807 < attr.size + 2) = False := eq_false (by omega)
    have fda := eq_true (show 1 + (attr.size + 2) ≤ 9223372036854775807 by omega)
    have fdb : decide (1 + (attr.size + 2) ≤ 9223372036854775807) = true := decide_eq_true (by omega)
    have fdc : (9223372036854775807 < 1 + (attr.size + 2)) = False := eq_false (by omega)
    have fea := eq_true (show 1 + (attr.size + 2) + 1 ≤ 9223372036854775807 by omega)
    have feb : decide (1 + (attr.size + 2) + 1 ≤ 9223372036854775807) = true := decide_eq_true (by omega)
    have fec : (9223372036854775807 < 1 + (attr.size + 2) + 1) = False := eq_false (by omega)
    clear H2 hw hwn hk1 hk2 hk3
    go_wp2
    refine bodyPost_ret (results_tmp2 rfl _ _ _) rfl ?_
    exact ⟨_, _, rfl, HD2.out, HC.out, HB.out⟩
   by_cases o6 : op = 6
   ·subst o6
    have H := H2.out
    rw [if_neg (show ¬ ((6 : Int) = 1 ∨ (6 : Int) = 2 ∨ (6 : Int) = 3) by decide), if_neg (show ¬ ((6 : Int) = 4) by decide), if_neg (show ¬ ((6 : Int) = 5) by decide), if_pos (show (6 : Int) = 6 from rfl)] at H
    simp only [Gd.wrap] at H
    by_cases hw : (attr ++ (⟨#[61]⟩ : ByteArray) ++ Gd.esc val ++ (⟨#[42]⟩ : ByteArray)).size ≤ 9000000000000000000
    case neg => rw [if_neg hw] at H; cases H
    rw [if_pos hw] at H
    obtain ⟨rfl, rfl⟩ := SPz H
    have hwn := hw
    have hk1 : (⟨#[61]⟩ : ByteArray).size = 1 := rfl
    have hk2 : (⟨#[42]⟩ : ByteArray).size = 1 := rfl
    have hk3 : (⟨#[40]⟩ : ByteArray).size = 1 := rfl
    simp only [ByteArray.size_append, hk1, hk2] at hwn
    have faa := eq_true (show attr.size + 1 ≤ 9223372036854775807 by omega)
    have fab : decide (attr.size + 1 ≤ 9223372036854775807) = true := decide_eq_true (by omega)
    have fac : (9223372036854775807 < attr.size + 1) = False := eq_false (by omega)
    have fba := eq_true (show attr.size + 1 + (Gd.esc val).size ≤ 9223372036854775807 by omega)
    have fbb : decide (attr.size + 1 + (Gd.esc val).size ≤ 9223372036854775807) = true := decide_eq_true (by omega)
    have fbc : (9223372036854775807 < attr.size + 1 + (Gd.esc val).size) = False := eq_false (by omega)
    have fca := eq_true (show attr.size + 1 + (Gd.esc val).size + 1 ≤ 9223372036854775807 by omega)
    have fcb : decide (attr.size + 1 + (Gd.esc val).size + 1 ≤ 9223372036854775807) = true := decide_eq_true (by omega)
    have fcc : (9223372036854775807 < attr.size + 1 + (Gd.esc val).size + 1) = False := eq_false (by omega)
    have fda := eq_true (show 1 + (attr.size + 1 + (Gd.esc val).size + 1) ≤ 9223372036854775807 by omega)
    have fdb : decide (1 + (attr.size + 1 + (Gd.esc val).size + 1) ≤ 9223372036854775807) = true := decide_eq_true (by omega)
    have fdc : (9223372036854775807 < 1 + (attr.size + 1 + (Gd.esc val).size + 1)) = False := eq_false (by omega)
    have fea := eq_true (show 1 + (attr.size + 1 + (Gd.esc val).size + 1) + 1 ≤ 9223372036854775807 by omega)
    have feb : decide (1 + (attr.size + 1 + (Gd.esc val).size + 1) + 1 ≤ 9223372036854775807) = true := decide_eq_true (by omega)
    have fec : (9223372036854775807 < 1 + (attr.size + 1 + (Gd.esc val).size + 1) + 1) = False := eq_false (by omega)
    clear H2 hw hwn hk1 hk2 hk3
    go_wp2
    refine bodyPost_ret (results_tmp2 rfl _ _ _) rfl ?_
    exact ⟨_, _, rfl, HD2.out, HC.out, HB.out⟩
   by_cases o7 : op = 7
   ·subst o7
    have H := H2.out
    rw [if_neg (show ¬ ((7 : Int) = 1 ∨ (7 : Int) = 2 ∨ (7 : Int) = 3) by decide), if_neg (show ¬ ((7 : Int) = 4) by decide), if_neg (show ¬ ((7 : Int) = 5) by decide), if_neg (show ¬ ((7 : Int) = 6) by decide), if_pos (show (7 : Int) = 7 from rfl)] at H
    simp only [Gd.wrap] at H
    by_cases hw : (attr ++ (⟨#[62, 61]⟩ : ByteArray) ++ Gd.esc val).size ≤ 9000000000000000000
    case neg => rw [if_neg hw] at H; cases H
    rw [if_pos hw] at H
    obtain ⟨rfl, rfl⟩ := SPz H
    have hwn := hw
    have hk1 : (⟨#[62, 61]⟩ : ByteArray).size = 2 := rfl
    have hk2 : (⟨#[42]⟩ : ByteArray).size = 1 := rfl
    have hk3 : (⟨#[40]⟩ : ByteArray).size = 1 := rfl
    simp only [ByteArray.size_append, hk1, hk2] at hwn
    have faa := eq_true (show attr.size + 2 ≤ 9223372036854775807 by omega)
    have fab : decide (attr.size + 2 ≤ 9223372036854775807) = true := decide_eq_true (by omega)
    have fac : (9223372036854775807 < attr.size + 2) = False := eq_false (by omega)
    have fba := eq_true (show attr.size + 2 + (Gd.esc val).size ≤ 9223372036854775807 by omega)
    have fbb : decide (attr.size + 2 + (Gd.esc val).size ≤ 9223372036854775807) = true := decide_eq_true (by omega)
    have fbc : (9223372036854775807 < attr.size + 2 + (Gd.esc val).size) = False := eq_false (by omega)
    have fda := eq_true (show 1 + (attr.size + 2 + (Gd.esc val).size) ≤ 9223372036854775807 by omega)
    have fdb : decide (1 + (attr.size + 2 + (Gd.esc val).size) ≤ 9223372036854775807) = true := decide_eq_true (by omega)
    have fdc : (9223372036854775807 < 1 + (attr.size + 2 + (Gd.esc val).size)) = False := eq_false (by omega)
    have fea := eq_true (show 1 + (attr.size + 2 + (Gd.esc val).size) + 1 ≤ 9223372036854775807 by omega)
    have feb : decide (1 + (attr.size + 2 + (Gd.esc val).size) + 1 ≤ 9223372036854775807) = true := decide_eq_true (by omega)
    have fec : (9223372036854775807 < 1 + (attr.size + 2 + (Gd.esc val).size) + 1) = False := eq_false (by omega)
    clear H2 hw hwn hk1 hk2 hk3
    go_wp2
    refine bodyPost_ret (results_tmp2 rfl _ _ _) rfl ?_
    exact ⟨_, _, rfl, HD2.out, HC.out, HB.out⟩
   by_cases o8 : op = 8
   ·subst o8
    have H := H2.out
    rw [if_neg (show ¬ ((8 : Int) = 1 ∨ (8 : Int) = 2 ∨ (8 : Int) = 3) by decide), if_neg (show ¬ ((8 : Int) = 4) by decide), if_neg (show ¬ ((8 : Int) = 5) by decide), if_neg (show ¬ ((8 : Int) = 6) by decide), if_neg (show ¬ ((8 : Int) = 7) by decide), if_pos (show (8 : Int) = 8 from rfl)] at H
    simp only [Gd.wrap] at H
    by_cases hw : (attr ++ (⟨#[60, 61]⟩ : ByteArray) ++ Gd.esc val).size ≤ 9000000000000000000
    case neg => rw [if_neg hw] at H; cases H
    rw [if_pos hw] at H
    obtain ⟨rfl, rfl⟩ := SPz H
    have hwn := hw
    have hk1 : (⟨#[60, 61]⟩ : ByteArray).size = 2 := rfl
    have hk2 : (⟨#[42]⟩ : ByteArray).size = 1 := rfl
    have hk3 : (⟨#[40]⟩ : ByteArray).size = 1 := rfl
    simp only [ByteArray.size_append, hk1, hk2] at hwn
    have faa := eq_true (show attr.size + 2 ≤ 9223372036854775807 by omega)
    have fab : decide (attr.size + 2 ≤ 9223372036854775807) = true := decide_eq_true (by omega)
    have fac : (9223372036854775807 < attr.size + 2) = False := eq_false (by omega)
    have fba := eq_true (show attr.size + 2 + (Gd.esc val).size ≤ 9223372036854775807 by omega)
    have fbb : decide (attr.size + 2 + (Gd.esc val).size ≤ 9223372036854775807) = true := decide_eq_true (by omega)
    have fbc : (9223372036854775807 < attr.size + 2 + (Gd.esc val).size) = False := eq_false (by omega)
    have fda := eq_true (show 1 + (attr.size + 2 + (Gd.esc val).size) ≤ 9223372036854775807 by omega)
    have fdb : decide (1 + (attr.size + 2 + (Gd.esc val).size) ≤ 9223372036854775807) = true := decide_eq_true (by omega)
    have fdc : (9223372036854775807 < 1 + (attr.size + 2 + (Gd.esc val).size)) = False := eq_false (by omega)
    have fea := eq_true (show 1 + (attr.size + 2 + (Gd.esc val).size) + 1 ≤ 9223372036854775807 by omega)
    have feb : decide (1 + (attr.size + 2 + (Gd.esc val).size) + 1 ≤ 9223372036854775807) = true := decide_eq_true (by omega)
    have fec : (9223372036854775807 < 1 + (attr.size + 2 + (Gd.esc val).size) + 1) = False := eq_false (by omega)
    clear H2 hw hwn hk1 hk2 hk3
    go_wp2
    refine bodyPost_ret (results_tmp2 rfl _ _ _) rfl ?_
    exact ⟨_, _, rfl, HD2.out, HC.out, HB.out⟩
   by_cases o1 : op = 1
   ·subst o1
    have H := H2.out
    rw [if_pos (show ((1 : Int) = 1 ∨ (1 : Int) = 2 ∨ (1 : Int) = 3) by decide), show Gd.opt 1 = (⟨#[38]⟩ : ByteArray) from rfl] at H
    obtain ⟨⟨tq, rq⟩, HQ0, HW0⟩ := Option.bind_eq_some_iff.1 H
    have HQ := Aside0.mk HQ0
    have HW := Aside0.mk HW0
    clear H HQ0 HW0 H2
    have hxt : (⟨#[38, 124, 33]⟩ : ByteArray).extract 0 1 = (⟨#[38]⟩ : ByteArray) := by decide
    go_upto_region 9 with fail
    go_loopg [5, 6, 8, 33] many.toNat (fun kq v5 v6 v8 v33 w' => ∃ (j : Nat) (rl : List S64) (A3 : Option Addr) (c3 : Nat) (tx : ByteArray), v33 = .int .i64 (j : Int) ∧ v5 = .slice A3 rl.length c3 ∧ v6 = .string tx ∧ Aside0 (Gd.lp (Gd.ft k) kq rl tx = some (tq, rq)) ∧ Aside0 (j + kq = many.toNat) ∧ Aside0 (Kd.C k64 w' A3 rl.length rl ∧ rl.length ≤ c3) ∧ Aside0 (Below w.heap.size w w') ∧ Aside0 (w'.heap[g]? = some (.cells #[.int .i64 1, .string attr, .string val, .int .i64 many] 64 (0, 0))))
    case atStart => exact ⟨0, rest, A2, _, _, rfl, rfl, rfl, HQ, ⟨by omega⟩, ⟨HD2.out, HC.out⟩, HB, BK⟩
    case round =>
     clear HQ HB BK HD2 HC hz0 hz1 hz2 hz3 hxt
     obtain ⟨j, rl, A3, c3, tx, rfl, rfl, rfl, HQ, HJ, HD, HB, BK⟩ := hrel
     by_cases c1 : (j : Int) < many
     ·have c1b0 := decide_eq_true c1
      obtain ⟨m, rfl⟩ : ∃ m, gk = m + 1 := ⟨gk - 1, by have := HJ.out; omega⟩
      have H := HQ.out
      simp only [Gd.lp] at H
      obtain ⟨⟨t1, r1⟩, HA0, H⟩ := Option.bind_eq_some_iff.1 H
      dsimp only at H
      by_cases hw : tx.size + t1.size ≤ 9000000000000000000
      case neg => rw [if_neg hw] at H; cases H
      rw [if_pos hw] at H
      have HA := Aside0.mk HA0
      have HN := Aside0.mk H
      have HWI : Aside0 (wrap64 ((j : Int) + 1) = ((j + 1 : Nat) : Int)) := ⟨by have := HS.out.2.2; unfold wrap64; omega⟩
      have faa := eq_true (show tx.size + t1.size ≤ 9223372036854775807 by omega)
      have fab : decide (tx.size + t1.size ≤ 9223372036854775807) = true := decide_eq_true (by omega)
      have fac : (9223372036854775807 < tx.size + t1.size) = False := eq_false (by omega)
      clear H HA0 HQ hw c1
      go_wp2_with (go_at_call 40; refine (ih _ _ rl t1 r1 _ HD.out.1 HD.out.2 HA.out).mono ?_; rintro e w6 ⟨A4, c4, rfl, hc4, hl4, hb⟩; have n0_ := Aside0.mk (below_step HB.out hb); have n1_ := Aside0.mk (blk_below BK.out hb); have HD4 := Aside0.mk (And.intro hc4 hl4); clear HB BK hb hc4 hl4; have HB := n0_; have BK := n1_; clear n0_ n1_)
      go_roundg m
      case measure => omega
      case rel => exact ⟨j + 1, r1, A4, c4, _, by rw [HWI.out], rfl, rfl, HN, ⟨by have := HJ.out; omega⟩, HD4, HB, BK⟩
     have c1b0 := decide_eq_false c1
     obtain rfl : gk = 0 := by have := HJ.out; omega
     have H := HQ.out
     simp only [Gd.lp, Option.some.injEq, Prod.mk.injEq] at H
     obtain ⟨rfl, rfl⟩ := H
     have H := HW.out
     simp only [Gd.wrap] at H
     by_cases hw : tx.size ≤ 9000000000000000000
     case neg => rw [if_neg hw] at H; cases H
     rw [if_pos hw] at H
     obtain ⟨rfl, rfl⟩ := SPz H
     have faa := eq_true (show 1 + tx.size ≤ 9223372036854775807 by omega)
     have fab : decide (1 + tx.size ≤ 9223372036854775807) = true := decide_eq_true (by omega)
     have fac : (9223372036854775807 < 1 + tx.size) = False := eq_false (by omega)
     have fba := eq_true (show 1 + tx.size + 1 ≤ 9223372036854775807 by omega)
     have fbb : decide (1 + tx.size + 1 ≤ 9223372036854775807) = true := decide_eq_true (by omega)
     have fbc : (9223372036854775807 < 1 + tx.size + 1) = False := eq_false (by omega)
     clear hw c1
     go_wp2
     refine bodyPost_ret (results_tmp2 rfl _ _ _) rfl ?_
     exact ⟨_, _, rfl, HD.out.1, HD.out.2, HB.out⟩
   by_cases o2 : op = 2
   ·subst o2
    have H := H2.out
    rw [if_pos (show ((2 : Int) = 1 ∨ (2 : Int) = 2 ∨ (2 : Int) = 3) by decide), show Gd.opt 2 = (⟨#[124]⟩ : ByteArray) from rfl] at H
    obtain ⟨⟨tq, rq⟩, HQ0, HW0⟩ := Option.bind_eq_some_iff.1 H
    have HQ := Aside0.mk HQ0
    have HW := Aside0.mk HW0
    clear H HQ0 HW0 H2
    have hxt : (⟨#[38, 124, 33]⟩ : ByteArray).extract 1 2 = (⟨#[124]⟩ : ByteArray) := by decide
    go_upto_region 9 with fail
    go_loopg [5, 6, 8, 33] many.toNat (fun kq v5 v6 v8 v33 w' => ∃ (j : Nat) (rl : List S64) (A3 : Option Addr) (c3 : Nat) (tx : ByteArray), v33 = .int .i64 (j : Int) ∧ v5 = .slice A3 rl.length c3 ∧ v6 = .string tx ∧ Aside0 (Gd.lp (Gd.ft k) kq rl tx = some (tq, rq)) ∧ Aside0 (j + kq = many.toNat) ∧ Aside0 (Kd.C k64 w' A3 rl.length rl ∧ rl.length ≤ c3) ∧ Aside0 (Below w.heap.size w w') ∧ Aside0 (w'.heap[g]? = some (.cells #[.int .i64 2, .string attr, .string val, .int .i64 many] 64 (0, 0))))
    case atStart => exact ⟨0, rest, A2, _, _, rfl, rfl, rfl, HQ, ⟨by omega⟩, ⟨HD2.out, HC.out⟩, HB, BK⟩
    case round =>
     clear HQ HB BK HD2 HC hz0 hz1 hz2 hz3 hxt
     obtain ⟨j, rl, A3, c3, tx, rfl, rfl, rfl, HQ, HJ, HD, HB, BK⟩ := hrel
     by_cases c1 : (j : Int) < many
     ·have c1b0 := decide_eq_true c1
      obtain ⟨m, rfl⟩ : ∃ m, gk = m + 1 := ⟨gk - 1, by have := HJ.out; omega⟩
      have H := HQ.out
      simp only [Gd.lp] at H
      obtain ⟨⟨t1, r1⟩, HA0, H⟩ := Option.bind_eq_some_iff.1 H
      dsimp only at H
      by_cases hw : tx.size + t1.size ≤ 9000000000000000000
      case neg => rw [if_neg hw] at H; cases H
      rw [if_pos hw] at H
      have HA := Aside0.mk HA0
      have HN := Aside0.mk H
      have HWI : Aside0 (wrap64 ((j : Int) + 1) = ((j + 1 : Nat) : Int)) := ⟨by have := HS.out.2.2; unfold wrap64; omega⟩
      have faa := eq_true (show tx.size + t1.size ≤ 9223372036854775807 by omega)
      have fab : decide (tx.size + t1.size ≤ 9223372036854775807) = true := decide_eq_true (by omega)
      have fac : (9223372036854775807 < tx.size + t1.size) = False := eq_false (by omega)
      clear H HA0 HQ hw c1
      go_wp2_with (go_at_call 40; refine (ih _ _ rl t1 r1 _ HD.out.1 HD.out.2 HA.out).mono ?_; rintro e w6 ⟨A4, c4, rfl, hc4, hl4, hb⟩; have n0_ := Aside0.mk (below_step HB.out hb); have n1_ := Aside0.mk (blk_below BK.out hb); have HD4 := Aside0.mk (And.intro hc4 hl4); clear HB BK hb hc4 hl4; have HB := n0_; have BK := n1_; clear n0_ n1_)
      go_roundg m
      case measure => omega
      case rel => exact ⟨j + 1, r1, A4, c4, _, by rw [HWI.out], rfl, rfl, HN, ⟨by have := HJ.out; omega⟩, HD4, HB, BK⟩
     have c1b0 := decide_eq_false c1
     obtain rfl : gk = 0 := by have := HJ.out; omega
     have H := HQ.out
     simp only [Gd.lp, Option.some.injEq, Prod.mk.injEq] at H
     obtain ⟨rfl, rfl⟩ := H
     have H := HW.out
     simp only [Gd.wrap] at H
     by_cases hw : tx.size ≤ 9000000000000000000
     case neg => rw [if_neg hw] at H; cases H
     rw [if_pos hw] at H
     obtain ⟨rfl, rfl⟩ := SPz H
     have faa := eq_true (show 1 + tx.size ≤ 9223372036854775807 by omega)
     have fab : decide (1 + tx.size ≤ 9223372036854775807) = true := decide_eq_true (by omega)
     have fac : (9223372036854775807 < 1 + tx.size) = False := eq_false (by omega)
     have fba := eq_true (show 1 + tx.size + 1 ≤ 9223372036854775807 by omega)
     have fbb : decide (1 + tx.size + 1 ≤ 9223372036854775807) = true := decide_eq_true (by omega)
     have fbc : (9223372036854775807 < 1 + tx.size + 1) = False := eq_false (by omega)
     clear hw c1
     go_wp2
     refine bodyPost_ret (results_tmp2 rfl _ _ _) rfl ?_
     exact ⟨_, _, rfl, HD.out.1, HD.out.2, HB.out⟩
   by_cases o3 : op = 3
   ·subst o3
    have H := H2.out
    rw [if_pos (show ((3 : Int) = 1 ∨ (3 : Int) = 2 ∨ (3 : Int) = 3) by decide), show Gd.opt 3 = (⟨#[33]⟩ : ByteArray) from rfl] at H
    obtain ⟨⟨tq, rq⟩, HQ0, HW0⟩ := Option.bind_eq_some_iff.1 H
    have HQ := Aside0.mk HQ0
    have HW := Aside0.mk HW0
    clear H HQ0 HW0 H2
    have hxt : (⟨#[38, 124, 33]⟩ : ByteArray).extract 2 3 = (⟨#[33]⟩ : ByteArray) := by decide
    go_upto_region 9 with fail
    go_loopg [5, 6, 8, 33] many.toNat (fun kq v5 v6 v8 v33 w' => ∃ (j : Nat) (rl : List S64) (A3 : Option Addr) (c3 : Nat) (tx : ByteArray), v33 = .int .i64 (j : Int) ∧ v5 = .slice A3 rl.length c3 ∧ v6 = .string tx ∧ Aside0 (Gd.lp (Gd.ft k) kq rl tx = some (tq, rq)) ∧ Aside0 (j + kq = many.toNat) ∧ Aside0 (Kd.C k64 w' A3 rl.length rl ∧ rl.length ≤ c3) ∧ Aside0 (Below w.heap.size w w') ∧ Aside0 (w'.heap[g]? = some (.cells #[.int .i64 3, .string attr, .string val, .int .i64 many] 64 (0, 0))))
    case atStart => exact ⟨0, rest, A2, _, _, rfl, rfl, rfl, HQ, ⟨by omega⟩, ⟨HD2.out, HC.out⟩, HB, BK⟩
    case round =>
     clear HQ HB BK HD2 HC hz0 hz1 hz2 hz3 hxt
     obtain ⟨j, rl, A3, c3, tx, rfl, rfl, rfl, HQ, HJ, HD, HB, BK⟩ := hrel
     by_cases c1 : (j : Int) < many
     ·have c1b0 := decide_eq_true c1
      obtain ⟨m, rfl⟩ : ∃ m, gk = m + 1 := ⟨gk - 1, by have := HJ.out; omega⟩
      have H := HQ.out
      simp only [Gd.lp] at H
      obtain ⟨⟨t1, r1⟩, HA0, H⟩ := Option.bind_eq_some_iff.1 H
      dsimp only at H
      by_cases hw : tx.size + t1.size ≤ 9000000000000000000
      case neg => rw [if_neg hw] at H; cases H
      rw [if_pos hw] at H
      have HA := Aside0.mk HA0
      have HN := Aside0.mk H
      have HWI : Aside0 (wrap64 ((j : Int) + 1) = ((j + 1 : Nat) : Int)) := ⟨by have := HS.out.2.2; unfold wrap64; omega⟩
      have faa := eq_true (show tx.size + t1.size ≤ 9223372036854775807 by omega)
      have fab : decide (tx.size + t1.size ≤ 9223372036854775807) = true := decide_eq_true (by omega)
      have fac : (9223372036854775807 < tx.size + t1.size) = False := eq_false (by omega)
      clear H HA0 HQ hw c1
      go_wp2_with (go_at_call 40; refine (ih _ _ rl t1 r1 _ HD.out.1 HD.out.2 HA.out).mono ?_; rintro e w6 ⟨A4, c4, rfl, hc4, hl4, hb⟩; have n0_ := Aside0.mk (below_step HB.out hb); have n1_ := Aside0.mk (blk_below BK.out hb); have HD4 := Aside0.mk (And.intro hc4 hl4); clear HB BK hb hc4 hl4; have HB := n0_; have BK := n1_; clear n0_ n1_)
      go_roundg m
      case measure => omega
      case rel => exact ⟨j + 1, r1, A4, c4, _, by rw [HWI.out], rfl, rfl, HN, ⟨by have := HJ.out; omega⟩, HD4, HB, BK⟩
     have c1b0 := decide_eq_false c1
     obtain rfl : gk = 0 := by have := HJ.out; omega
     have H := HQ.out
     simp only [Gd.lp, Option.some.injEq, Prod.mk.injEq] at H
     obtain ⟨rfl, rfl⟩ := H
     have H := HW.out
     simp only [Gd.wrap] at H
     by_cases hw : tx.size ≤ 9000000000000000000
     case neg => rw [if_neg hw] at H; cases H
     rw [if_pos hw] at H
     obtain ⟨rfl, rfl⟩ := SPz H
     have faa := eq_true (show 1 + tx.size ≤ 9223372036854775807 by omega)
     have fab : decide (1 + tx.size ≤ 9223372036854775807) = true := decide_eq_true (by omega)
     have fac : (9223372036854775807 < 1 + tx.size) = False := eq_false (by omega)
     have fba := eq_true (show 1 + tx.size + 1 ≤ 9223372036854775807 by omega)
     have fbb : decide (1 + tx.size + 1 ≤ 9223372036854775807) = true := decide_eq_true (by omega)
     have fbc : (9223372036854775807 < 1 + tx.size + 1) = False := eq_false (by omega)
     clear hw c1
     go_wp2
     refine bodyPost_ret (results_tmp2 rfl _ _ _) rfl ?_
     exact ⟨_, _, rfl, HD.out.1, HD.out.2, HB.out⟩
   have hb1 : (op == 1) = false := beq_false_of_ne o1
   have hb2 : (op == 2) = false := beq_false_of_ne o2
   have hb3 : (op == 3) = false := beq_false_of_ne o3
   have hb4 : (op == 4) = false := beq_false_of_ne o4
   have hb5 : (op == 5) = false := beq_false_of_ne o5
   have hb6 : (op == 6) = false := beq_false_of_ne o6
   have hb7 : (op == 7) = false := beq_false_of_ne o7
   have hb8 : (op == 8) = false := beq_false_of_ne o8
   have H := H2.out
   rw [if_neg (by omega), if_neg o4, if_neg o5, if_neg o6, if_neg o7, if_neg o8] at H
   simp only [Gd.wrap] at H
   rw [if_pos (by decide)] at H
   obtain ⟨rfl, rfl⟩ := SPz H
   clear o1 o2 o3 o4 o5 o6 o7 o8 H2
   go_wp2
   refine bodyPost_ret (results_tmp2 rfl _ _ _) rfl ?_
   exact ⟨_, _, rfl, HD2.out, HC.out, HB.out⟩
theorem Gd.lp_mono {g g' : List S64 → Option (ByteArray × List S64)} (h : ∀ l, LeO (g l) (g' l)) : ∀ (m : Nat) (r : List S64) (t : ByteArray), LeO (Gd.lp g m r t) (Gd.lp g' m r t)
 | 0, _, _ => LeO.refl _
 | m + 1, r, t => LeO.bind (h r) (fun _ => LeO.ite (Gd.lp_mono h m _ _) (LeO.refl _))
theorem Gd.ft_mono : ∀ (k : Nat) (l : List S64), LeO (Gd.ft k l) (Gd.ft (k + 1) l)
 | 0, l => fun r h => by simp [Gd.ft] at h
 | k + 1, [] => fun r h => by simp [Gd.ft] at h
 | k + 1, n :: rest => by
  rw [Gd.ft, Gd.ft]
  exact LeO.ite (LeO.ite (LeO.bind (Gd.lp_mono (fun l => Gd.ft_mono k l) _ _ _) (fun _ => LeO.refl _)) (LeO.refl _)) (LeO.refl _)
def Gd.f (k : Nat) (l0 : List S64) : Option ByteArray := (Gc.f k l0).bind fun b => if b = true then (Gd.ft k l0).bind fun q => some q.1 else some ⟨#[]⟩
theorem Gd.mono : ∀ l0 k, LeO (Gd.f k l0) (Gd.f (k + 1) l0) := fun l0 k => LeO.bind (Gc.mono _ _) (fun _ => LeO.ite (LeO.bind (Gd.ft_mono k l0) (fun _ => LeO.refl _)) (LeO.refl _))
set_option maxHeartbeats 8000000 in
set_option maxRecDepth 100000 in
theorem Gd.calls (k : Nat) (A0 : Option Addr) (c0 : Nat) (l0 : List S64) (r : ByteArray) (w : World) (hr0 : Kd.C k64 w A0 l0.length l0) (hc0 : l0.length ≤ c0) (h : Gd.f k l0 = some r) :
  Calls Tryz.prog 10 #[.slice A0 l0.length c0] w fun e w' => e = .returned (.string r) ∧ Below w.heap.size w w' := by
 have HR0 := Aside0.mk hr0
 have HC0 := Aside0.mk hc0
 have HB := Aside0.mk (Below.refl w.heap.size w)
 clear hr0 hc0
 unfold Gd.f at h
 obtain ⟨b, AB0, h⟩ := Option.bind_eq_some_iff.1 h
 have AB := Aside0.mk AB0
 clear AB0
 cases b with
 | false =>
  rw [if_neg (by simp)] at h
  obtain rfl := Option.some.inj h
  clear h
  go_enter Tryz.func10, Tryz.ntmps10
  go_wp2_with (go_at_call 18; (with_reducible refine (Gc.calls k _ _ l0 false _ (Kd.C_below HR0.out HB.out) HC0.out AB.out).mono ?_); rintro e w3 ⟨rfl, hb⟩; have n0_ := Aside0.mk (below_step HB.out hb); clear HB hb; have HB := n0_; clear n0_)
  go_ret
  exact ⟨rfl, HB.out⟩
 | true =>
  rw [if_pos rfl] at h
  obtain ⟨⟨t, rr⟩, AT0, h⟩ := Option.bind_eq_some_iff.1 h
  have AT := Aside0.mk AT0
  obtain rfl := Option.some.inj h
  clear h AT0
  go_enter Tryz.func10, Tryz.ntmps10
  go_wp2_with (first | (go_at_call 18; (with_reducible refine (Gc.calls k _ _ l0 true _ (Kd.C_below HR0.out HB.out) HC0.out AB.out).mono ?_); rintro e w3 ⟨rfl, hb⟩; have n0_ := Aside0.mk (below_step HB.out hb); clear HB hb; have HB := n0_; clear n0_) | (go_at_call 40; (refine (Gd.ftext k _ _ l0 t rr _ (Kd.C_below HR0.out HB.out) HC0.out AT.out).mono ?_); rintro e w4 ⟨A2, c2, rfl, _, _, hb⟩; have n0_ := Aside0.mk (below_step HB.out hb); clear HB hb; have HB := n0_; clear n0_))
  go_ret
  exact ⟨rfl, HB.out⟩
end Go.Proofs.YtmkeigielncpjaaGreatDoor.PFnFilter
