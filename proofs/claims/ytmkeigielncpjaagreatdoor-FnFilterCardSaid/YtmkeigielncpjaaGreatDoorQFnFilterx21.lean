-- Laid by this session's own program out of the translation; Lean checks it.
import Derived.Test.YtmkeigielncpjaaGreatDoorQFnFilterx0
import Derived.Test.YtmkeigielncpjaaGreatDoorQFnFilterx2
import Derived.Test.YtmkeigielncpjaaGreatDoorQFnFilterx6
import Derived.Test.YtmkeigielncpjaaGreatDoorQFnFilterx8
import Derived.Test.YtmkeigielncpjaaGreatDoorQFnFilterx11
import Derived.Test.YtmkeigielncpjaaGreatDoorQFnFilterx12
import Derived.Test.YtmkeigielncpjaaGreatDoorQFnFilterx15
import Derived.Test.YtmkeigielncpjaaGreatDoorQFnFilterx18
import Derived.Test.YtmkeigielncpjaaGreatDoorQFnFilterx19
import Derived.Test.YtmkeigielncpjaaGreatDoorQFnFilterx20
namespace Go.Proofs.YtmkeigielncpjaaGreatDoor.PFnFilter
open Go.RowKit Go.Proofs.YtmkeigielncpjaaGreatDoorW.PrintWords Go.Proofs.YtmkeigielncpjaaGreatDoorW.PrintLast Go.Proofs.YtmkeigielncpjaaGreatDoorW.PrintMore
attribute [local go_sem] max2_int min2_int max_two min_two max_three min_three max_four min_four   -- for this text's walks alone
set_option linter.unusedVariables false
set_option linter.unusedSimpArgs false
theorem Gt.w64 {x : Int} (h0 : -9223372036854775808 ≤ x) (h1 : x ≤ 9223372036854775807) : wrap64 x = x := by unfold wrap64; omega
theorem Gt.u64w {x : Int} (h0 : 0 ≤ x) (h1 : x < 18446744073709551616) : IntKind.u64.wrap x = x := by rw [IntKind.wrap_u64]; omega
def Gt.SrcOK (b : List Int) (a m : Int) : Prop := b.length ≤ 140737488351232 ∧ (∀ x ∈ b, 0 ≤ x ∧ x ≤ 255) ∧ 0 ≤ a ∧ a ≤ b.length ∧ 0 ≤ m ∧ m < 18446744073709551616
theorem Gt.u64_bits_range (op : BinOp) (x y : Int) : 0 ≤ Go.bits op .u64 x y ∧ Go.bits op .u64 x y < 18446744073709551616 := by
 unfold Go.bits
 rw [IntKind.wrap_u64]
 omega
theorem Gt.wf_u8 {n : Int} (h : (Lit.int .u8 n).wf = true) : 0 ≤ n ∧ n ≤ 255 := by
 simpa [Lit.wf, IntKind.min, IntKind.max, IntKind.bits, IntKind.signed] using h
theorem Gt.draw_n (b : List Int) (a m z most : Int) (h : Gt.SrcOK b a m) (h1 : most ≤ 9223372036854775807) :
  ∃ r a' m', Qd.f b a m z most = some (r, a', m', z) ∧ 0 ≤ r ∧ (1 ≤ most → r < most) ∧ Gt.SrcOK b a' m' := by
 obtain ⟨hb, hr, ha0, ha1, hm0, hm1⟩ := h
 unfold Qd.f
 by_cases hm : most ≤ 1
 ·rw [if_pos hm]
  exact ⟨0, a, m, rfl, by omega, by omega, hb, hr, ha0, ha1, hm0, hm1⟩
 rw [if_neg hm]
 have hw : IntKind.u64.wrap most = most := Gt.u64w (by omega) (by omega)
 have fin : ∀ X : Int, 0 ≤ X → wrap64 (Int.tmod X most) = X % most ∧ 0 ≤ X % most ∧ X % most < most := by
  intro X hX
  have h3 : 0 ≤ X % most := Int.emod_nonneg _ (by omega)
  have h4 : X % most < most := Int.emod_lt_of_pos _ (by omega)
  rw [Int.tmod_eq_emod_of_nonneg hX]
  exact ⟨Gt.w64 (by omega) (by omega), h3, h4⟩
 have uw : ∀ x : Int, 0 ≤ IntKind.u64.wrap x := fun x => by rw [IntKind.wrap_u64]; omega
 generalize hM : Go.bits .xor .u64 (Go.bits .xor .u64 (Go.bits .xor .u64 m (IntKind.u64.wrap (m * 8192))) ((Go.bits .xor .u64 m (IntKind.u64.wrap (m * 8192))) / 128)) (IntKind.u64.wrap ((Go.bits .xor .u64 (Go.bits .xor .u64 m (IntKind.u64.wrap (m * 8192))) ((Go.bits .xor .u64 m (IntKind.u64.wrap (m * 8192))) / 128)) * 131072)) = M
 have hMr : 0 ≤ M ∧ M < 18446744073709551616 := by rw [← hM]; exact Gt.u64_bits_range _ _ _
 rw [hw, if_neg (show ¬ most = 0 by omega), if_neg (show ¬ most = 0 by omega)]
 by_cases hl : a < (b.length : Int)
 ·rw [if_pos hl, if_pos ha0, Gt.w64 (x := a + 1) (by omega) (by omega)]
  obtain ⟨e, e0, e1⟩ := fin (IntKind.u64.wrap (IntKind.u64.wrap (rd b a) + M / 1048576)) (uw _)
  rw [e]
  exact ⟨_, _, _, rfl, e0, fun _ => e1, hb, hr, by omega, by omega, hMr.1, hMr.2⟩
 rw [if_neg hl]
 obtain ⟨e, e0, e1⟩ := fin (IntKind.u64.wrap (0 + M / 1048576)) (uw _)
 rw [e]
 exact ⟨_, _, _, rfl, e0, fun _ => e1, hb, hr, ha0, ha1, hMr.1, hMr.2⟩
theorem Gt.draw_source_l0 (l : List Int) : ∀ (d k : Nat) (i m : Int), 0 ≤ i → i + d = 64 → d < k → 0 ≤ m → m < 18446744073709551616 →
  ∃ m' z', Qc.l0 k l i l 0 m 0 = some (l, 0, m', z') ∧ 0 ≤ m' ∧ m' < 18446744073709551616
 | d, k, i, m, h0, hd, hk, hm0, hm1 => by
  obtain ⟨k, rfl⟩ : ∃ q, k = q + 1 := ⟨k - 1, by omega⟩
  rw [Qc.l0]
  have fin : ∀ X : Int, ∃ m' z', (if X > 12 then some (l, (0 : Int), m, (12 : Int)) else some (l, (0 : Int), m, X)) = some (l, 0, m', z') ∧ 0 ≤ m' ∧ m' < 18446744073709551616 := by
   intro X
   split
   ·exact ⟨m, _, rfl, hm0, hm1⟩
   ·exact ⟨m, _, rfl, hm0, hm1⟩
  by_cases hl : i < (l.length : Int)
  ·rw [if_pos hl]
   by_cases h64 : i < 64
   ·rw [if_pos h64, if_pos h0, Gt.w64 (x := i + 1) (by omega) (by omega)]
    cases d with
    | zero => omega
    | succ d =>
     have hr : ∀ x : Int, 0 ≤ IntKind.u64.wrap x ∧ IntKind.u64.wrap x < 18446744073709551616 := fun x => by rw [IntKind.wrap_u64]; omega
     exact Gt.draw_source_l0 l d k (i + 1) _ (by omega) (by omega) (by omega) (hr _).1 (hr _).2
   ·rw [if_neg h64]; exact fin _
  ·rw [if_neg hl]; exact fin _
theorem Gt.draw_source (l : List Int) (hl : l.length ≤ 140737488351232) (hr : ∀ x ∈ l, 0 ≤ x ∧ x ≤ 255) (k : Nat) (hk : 65 ≤ k) :
  ∃ m z, Qc.f k l = some (l, 0, m, z) ∧ Gt.SrcOK l 0 m := by
 obtain ⟨m, z, e, h0, h1⟩ := Gt.draw_source_l0 l 64 k 0 88172645463325252 (by omega) (by omega) (by omega) (by omega) (by omega)
 exact ⟨m, z, e, hl, hr, by omega, by omega, h0, h1⟩
theorem Gt.draw_one (b : List Int) (a m z most : Int) (h : Gt.SrcOK b a m) (h1 : most ≤ 9223372036854775807) :
  ∃ r a' m', Qe.f b a m z most = some (r, a', m', z) ∧ Gt.SrcOK b a' m' := by
 obtain ⟨r, a', m', e, _, _, h'⟩ := Gt.draw_n b a m z most h h1
 unfold Qe.f
 rw [e]
 exact ⟨_, _, _, rfl, h'⟩
theorem Gt.draw_pick (b : List Int) (a m z : Int) (l : List ByteArray) (h : Gt.SrcOK b a m) (h0 : 0 < l.length) (h1 : l.length ≤ 1000) :
  ∃ v a' m', Qf.f b a m z l = some (v, a', m', z) ∧ v ∈ l ∧ Gt.SrcOK b a' m' := by
 obtain ⟨r, a', m', e, r0, r1, h'⟩ := Gt.draw_n b a m z (l.length : Int) h (by omega)
 unfold Qf.f
 rw [e]
 simp only [Option.bind_some]
 have := r1 (by omega)
 rw [if_pos r0, if_pos this]
 refine ⟨_, _, _, rfl, ?_, h'⟩
 unfold rdOf
 rw [List.getD_eq_getElem?_getD, List.getElem?_eq_getElem (by omega)]
 exact List.getElem_mem _
def Gt.DS (w0 W : World) (g : Nat) : Prop := (∃ b a m z, Gt.SrcOK b a m ∧ IsS112 w0 W g b a m z) ∧ Below w0.heap.size w0 W
section
variable {w0 W W1 : World} {g : Nat}
theorem Gt.DS.lt (h : Gt.DS w0 W g) : g < W.heap.size := by
 obtain ⟨⟨_, _, _, _, _, h1⟩, _⟩ := h
 exact IsS112.lt h1
theorem Gt.DS.blk (h : Gt.DS w0 W g) : ∃ cs, W.heap[g]? = some (.cells cs 112 (0, 0)) := by
 obtain ⟨⟨_, _, _, _, _, A, c, hb, _⟩, _⟩ := h
 exact ⟨_, hb⟩
theorem Gt.DS.below (h : Gt.DS w0 W g) (hb : Below W.heap.size W W1) : Gt.DS w0 W1 g := by
 obtain ⟨⟨_, _, _, _, h0, h1⟩, h2⟩ := h
 exact ⟨⟨_, _, _, _, h0, IsS112.below h1 hb⟩, below_step h2 hb⟩
theorem Gt.DS.alloc (h : Gt.DS w0 W g) (o : Obj) : Gt.DS w0 (W.alloc o) g := Gt.DS.below h (below_alloc (Below.refl _ _) o)
theorem Gt.DS.drew (h : Gt.DS w0 W g) : Gt.DS w0 W.drew g := ⟨h.1, below_drew1 h.2⟩
theorem Gt.DS.drewN (h : Gt.DS w0 W g) (m : Nat) : Gt.DS w0 (W.drewN m) g := ⟨h.1, pw_below_drewN h.2 m⟩
theorem Gt.DS.far (h : Gt.DS w0 W g) {b i : Nat} (hne : g ≠ b) (hb : w0.heap.size ≤ b) (u : Value) : Gt.DS w0 (W.setCell ⟨b, i, none⟩ u) g := by
 obtain ⟨⟨_, _, _, _, h0, h1⟩, h2⟩ := h
 exact ⟨⟨_, _, _, _, h0, IsS112.far h1 hne u⟩, below_set h2 hb⟩
theorem Gt.DS.n (h : Gt.DS w0 W g) (most : Int) (h1 : most ≤ 9223372036854775807) : Calls Tryz.prog 51 #[.pointer (some ⟨g, 0, none⟩), .int .i64 most] W fun e w' => ∃ r : Int, e = .returned (.int .i64 r) ∧ 0 ≤ r ∧ (1 ≤ most → r < most) ∧ Gt.DS w0 w' g ∧ KeepBut W w' g none := by
 obtain ⟨⟨b, a, m, z, h0, hI⟩, hB⟩ := h
 obtain ⟨r, a', m', e, r0, r1, h0'⟩ := Gt.draw_n b a m z most h0 h1
 refine (Qd.calls g b a m z most r a' m' z w0 W hI hB e).mono ?_
 rintro e w' ⟨rfl, hi, hb, hk⟩
 exact ⟨r, rfl, r0, r1, ⟨⟨_, _, _, _, h0', hi⟩, hb⟩, hk⟩
theorem Gt.DS.one (h : Gt.DS w0 W g) (most : Int) (h1 : most ≤ 9223372036854775807) : Calls Tryz.prog 87 #[.pointer (some ⟨g, 0, none⟩), .int .i64 most] W fun e w' => ∃ r : Bool, e = .returned (.bool r) ∧ Gt.DS w0 w' g ∧ KeepBut W w' g none := by
 obtain ⟨⟨b, a, m, z, h0, hI⟩, hB⟩ := h
 obtain ⟨r, a', m', e, h0'⟩ := Gt.draw_one b a m z most h0 h1
 refine (Qe.calls g b a m z most r a' m' z w0 W hI hB e).mono ?_
 rintro e w' ⟨rfl, hi, hb, hk⟩
 exact ⟨r, rfl, ⟨⟨_, _, _, _, h0', hi⟩, hb⟩, hk⟩
theorem Gt.litC (W : World) (xs : List ByteArray) (hx : xs.length ≤ 1000) : Kd.C Kd.string (W.alloc (.cells (xs.map Value.string).toArray 9)) (some ⟨W.heap.size, 0, none⟩) xs.length xs := by
 have hb := blk_new W (.cells (xs.map Value.string).toArray 9)
 refine ⟨rfl, by omega, fun _ => ⟨⟨W.heap.size, 0, none⟩, rfl, fun j p hp => ⟨[.string p], rfl, rfl, fun i u hu => ?_⟩⟩⟩
 cases i with
 | succ i => simp at hu
 | zero =>
  simp at hu
  subst hu
  have e1 : (⟨W.heap.size, 0, none⟩ : Addr).add (j * Kd.string.sz + 0) = ⟨W.heap.size, j, none⟩ := by simp [Addr.add, Kd.string, Kd.scalar, eq_comm]
  rw [e1, blk_cell hb j]
  simp [hp]
theorem Gt.DS.pick (h : Gt.DS w0 W g) (l : List ByteArray) (h0 : 0 < l.length) (h1 : l.length ≤ 1000) : Calls Tryz.prog 53 #[.pointer (some ⟨g, 0, none⟩), .slice (some ⟨W.heap.size, 0, none⟩) l.length l.length] (W.alloc (.cells (l.map Value.string).toArray 9)) fun e w' => ∃ v : ByteArray, e = .returned (.string v) ∧ Gt.DS w0 w' g ∧ KeepBut W w' g none := by
 have hlt := Gt.DS.lt h
 obtain ⟨⟨b, a, m, z, hs, hI⟩, hB⟩ := Gt.DS.alloc h (.cells (l.map Value.string).toArray 9)
 obtain ⟨v, a', m', e, hv, hs'⟩ := Gt.draw_pick b a m z l hs h0 h1
 refine (Qf.calls g b a m z (some ⟨W.heap.size, 0, none⟩) l.length l v a' m' z w0 _ hI hB (Gt.litC W l h1) (Nat.le_refl _) (fun ad e _ => by injection e with e; subst e; exact Nat.ne_of_gt hlt) e).mono ?_
 rintro e w' ⟨rfl, hi, hb, hk⟩
 exact ⟨v, rfl, ⟨⟨_, _, _, _, hs', hi⟩, hb⟩, (keep_alloc (KeepBut.refl W g none) _).trans hk (.inl rfl)⟩
def Gt.DR (w0 W : World) (g : Nat) (l : List S64) (A : Option Addr) (c : Nat) : Prop := Gt.DS w0 W g ∧ Kd.R k64 64 W w0.heap.size (fun _ => True) (.slice A l.length c) l
variable {l l1 : List S64} {A : Option Addr} {c : Nat}
theorem Gt.DR.far (h : Gt.DR w0 W g l A c) : Kd.R k64 64 W w0.heap.size (fun k => True ∧ k ≠ g) (.slice A l.length c) l := by
 obtain ⟨cs, hb⟩ := Gt.DS.blk h.1
 exact Kd.R_types h.2 hb (by decide)
theorem Gt.DR.keep (h : Gt.DR w0 W g l A c) (hs : Gt.DS w0 W1 g) (hk : KeepBut W W1 g none) : Gt.DR w0 W1 g l A c := ⟨hs, Kd.R_mono (Kd.R_keep (Gt.DR.far h) hk (fun _ hk => hk.2)) (fun _ _ => trivial)⟩
theorem Gt.DR.below (h : Gt.DR w0 W g l A c) (hb : Below W.heap.size W W1) : Gt.DR w0 W1 g l A c := ⟨Gt.DS.below h.1 hb, Kd.R_below h.2 hb⟩
theorem Gt.DR.alloc (h : Gt.DR w0 W g l A c) (o : Obj) : Gt.DR w0 (W.alloc o) g l A c := ⟨Gt.DS.alloc h.1 o, Kd.R_alloc h.2 o⟩
theorem Gt.DR.drew (h : Gt.DR w0 W g l A c) : Gt.DR w0 W.drew g l A c := ⟨Gt.DS.drew h.1, Kd.R_drew h.2⟩
theorem Gt.DR.app (h : Gt.DR w0 W g l A c) {A1 : Option Addr} {c1 : Nat} (hr : Kd.R k64 64 W1 w0.heap.size (fun _ => True) (.slice A1 l1.length c1) l1) (hB : Below w0.heap.size w0 W1) (hg : W.grownBy W1 (.slice A l.length c : Value).ownBlock) : Gt.DR w0 W1 g l1 A1 c1 := by
 obtain ⟨⟨⟨_, _, _, _, h0, h1⟩, h2⟩, h3⟩ := h
 exact ⟨⟨⟨_, _, _, _, h0, IsS112.grown h1 hg (IsS112.own_ne h1 h3 (by decide))⟩, hB⟩, hr⟩
theorem Gt.DR.setB (h : Gt.DR w0 W g l A c) {b i : Nat} (hne : g ≠ b) (hb : w0.heap.size ≤ b) (ho : some b ≠ (.slice A l.length c : Value).ownBlock) (u : Value) : Gt.DR w0 (W.setCell ⟨b, i, none⟩ u) g l A c :=
 ⟨Gt.DS.far h.1 hne hb u, Kd.R_mono (Kd.R_far (p := ⟨b, i, none⟩) (show Kd.R k64 64 W w0.heap.size (fun k => some k = (.slice A l.length c : Value).ownBlock) (.slice A l.length c) l from Kd.R_tight rfl h.2) (fun k hk e => ho (by rw [← hk, e])) u) (fun _ _ => trivial)⟩
theorem Gt.DR.elem (h : Gt.DR w0 W g l A c) (i : Nat) (hi : i < l.length) : ∃ go, A = some ⟨go, 0, none⟩ ∧ (W.cell? ⟨go, i * 4 + 1, none⟩ = some (.string (l.getD i z64).f1) ∧ W.cell? ⟨go, i * 4 + 3, none⟩ = some (.int .i64 (l.getD i z64).f3) ∧ W.frozen? ⟨go, i * 4 + 1, none⟩ = false ∧ W.frozen? ⟨go, i * 4 + 3, none⟩ = false) ∧
  (∀ x, ∃ l', l'.length = l.length ∧ Gt.DR w0 (W.setCell ⟨go, i * 4 + 1, none⟩ (.string x)) g l' A c) ∧ (∀ x, ∃ l', l'.length = l.length ∧ Gt.DR w0 (W.setCell ⟨go, i * 4 + 3, none⟩ (.int .i64 x)) g l' A c) := by
 obtain ⟨cg, hcg⟩ := Gt.DS.blk h.1
 obtain ⟨go, cap, e, hgo, hgl, cells, hc⟩ := Kd.R_form h.2 (by omega)
 injection e with e1 _ e3
 subst e1
 subst e3
 have hne : g ≠ go := by
  rintro rfl
  rw [hcg] at hc
  injection hc with hc
  injection hc with _ hc
  exact absurd hc (by decide)
 obtain ⟨ce, hcl, hM, hcc, hfr⟩ := Kd.R_elem h.2 z64 (i : Int) (by omega) (by omega)
 obtain rfl := k64_openM hM
 refine ⟨go, rfl, ⟨hcc 1 _ rfl, hcc 3 _ rfl, hfr 1, hfr 3⟩, fun x => ?_, fun x => ?_⟩
 ·have hs := Kd.R_seg h.2 (i : Int) (by omega) (by omega) (seg := [.string x]) (j := 1) hcl hcc (show 2 ≤ 4 from by decide) (x' := (⟨(l.getD i z64).f0, x, (l.getD i z64).f2, (l.getD i z64).f3⟩ : S64)) (k64_mkM _ _ (fun _ => False) _) (fun _ hk => hk.elim)
  exact ⟨_, List.length_set, Gt.DS.far h.1 hne hgo _, by rw [List.length_set]; exact hs.1⟩
 ·have hs := Kd.R_seg h.2 (i : Int) (by omega) (by omega) (seg := [.int .i64 x]) (j := 3) hcl hcc (show 4 ≤ 4 from by decide) (x' := (⟨(l.getD i z64).f0, (l.getD i z64).f1, (l.getD i z64).f2, x⟩ : S64)) (k64_mkM _ _ (fun _ => False) _) (fun _ hk => hk.elim)
  exact ⟨_, List.length_set, Gt.DS.far h.1 hne hgo _, by rw [List.length_set]; exact hs.1⟩
end
set_option maxRecDepth 100000 in
set_option maxHeartbeats 16000000 in
theorem Gt.filter : ∀ (k g : Nat) (deep : Int) (l : List S64) (A : Option Addr) (c : Nat) (w0 w : World) (h : Gt.DR w0 w g l A c) (hd : deep ≤ k) (hk : k ≤ 4) (hl : l.length + 2 ^ (k + 1) ≤ 1000),
  Calls Tryz.prog 86 #[.pointer (some ⟨g, 0, none⟩), .slice A l.length c, .int .i64 deep] w fun e w' => ∃ A' c' l', e = .returned (.slice A' l'.length c') ∧ Gt.DR w0 w' g l' A' c' ∧ l.length < l'.length ∧ l'.length + 1 ≤ l.length + 2 ^ (k + 1) := by
 intro k
 induction k using Nat.strongRecOn with
 | _ k ih =>
  intro g deep l A c w0 w h hd hk hl
  have HD := Aside0.mk h
  have HB := Aside0.mk (And.intro hd (And.intro hk hl))
  have HLL := Aside0.mk (Nat.le_trans (Nat.le_add_right l.length (2 ^ (k + 1))) hl)
  have HP := Aside0.mk (show 2 ≤ 2 ^ (k + 1) from by have := Nat.one_le_two_pow (n := k); rw [Nat.pow_succ]; omega)
  have hu64 := Tryz.underlying64
  have hu25 := Tryz.underlying25
  clear h hd hk hl
  go_enter Tryz.func86, Tryz.ntmps86
  go_upto_region 1 with fail
  go_cut [15] (fun v15 wc => ∃ b : Bool, v15 = .bool b ∧ Aside0 (b = true → deep > 1) ∧ Aside0 (Gt.DR w0 wc g l A c))
  case first =>
   by_cases d1 : deep > 1
   case neg =>
    have d1b : decide (1 < deep) = false := decide_eq_false d1
    clear d1
    go_wp2
    go_meet
    case rel => exact ⟨false, rfl, ⟨fun h => by cases h⟩, HD⟩
   have d1b : decide (1 < deep) = true := decide_eq_true d1
   have HDD := Aside0.mk d1
   clear d1
   go_wp2_with (go_at_call 87; refine (Gt.DS.one HD.out.1 2 (by decide)).mono ?_; rintro e w1 ⟨r, rfl, hs, hk⟩; have HD1 := Aside0.mk (Gt.DR.keep HD.out hs hk); clear hs hk HD)
   go_meet
   case rel => exact ⟨r, rfl, ⟨fun _ => HDD.out⟩, HD1⟩
  case rest =>
   clear HD
   obtain ⟨b, rfl, HDB, HD⟩ := hcut
   go_upto_if 15 with fail
   go_cut [1] (fun v1 wc => v1 = .slice A l.length c ∧ Aside0 (Gt.DR w0 wc g l A c))
   case first =>
    cases b with
    | false =>
     go_wp2
     go_meet
     case rel => exact ⟨rfl, HD⟩
    | true =>
     have HDD := Aside0.mk (HDB.out rfl)
     have HD1 := HD
     clear HDB HD
     obtain ⟨k, rfl⟩ : ∃ q, k = q + 1 := ⟨k - 1, by have := HB.out.1; have := HDD.out; omega⟩
     go_upto_region 3 with (first | (go_at_call 51; refine (Gt.DS.n HD1.out.1 3 (by decide)).mono ?_; rintro e w2 ⟨r1, rfl, r10, r11, hs, hk⟩; have HD2 := Aside0.mk (Gt.DR.keep HD1.out hs hk); clear hs hk HD1; have r1b := Aside0.mk (And.intro r10 r11); clear r10 r11) | (go_at_call 51; refine (Gt.DS.n HD2.out.1 2 (by decide)).mono ?_; rintro e w3 ⟨r2, rfl, r20, r21, hs, hk⟩; have HD3 := Aside0.mk (Gt.DR.keep HD2.out hs hk); clear hs hk HD2; have r2b := Aside0.mk (And.intro r20 r21); clear r20 r21))
     generalize hop : wrap64 (1 + r1) = op
     obtain ⟨mn, hmn⟩ : ∃ mn, mn = wrap64 (1 + r2) := ⟨_, rfl⟩
     have HM := Aside0.mk (show 1 ≤ mn ∧ mn ≤ 2 from by have := r2b.out.1; have := r2b.out.2 (by omega); subst hmn; unfold wrap64; omega)
     rw [← hmn]
     clear hop hmn r1b r2b
     have BK := Aside0.mk (blk_new w3 (.cells #[.int .i64 op, .string ⟨#[]⟩, .string ⟨#[]⟩, .int .i64 mn] 64))
     have HG := Aside0.mk (show some w3.heap.size ≠ (.slice A l.length c : Value).ownBlock from fun e => by have := Kd.R_lt HD3.out.2 _ e.symm; omega)
     have HN := Aside0.mk (And.intro (Nat.ne_of_lt (Gt.DS.lt HD3.out.1)) (below_size HD3.out.1.2))
     have n0_ := Aside0.mk (Gt.DR.alloc HD3.out (.cells #[.int .i64 op, .string ⟨#[]⟩, .string ⟨#[]⟩, .int .i64 mn] 64))
     clear HD3
     obtain ⟨gn, hgn⟩ : ∃ gn, gn = w3.heap.size := ⟨_, rfl⟩
     rw [← hgn] at BK HG HN ⊢
     clear hgn
     generalize w3.alloc (.cells #[.int .i64 op, .string ⟨#[]⟩, .string ⟨#[]⟩, .int .i64 mn] 64) = w4 at BK n0_ ⊢
     have q0 : w4.cell? ⟨gn, 0, none⟩ = some (.int .i64 op) := (blk_cell BK.out 0).trans rfl
     have q3 : w4.cell? ⟨gn, 3, none⟩ = some (.int .i64 mn) := (blk_cell BK.out 3).trans rfl
     have q4 := blk_frozen BK.out 3
     go_upto_if 25 with fail
     go_cut [] (fun wc => ∃ mm : Int, Aside0 (1 ≤ mm ∧ mm ≤ 2) ∧ Aside0 (wc.heap[gn]? = some (.cells #[.int .i64 op, .string ⟨#[]⟩, .string ⟨#[]⟩, .int .i64 mm] 64 (0, 0))) ∧ Aside0 (Gt.DR w0 wc g l A c))
     case first =>
      by_cases o3 : op = 3
      case pos =>
       have o3b : (op == 3) = true := beq_iff_eq.mpr o3
       clear o3
       go_wp2
       go_meet
       case rel => exact ⟨1, ⟨by omega⟩, ⟨blk_put BK.out 3 _ rfl⟩, ⟨Gt.DR.setB n0_.out HN.out.1 HN.out.2 HG.out _⟩⟩
      have o3b : (op == 3) = false := beq_false_of_ne o3
      clear o3
      go_wp2
      go_meet
      case rel => exact ⟨mn, HM, BK, n0_⟩
     case rest =>
      clear HM BK n0_ q0 q3 q4
      obtain ⟨mm, HM, BK, HD4⟩ := hcut
      have q0 : wc.cell? ⟨gn, 0, none⟩ = some (.int .i64 op) := (blk_cell BK.out 0).trans rfl
      have q1 : wc.cell? ⟨gn, 1, none⟩ = some (.string ⟨#[]⟩) := (blk_cell BK.out 1).trans rfl
      have q2 : wc.cell? ⟨gn, 2, none⟩ = some (.string ⟨#[]⟩) := (blk_cell BK.out 2).trans rfl
      have q3 : wc.cell? ⟨gn, 3, none⟩ = some (.int .i64 mm) := (blk_cell BK.out 3).trans rfl
      go_wp2_with (at_builtin; refine Kd.R_append k64 (w0 := w0) w0.heap.size rfl (.tmp 27) (.tmp 29) 25 64 (.agg #[(.int .i64 0), (.string ⟨#[]⟩), (.string ⟨#[]⟩), (.int .i64 0)]) 48 rfl Tryz.underlying25 info64 rfl (by decide) (by omega) (.slice A l.length c) l (⟨op, ⟨#[]⟩, ⟨#[]⟩, mm⟩ : S64) [.int .i64 op, .string ⟨#[]⟩, .string ⟨#[]⟩, .int .i64 mm] (fun _ => True) (fun _ => False) rfl rfl (k64_mkM _ _ _ _) (fun _ h => h.elim) (fun _ _ => trivial) ?aO ?aB ?aS ?aL ?_; (case aO => exact HD4.out.2); (case aB => exact HD4.out.1.2); (case aS => exact below_size HD4.out.1.2); (case aL => have := HLL.out; omega); intro vA wA ho hb hg hat; obtain ⟨A6, c6, e6⟩ := Kd.R_slice ho; subst e6; have HD5 := Aside0.mk (Gt.DR.app HD4.out ho hb hg); have q5 : wA.cell? ⟨gn, 3, none⟩ = some (.int .i64 mm) := (blk_cell (blk_grown BK.out hg HG.out) 3).trans rfl; clear ho hb hg hat q0 q1 q2 q3)
      clear q5 BK HD4 HN HG
      go_loopg [1, 8] 2 (fun kq v1 v8 w' => ∃ (A1 : Option Addr) (c1 : Nat) (l1 : List S64) (m : Int), v1 = .slice A1 l1.length c1 ∧ v8 = .int .i64 m ∧ Aside0 (0 ≤ m ∧ m ≤ kq ∧ m ≤ 2) ∧ Aside0 (Gt.DR w0 w' g l1 A1 c1) ∧ Aside0 (l.length < l1.length ∧ (m = 2 → l1.length ≤ l.length + 1) ∧ (m = 1 → l1.length ≤ l.length + 2 ^ (k + 1)) ∧ (m = 0 → l1.length + 1 ≤ l.length + 2 ^ (k + 1 + 1))))
      case atStart => exact ⟨A6, c6, _, mm, by simp, rfl, ⟨by have := HM.out; omega⟩, HD5, ⟨by have := HM.out; have := HP.out; have : 2 ^ (k + 1 + 1) = 2 ^ (k + 1) * 2 := Nat.pow_succ 2 (k + 1); simp only [List.length_append, List.length_singleton]; omega⟩⟩
      case round =>
       clear HD5 HM
       obtain ⟨A1, c1, l1, m, rfl, rfl, HM, HD1, HL⟩ := hrel
       by_cases m0 : 0 < m
       case neg =>
        have m0b : decide (0 < m) = false := decide_eq_false m0
        obtain rfl : m = 0 := by have := HM.out; omega
        clear m0
        go_wp2
        go_ret
        exact ⟨_, _, _, rfl, HD1.out, HL.out.1, by have := HL.out.2.2.2 trivial; omega⟩
       have m0b : decide (0 < m) = true := decide_eq_true m0
       have HM0 := Aside0.mk m0
       clear m0
       obtain ⟨gk, rfl⟩ : ∃ q, gk = q + 1 := ⟨gk - 1, by have := HM.out; have := HM0.out; omega⟩
       have HPP := Aside0.mk (show 2 ^ (k + 1 + 1) = 2 ^ (k + 1) * 2 from Nat.pow_succ 2 (k + 1))
       have HW := Aside0.mk (show wrap64 (deep - 1) = deep - 1 from by have := HDD.out; have := HB.out.1; have := HB.out.2.1; unfold wrap64; omega)
       have HW2 := Aside0.mk (show wrap64 (m - 1) = m - 1 from by have := HM.out; have := HM0.out; unfold wrap64; omega)
       go_wp2_with (go_at_call 86; refine (ih k (Nat.lt_succ_self k) g _ l1 A1 c1 w0 _ HD1.out (by rw [HW.out]; have := HB.out.1; omega) (by have := HB.out.2.1; omega) (by have := HB.out.2.2; have := HPP.out; have := HL.out; have := HM.out; have := HM0.out; have := HP.out; omega)).mono ?_; rintro e w6 ⟨A7, c7, l7, rfl, hr, h1, h2⟩; have HD7 := Aside0.mk hr; have HL7 := Aside0.mk (And.intro h1 h2); clear hr h1 h2)
       go_roundg gk
       case measure => omega
       case rel => exact ⟨A7, c7, l7, m - 1, rfl, by rw [HW2.out], ⟨by have := HM.out; have := HM0.out; omega⟩, HD7, ⟨by have := HL.out; have := HL7.out; have := HM.out; have := HM0.out; have := HPP.out; have := HP.out; omega⟩⟩
   case rest =>
    clear HD HDB
    obtain ⟨rfl, HD⟩ := hcut
    go_upto_region 12 with (first | (go_at_call 51; refine (Gt.DS.n HD.out.1 5 (by decide)).mono ?_; rintro e w1 ⟨r1, rfl, r10, r11, hs, hk⟩; have HD1 := Aside0.mk (Gt.DR.keep HD.out hs hk); clear hs hk HD; have r1b := Aside0.mk (And.intro r10 r11); clear r10 r11) | (go_at_call 53; refine (Gt.DS.pick HD1.out.1 [⟨#[99, 110]⟩, ⟨#[109, 97, 105, 108]⟩, ⟨#[117, 105, 100]⟩, ⟨#[111, 100, 100]⟩] (by decide) (by decide)).mono ?_; rintro e w2 ⟨v1, rfl, hs, hk⟩; have HD2 := Aside0.mk (Gt.DR.keep HD1.out hs hk); clear hs hk HD1) | (go_at_call 53; refine (Gt.DS.pick HD2.out.1 [⟨#[97, 110, 110]⟩, ⟨#[65]⟩, ⟨#[98]⟩, ⟨#[97, 42, 98]⟩, ⟨#[40, 120, 41]⟩] (by decide) (by decide)).mono ?_; rintro e w3 ⟨v2, rfl, hs, hk⟩; have HD3 := Aside0.mk (Gt.DR.keep HD2.out hs hk); clear hs hk HD2))
    generalize hop : wrap64 (4 + r1) = op
    clear hop r1b
    have BK := Aside0.mk (blk_new w3 (.cells #[.int .i64 op, .string v1, .string v2, .int .i64 0] 64))
    have HG := Aside0.mk (show some w3.heap.size ≠ (.slice A l.length c : Value).ownBlock from fun e => by have := Kd.R_lt HD3.out.2 _ e.symm; omega)
    have HN := Aside0.mk (And.intro (Nat.ne_of_lt (Gt.DS.lt HD3.out.1)) (below_size HD3.out.1.2))
    have n0_ := Aside0.mk (Gt.DR.alloc HD3.out (.cells #[.int .i64 op, .string v1, .string v2, .int .i64 0] 64))
    clear HD3
    obtain ⟨gn, hgn⟩ : ∃ gn, gn = w3.heap.size := ⟨_, rfl⟩
    rw [← hgn] at BK HG HN ⊢
    clear hgn
    generalize w3.alloc (.cells #[.int .i64 op, .string v1, .string v2, .int .i64 0] 64) = w4 at BK n0_ ⊢
    have q0 : w4.cell? ⟨gn, 0, none⟩ = some (.int .i64 op) := (blk_cell BK.out 0).trans rfl
    have q2 : w4.cell? ⟨gn, 2, none⟩ = some (.string v2) := (blk_cell BK.out 2).trans rfl
    have q4 := blk_frozen BK.out 2
    go_upto_if 55 with fail
    go_cut [] (fun wc => ∃ v3 : ByteArray, Aside0 (wc.heap[gn]? = some (.cells #[.int .i64 op, .string v1, .string v3, .int .i64 0] 64 (0, 0))) ∧ Aside0 (Gt.DR w0 wc g l A c))
    case first =>
     by_cases o3 : op = 5
     case pos =>
      have o3b : (op == 5) = true := beq_iff_eq.mpr o3
      clear o3
      go_wp2
      go_meet
      case rel => exact ⟨⟨#[]⟩, ⟨blk_put BK.out 2 _ rfl⟩, ⟨Gt.DR.setB n0_.out HN.out.1 HN.out.2 HG.out _⟩⟩
     have o3b : (op == 5) = false := beq_false_of_ne o3
     clear o3
     go_wp2
     go_meet
     case rel => exact ⟨v2, BK, n0_⟩
    case rest =>
     clear BK n0_ q0 q2 q4
     obtain ⟨v3, BK, HD4⟩ := hcut
     have q0 : wc.cell? ⟨gn, 0, none⟩ = some (.int .i64 op) := (blk_cell BK.out 0).trans rfl
     have q1 : wc.cell? ⟨gn, 1, none⟩ = some (.string v1) := (blk_cell BK.out 1).trans rfl
     have q2 : wc.cell? ⟨gn, 2, none⟩ = some (.string v3) := (blk_cell BK.out 2).trans rfl
     have q3 : wc.cell? ⟨gn, 3, none⟩ = some (.int .i64 0) := (blk_cell BK.out 3).trans rfl
     go_wp2_with (at_builtin; refine Kd.R_append k64 (w0 := w0) w0.heap.size rfl (.tmp 57) (.tmp 59) 25 64 (.agg #[(.int .i64 0), (.string ⟨#[]⟩), (.string ⟨#[]⟩), (.int .i64 0)]) 48 rfl Tryz.underlying25 info64 rfl (by decide) (by omega) (.slice A l.length c) l (⟨op, v1, v3, 0⟩ : S64) [.int .i64 op, .string v1, .string v3, .int .i64 0] (fun _ => True) (fun _ => False) rfl rfl (k64_mkM _ _ _ _) (fun _ h => h.elim) (fun _ _ => trivial) ?aO ?aB ?aS ?aL ?_; (case aO => exact HD4.out.2); (case aB => exact HD4.out.1.2); (case aS => exact below_size HD4.out.1.2); (case aL => have := HLL.out; omega); intro vA wA ho hb hg hat; obtain ⟨A6, c6, e6⟩ := Kd.R_slice ho; subst e6; have HD5 := Aside0.mk (Gt.DR.app HD4.out ho hb hg); clear ho hb hg hat q0 q1 q2 q3)
     go_ret
     exact ⟨A6, c6, _, by simp, HD5.out, by simp, by have := HP.out; simp only [List.length_append, List.length_singleton]; omega⟩
theorem Gt.DR.gn {w0 W W1 : World} {g : Nat} {l : List S64} {A : Option Addr} {c : Nat} (h : Gt.DR w0 W g l A c) (hg : W.grownBy W1 none) (hB : Below w0.heap.size w0 W1) : Gt.DR w0 W1 g l A c := by
 obtain ⟨⟨⟨_, _, _, _, h0, h1⟩, h2⟩, h3⟩ := h
 exact ⟨⟨⟨_, _, _, _, h0, IsS112.grown h1 hg (by simp)⟩, hB⟩, Kd.R_grown h3 hg (fun _ _ => by simp)⟩
theorem Gt.DR.form {w0 W : World} {g : Nat} {l : List S64} {v : Value} (hs : Gt.DS w0 W g) (h : Kd.R k64 64 W w0.heap.size (fun _ => True) v l) : ∃ A c, v = .slice A l.length c ∧ Gt.DR w0 W g l A c := by
 obtain ⟨A, c, rfl⟩ := Kd.R_slice h
 exact ⟨A, c, rfl, hs, h⟩
set_option maxRecDepth 100000 in
set_option maxHeartbeats 16000000 in
theorem Gt.some_ (g : Nat) (w0 w : World) (h : Gt.DS w0 w g) :
  Calls Tryz.prog 48 #[.pointer (some ⟨g, 0, none⟩)] w fun e w' => ∃ A c l, e = .returned (.slice A l.length c) ∧ Gt.DR w0 w' g l A c ∧ 0 < l.length ∧ l.length ≤ 100 := by
 have HD := Aside0.mk (show Gt.DR w0 w g [] none 0 from ⟨h, Kd.R_nil _ _ _ _ _⟩)
 have hu64 := Tryz.underlying64
 have hu25 := Tryz.underlying25
 clear h
 go_enter Tryz.func48, Tryz.ntmps48
 go_upto_region 2 with (go_at_call 86; refine (Gt.filter 4 g 4 [] none 0 w0 _ HD.out (by decide) (by decide) (by decide)).mono ?_; rintro e w1 ⟨A1, c1, l1, rfl, hr, h1, h2⟩; have HD1 := Aside0.mk hr; have HL := Aside0.mk (And.intro h1 h2); clear hr h1 h2 HD)
 have HL2 := Aside0.mk (show 0 < l1.length ∧ l1.length ≤ 50 from by have := HL.out; simp only [List.length_nil] at this; omega)
 clear HL
 have HL := HL2
 clear HL2
 go_upto_if 7 with (go_at_call 87; refine (Gt.DS.one HD1.out.1 15 (by decide)).mono ?_; rintro e w2 ⟨r, rfl, hs, hk⟩; have HD2 := Aside0.mk (Gt.DR.keep HD1.out hs hk); clear hs hk HD1)
 go_cut [3] (fun v3 wc => ∃ A c l, v3 = .slice A l.length c ∧ Aside0 (Gt.DR w0 wc g l A c) ∧ Aside0 (0 < l.length ∧ l.length ≤ 100))
 case first =>
  cases r with
  | false =>
   go_wp2
   go_meet
   case rel => exact ⟨A1, c1, l1, rfl, HD2, ⟨by have := HL.out; omega⟩⟩
  | true =>
   go_upto_block 0 with (go_at_call 51; refine (Gt.DS.n HD2.out.1 4 (by decide)).mono ?_; rintro e w3 ⟨r1, rfl, r10, r11, hs, hk⟩; have HD3 := Aside0.mk (Gt.DR.keep HD2.out hs hk); clear hs hk HD2; have r1b := Aside0.mk (And.intro r10 r11); clear r10 r11)
   clear r1b
   obtain ⟨go, eA, ⟨e1, e3, f1, f3⟩, hs1, hs3⟩ := Gt.DR.elem HD3.out 0 HL.out.1
   subst eA
   rw [Nat.zero_mul, Nat.zero_add] at e1 e3 f1 f3
   generalize (l1.getD 0 z64).f3 = x0 at e3
   have HS1 := Aside0.mk hs1
   have HS3 := Aside0.mk hs3
   clear hs1 hs3
   have i1 : (0 < (l1.length : Int)) = True := eq_true (by have := HL.out; omega)
   have i2 : (0 < l1.length) = True := eq_true HL.out.1
   by_cases r0 : r1 = 0
   case pos =>
    have r0b : (r1 == 0) = true := beq_iff_eq.mpr r0
    clear r0
    go_wp2
    go_meet
    case rel =>
     obtain ⟨l', hl', hd⟩ := HS3.out (wrap64 (x0 + 1))
     exact ⟨_, c1, l', by rw [hl'], ⟨by simpa using hd⟩, ⟨by rw [hl']; have := HL.out; omega⟩⟩
   have r0b : (r1 == 0) = false := beq_false_of_ne r0
   clear r0
   by_cases q1 : r1 = 1
   case pos =>
    have q1b : (r1 == 1) = true := beq_iff_eq.mpr q1
    clear q1 HS1 HS3 e1 e3 f1 f3
    go_wp2_with (at_builtin; refine Kd.R_append k64 (w0 := w0) w0.heap.size rfl (.tmp 25) (.tmp 27) 25 64 (.agg #[(.int .i64 0), (.string ⟨#[]⟩), (.string ⟨#[]⟩), (.int .i64 0)]) 48 rfl Tryz.underlying25 info64 rfl (by decide) (by omega) (.slice (some ⟨go, 0, none⟩) l1.length c1) l1 (⟨5, ⟨#[99, 110]⟩, ⟨#[]⟩, 0⟩ : S64) [.int .i64 5, .string ⟨#[99, 110]⟩, .string ⟨#[]⟩, .int .i64 0] (fun _ => True) (fun _ => False) rfl rfl (k64_mkM _ _ _ _) (fun _ h => h.elim) (fun _ _ => trivial) ?aO ?aB ?aS ?aL ?_; (case aO => exact HD3.out.2); (case aB => exact HD3.out.1.2); (case aS => exact below_size HD3.out.1.2); (case aL => have := HL.out; omega); intro vA wA ho hb hg hat; obtain ⟨A6, c6, e6⟩ := Kd.R_slice ho; subst e6; have HD5 := Aside0.mk (Gt.DR.app HD3.out ho hb hg); clear ho hb hg hat)
    go_meet
    case rel => exact ⟨A6, c6, _, by simp, HD5, ⟨by have := HL.out; simp only [List.length_append, List.length_singleton]; omega⟩⟩
   have q1b : (r1 == 1) = false := beq_false_of_ne q1
   clear q1
   by_cases q2 : r1 = 2
   case pos =>
    have q2b : (r1 == 2) = true := beq_iff_eq.mpr q2
    clear q2 HS1 HS3 e1 e3 f1 f3
    go_wp2_with (first | ((with_reducible refine gate_dst (N := 33) rfl ?_); refine Kd.R_lit k64 (w0 := w0) w0.heap.size 64 ?hg (N := 33) ?hd (xs := ([⟨3, ⟨#[]⟩, ⟨#[]⟩, 1⟩, ⟨3, ⟨#[]⟩, ⟨#[]⟩, 1⟩] : List S64)) (inner := [.int .i64 3, .string ⟨#[]⟩, .string ⟨#[]⟩, .int .i64 1, .int .i64 3, .string ⟨#[]⟩, .string ⟨#[]⟩, .int .i64 1]) (ok := fun _ => True) (okp := fun _ => False) ?hr ?hp (fun _ hk => hk.elim) trivial HD3.out.1.2 (below_size HD3.out.1.2) (by simp) ?_; (case hd => rfl); (case hg => rfl); (case hr => first | (go_simp; done) | (go_simp; rfl)); (case hp => exact (Reps.c4 (k64_mkM _ _ _ (⟨3, ⟨#[]⟩, ⟨#[]⟩, 1⟩ : S64)) (Reps.c4 (k64_mkM _ _ _ (⟨3, ⟨#[]⟩, ⟨#[]⟩, 1⟩ : S64)) (Reps.none _ _)))); intro v5 w5 ho hb hg hnew; have HD4 := Aside0.mk (Gt.DR.gn HD3.out hg hb); obtain ⟨A5, c5, e5, hd5⟩ := Gt.DR.form HD4.out.1 ho; subst e5; have HDL := Aside0.mk hd5; clear ho hb hg hnew hd5 HD3) | (at_builtin; refine Kd.R_append_rows k64 (w0 := w0) w0.heap.size rfl (.tmp 33) (.tmp 34) 25 64 (.agg #[(.int .i64 0), (.string ⟨#[]⟩), (.string ⟨#[]⟩), (.int .i64 0)]) 48 rfl Tryz.underlying25 info64 rfl (by decide) (by omega) _ _ l1 _ _ _ (fun _ => True) (fun _ => False) rfl rfl HDL.out.2 (Kd.R_reads' HD4.out.2).2.2 (fun _ _ h => h) (fun _ h => h.elim) (fun _ _ => trivial) HDL.out.1.2 (below_size HDL.out.1.2) ?aL ?_; (case aL => have := HL.out; simp only [List.length_cons, List.length_nil]; omega); intro vA wA ho hb hg hat; obtain ⟨A6, c6, e6⟩ := Kd.R_slice ho; subst e6; have HD5 := Aside0.mk (Gt.DR.app HDL.out ho hb hg); clear ho hb hg hat))
    go_meet
    case rel => exact ⟨A6, c6, _, by simp, HD5, ⟨by have := HL.out; simp only [List.length_append, List.length_cons, List.length_nil]; omega⟩⟩
   have q2b : (r1 == 2) = false := beq_false_of_ne q2
   clear q2
   go_wp2
   go_meet
   case rel =>
    obtain ⟨l', hl', hd⟩ := HS1.out ⟨#[65]⟩
    exact ⟨_, c1, l', by rw [hl'], ⟨by simpa using hd⟩, ⟨by rw [hl']; have := HL.out; omega⟩⟩
 case rest =>
  obtain ⟨A, c, l, rfl, HD3, HL3⟩ := hcut
  go_wp2
  go_ret
  exact ⟨A, c, l, rfl, HD3.out, HL3.out⟩
theorem Gt.DS.gn {w0 W W1 : World} {g : Nat} (h : Gt.DS w0 W g) (hg : W.grownBy W1 none) (hB : Below w0.heap.size w0 W1) : Gt.DS w0 W1 g := by
 obtain ⟨⟨_, _, _, _, h0, h1⟩, h2⟩ := h
 exact ⟨⟨_, _, _, _, h0, IsS112.grown h1 hg (by simp)⟩, hB⟩
set_option maxRecDepth 100000 in
set_option maxHeartbeats 16000000 in
theorem Gt.spoil (g : Nat) (t : ByteArray) (ht : t.size ≤ 100000) (w0 w : World) (h : Gt.DS w0 w g) :
  Calls Tryz.prog 52 #[.pointer (some ⟨g, 0, none⟩), .string t] w fun e w' => ∃ s : ByteArray, e = .returned (.string s) ∧ Gt.DS w0 w' g := by
 have HD := Aside0.mk h
 have HT := Aside0.mk ht
 have HW := Aside0.mk (show wrap64 ((t.size : Int) + 1) = (t.size : Int) + 1 from by unfold wrap64; omega)
 clear h ht
 go_enter Tryz.func52, Tryz.ntmps52
 go_upto_region 3 with (first | (go_at_call 51; refine (Gt.DS.n HD.out (wrap64 ((t.size : Int) + 1)) (by rw [HW.out]; have := HT.out; omega)).mono ?_; rintro e w1 ⟨r1, rfl, r10, r11, hs, hk⟩; have HD1 := Aside0.mk hs; clear hs hk HD) | (go_at_call 51; refine (Gt.DS.n HD1.out 17 (by decide)).mono ?_; rintro e w2 ⟨r2, rfl, r20, r21, hs, hk⟩; have HD2 := Aside0.mk hs; clear hs hk HD1; have p6 := eq_true r20; have q6 := eq_true (r21 (by decide)); have hx6 := bt_at (⟨#[32, 10, 48, 97, 45, 110, 44, 58, 93, 255, 40, 120, 126, 49, 128, 225, 59]⟩ : ByteArray) r2; clear r20 r21) | ((with_reducible refine gate_dst (N := 15) rfl ?_); refine Kd.R_lit (Kd.int .u8) (w0 := w0) w0.heap.size 5 ?hg (N := 15) ?hd (xs := ([bt (⟨#[32, 10, 48, 97, 45, 110, 44, 58, 93, 255, 40, 120, 126, 49, 128, 225, 59]⟩ : ByteArray) r2] : List Int)) (inner := [.int .u8 (bt (⟨#[32, 10, 48, 97, 45, 110, 44, 58, 93, 255, 40, 120, 126, 49, 128, 225, 59]⟩ : ByteArray) r2)]) (ok := fun _ => True) (okp := fun _ => False) ?hr ?hp (fun _ hk => hk.elim) trivial HD2.out.2 (below_size HD2.out.2) (by simp) ?_; (case hd => rfl); (case hg => rfl); (case hr => first | (go_simp; done) | (go_simp; rfl)); (case hp => exact (Reps.one (show Kd.M (Kd.int .u8) _ _ _ (bt (⟨#[32, 10, 48, 97, 45, 110, 44, 58, 93, 255, 40, 120, 126, 49, 128, 225, 59]⟩ : ByteArray) r2) [.int .u8 (bt (⟨#[32, 10, 48, 97, 45, 110, 44, 58, 93, 255, 40, 120, 126, 49, 128, 225, 59]⟩ : ByteArray) r2)] from rfl) (Reps.none _ _))); intro v5 w5 ho hb hg hnew; have HD3 := Aside0.mk (Gt.DS.gn HD2.out hg hb); have hcv := own_string (P := Tryz.prog) Tryz.underlying35 Tryz.underlying5 Tryz.underlying9 (Kd.own_of_R ho); clear hb hg hnew ho HD2))
 clear hcv p6 q6 hx6
 obtain ⟨cc, hcc⟩ : ∃ cc, cc = strOfNums [bt (⟨#[32, 10, 48, 97, 45, 110, 44, 58, 93, 255, 40, 120, 126, 49, 128, 225, 59]⟩ : ByteArray) r2] := ⟨_, rfl⟩
 have HK := Aside0.mk (show 0 ≤ r1 ∧ r1 ≤ (t.size : Int) from by have := r11 (by rw [HW.out]; omega); rw [HW.out] at this; omega)
 have HZ := Aside0.mk (show cc.size = 1 ∧ t.size ≤ 100000 ∧ (r1.toNat : Int) = r1 ∧ 0 ≤ r1 ∧ r1 ≤ (t.size : Int) from ⟨by rw [hcc, strOfNums_size]; rfl, HT.out, Int.toNat_of_nonneg HK.out.1, HK.out⟩)
 rw [← hcc]
 clear hcc r10 r11
 have k1 := eq_true HK.out.1
 have k2 := eq_true HK.out.2
 have k3 : decide (0 ≤ r1) = true := decide_eq_true HK.out.1
 have k4 : decide (r1 ≤ (t.size : Int)) = true := decide_eq_true HK.out.2
 go_cut [24] (fun v24 wc => ∃ b : Bool, v24 = .bool b ∧ Aside0 (b = false → r1 < (t.size : Int)) ∧ Aside0 (Gt.DS w0 wc g))
 case first =>
  by_cases e1 : r1 = (t.size : Int)
  case pos =>
   have e1b : (r1 == (t.size : Int)) = true := beq_iff_eq.mpr e1
   clear e1
   go_wp2
   go_meet
   case rel => exact ⟨true, rfl, ⟨fun h => by cases h⟩, HD3⟩
  have e1b : (r1 == (t.size : Int)) = false := beq_false_of_ne e1
  have HE := Aside0.mk (show r1 < (t.size : Int) from by have := HK.out; omega)
  clear e1
  go_wp2_with (go_at_call 87; refine (Gt.DS.one HD3.out 3 (by decide)).mono ?_; rintro e w6 ⟨r, rfl, hs, hk⟩; have HD4 := Aside0.mk hs; clear hs hk HD3)
  go_meet
  case rel => exact ⟨r, rfl, ⟨fun _ => HE.out⟩, HD4⟩
 case rest =>
  clear HD3
  obtain ⟨b, rfl, HE, HD3⟩ := hcut
  cases b with
  | true =>
   have s1 : (t.extract 0 (r1 : Int).toNat).size + cc.size ≤ 9223372036854775807 := by simp only [ByteArray.size_extract, ByteArray.size_append]; have := HZ.out; omega
   (try (have s1m := s1; simp only [ByteArray.size_extract, ByteArray.size_append, Nat.min_self] at s1m; replace s1m := eq_true s1m))
   have s1b := eq_true s1
   have s1n : (9223372036854775807 < (t.extract 0 (r1 : Int).toNat).size + cc.size) = False := eq_false (Nat.not_lt.2 s1)
   have s1q : ¬ (9223372036854775807 < (t.extract 0 (r1 : Int).toNat).size + cc.size) := Nat.not_lt.2 s1
   try simp only [ByteArray.size_append] at s1q
   have s2 : ((t.extract 0 (r1 : Int).toNat) ++ cc).size + (t.extract (r1 : Int).toNat t.size).size ≤ 9223372036854775807 := by simp only [ByteArray.size_extract, ByteArray.size_append]; have := HZ.out; omega
   (try (have s2m := s2; simp only [ByteArray.size_extract, ByteArray.size_append, Nat.min_self] at s2m; replace s2m := eq_true s2m))
   have s2b := eq_true s2
   have s2n : (9223372036854775807 < ((t.extract 0 (r1 : Int).toNat) ++ cc).size + (t.extract (r1 : Int).toNat t.size).size) = False := eq_false (Nat.not_lt.2 s2)
   have s2q : ¬ (9223372036854775807 < ((t.extract 0 (r1 : Int).toNat) ++ cc).size + (t.extract (r1 : Int).toNat t.size).size) := Nat.not_lt.2 s2
   try simp only [ByteArray.size_append] at s2q
   go_wp2
   repeat (go_quiet (fail); try go_wp2)
   go_ret
   exact ⟨_, rfl, by first | exact HD3.out | exact Gt.DS.drewN HD3.out _⟩
  | false =>
   have HE2 := Aside0.mk (HE.out rfl)
   have HW2 : wrap64 (r1 + 1) = r1 + 1 := by have := HE2.out; have := HK.out; have := HT.out; unfold wrap64; omega
   have k5 : (0 ≤ r1 + 1) = True := eq_true (by have := HK.out; omega)
   have k6 : (r1 + 1 ≤ (t.size : Int)) = True := eq_true (by have := HE2.out; omega)
   have k7 : (0 ≤ wrap64 (r1 + 1)) = True := by rw [HW2]; exact k5
   have k8 : (wrap64 (r1 + 1) ≤ (t.size : Int)) = True := by rw [HW2]; exact k6
   have HZ2 := Aside0.mk (show ((wrap64 (r1 + 1)).toNat : Int) = r1 + 1 from by rw [HW2]; have := HK.out; omega)
   clear HE HW2
   go_upto_if 35 with (go_at_call 87; refine (Gt.DS.one HD3.out 2 (by decide)).mono ?_; rintro e w7 ⟨r, rfl, hs, hk⟩; have HD5 := Aside0.mk hs; clear hs hk HD3)
   cases r with
   | true =>
    have s1 : (t.extract 0 (r1 : Int).toNat).size + (t.extract (wrap64 (r1 + 1) : Int).toNat t.size).size ≤ 9223372036854775807 := by simp only [ByteArray.size_extract, ByteArray.size_append]; have := HZ.out; omega
    (try (have s1m := s1; simp only [ByteArray.size_extract, ByteArray.size_append, Nat.min_self] at s1m; replace s1m := eq_true s1m))
    have s1b := eq_true s1
    have s1n : (9223372036854775807 < (t.extract 0 (r1 : Int).toNat).size + (t.extract (wrap64 (r1 + 1) : Int).toNat t.size).size) = False := eq_false (Nat.not_lt.2 s1)
    have s1q : ¬ (9223372036854775807 < (t.extract 0 (r1 : Int).toNat).size + (t.extract (wrap64 (r1 + 1) : Int).toNat t.size).size) := Nat.not_lt.2 s1
    try simp only [ByteArray.size_append] at s1q
    go_wp2
    repeat (go_quiet (fail); try go_wp2)
    go_ret
    exact ⟨_, rfl, by first | exact HD5.out | exact Gt.DS.drewN HD5.out _⟩
   | false =>
    have s1 : (t.extract 0 (r1 : Int).toNat).size + cc.size ≤ 9223372036854775807 := by simp only [ByteArray.size_extract, ByteArray.size_append]; have := HZ.out; omega
    (try (have s1m := s1; simp only [ByteArray.size_extract, ByteArray.size_append, Nat.min_self] at s1m; replace s1m := eq_true s1m))
    have s1b := eq_true s1
    have s1n : (9223372036854775807 < (t.extract 0 (r1 : Int).toNat).size + cc.size) = False := eq_false (Nat.not_lt.2 s1)
    have s1q : ¬ (9223372036854775807 < (t.extract 0 (r1 : Int).toNat).size + cc.size) := Nat.not_lt.2 s1
    try simp only [ByteArray.size_append] at s1q
    have s2 : ((t.extract 0 (r1 : Int).toNat) ++ cc).size + (t.extract (wrap64 (r1 + 1) : Int).toNat t.size).size ≤ 9223372036854775807 := by simp only [ByteArray.size_extract, ByteArray.size_append]; have := HZ.out; omega
    (try (have s2m := s2; simp only [ByteArray.size_extract, ByteArray.size_append, Nat.min_self] at s2m; replace s2m := eq_true s2m))
    have s2b := eq_true s2
    have s2n : (9223372036854775807 < ((t.extract 0 (r1 : Int).toNat) ++ cc).size + (t.extract (wrap64 (r1 + 1) : Int).toNat t.size).size) = False := eq_false (Nat.not_lt.2 s2)
    have s2q : ¬ (9223372036854775807 < ((t.extract 0 (r1 : Int).toNat) ++ cc).size + (t.extract (wrap64 (r1 + 1) : Int).toNat t.size).size) := Nat.not_lt.2 s2
    try simp only [ByteArray.size_append] at s2q
    go_wp2
    repeat (go_quiet (fail); try go_wp2)
    go_ret
    exact ⟨_, rfl, by first | exact HD5.out | exact Gt.DS.drewN HD5.out _⟩
set_option maxRecDepth 100000 in
theorem Gt.draw17 (k : Nat) (hk : 65 ≤ k) (A : Option Addr) (c : Nat) (l : List Int) (w : World) (hr : Kd.C (Kd.int .u8) w A l.length l) (hc : l.length ≤ c) (hl : l.length ≤ 140737488351232) (hx : ∀ x ∈ l, 0 ≤ x ∧ x ≤ 255) :
  Calls Tryz.prog 17 #[.slice A l.length c] w fun e w' => ∃ A' c' f, e = .returned (.slice A' f.length c') ∧ Kd.C k64 w' A' f.length f ∧ f.length ≤ c' ∧ f.length ≤ 100 ∧ Below w.heap.size w w' := by
 have HR := Aside0.mk hr
 have HC := Aside0.mk hc
 have HB := Aside0.mk (Below.refl w.heap.size w)
 obtain ⟨m0, z0, es, hs⟩ := Gt.draw_source l hl hx k hk
 have HSRC := Aside0.mk es
 have HOK := Aside0.mk hs
 clear hr hc es hs
 go_enter Tryz.func17, Tryz.ntmps17
 go_wp2_with (first | (go_at_call 47; refine (Qc.calls k A c l l 0 m0 z0 w _ HB.out HR.out HC.out HSRC.out).mono ?_; rintro e w1 ⟨g, rfl, hi, hb, hb2⟩; have HD := Aside0.mk (show Gt.DS w w1 g from ⟨⟨_, _, _, _, HOK.out, hi⟩, hb⟩); clear hi hb hb2) | (go_at_call 48; refine (Gt.some_ g w _ HD.out).mono ?_; rintro e w2 ⟨A2, c2, f, rfl, hd, h1, h2⟩; have HD2 := Aside0.mk hd; have HF := Aside0.mk h2; clear hd h1 h2 HD))
 go_ret
 exact ⟨A2, c2, f, rfl, (Kd.R_reads' HD2.out.2).2.2, (Kd.R_reads' HD2.out.2).2.1, HF.out, HD2.out.1.2⟩
set_option maxRecDepth 100000 in
theorem Gt.draw22 (k : Nat) (hk : 65 ≤ k) (A : Option Addr) (c : Nat) (l : List Int) (w : World) (hr : Kd.C (Kd.int .u8) w A l.length l) (hc : l.length ≤ c) (hl : l.length ≤ 140737488351232) (hx : ∀ x ∈ l, 0 ≤ x ∧ x ≤ 255) :
  Calls Tryz.prog 22 #[.slice A l.length c] w fun e w' => ∃ A' c' f, e = .returned (.slice A' f.length c') ∧ Kd.C k64 w' A' f.length f ∧ f.length ≤ c' ∧ f.length ≤ 100 ∧ Below w.heap.size w w' := by
 have HR := Aside0.mk hr
 have HC := Aside0.mk hc
 have HB := Aside0.mk (Below.refl w.heap.size w)
 obtain ⟨m0, z0, es, hs⟩ := Gt.draw_source l hl hx k hk
 have HSRC := Aside0.mk es
 have HOK := Aside0.mk hs
 clear hr hc es hs
 go_enter Tryz.func22, Tryz.ntmps22
 go_wp2_with (first | (go_at_call 47; refine (Qc.calls k A c l l 0 m0 z0 w _ HB.out HR.out HC.out HSRC.out).mono ?_; rintro e w1 ⟨g, rfl, hi, hb, hb2⟩; have HD := Aside0.mk (show Gt.DS w w1 g from ⟨⟨_, _, _, _, HOK.out, hi⟩, hb⟩); clear hi hb hb2) | (go_at_call 48; refine (Gt.some_ g w _ HD.out).mono ?_; rintro e w2 ⟨A2, c2, f, rfl, hd, h1, h2⟩; have HD2 := Aside0.mk hd; have HF := Aside0.mk h2; clear hd h1 h2 HD))
 go_ret
 exact ⟨A2, c2, f, rfl, (Kd.R_reads' HD2.out.2).2.2, (Kd.R_reads' HD2.out.2).2.1, HF.out, HD2.out.1.2⟩
set_option maxRecDepth 100000 in
set_option maxHeartbeats 8000000 in
theorem Gt.draw21 (k : Nat) (hk : 65 ≤ k) (A : Option Addr) (c : Nat) (l : List Int) (w : World) (hr : Kd.C (Kd.int .u8) w A l.length l) (hc : l.length ≤ c) (hl : l.length ≤ 140737488351232) (hx : ∀ x ∈ l, 0 ≤ x ∧ x ≤ 255) (ht : ∀ f : List S64, f.length ≤ 1000 → ∃ r : ByteArray, Gz.f k f = some r ∧ r.size ≤ 100000) :
  Calls Tryz.prog 21 #[.slice A l.length c] w fun e w' => ∃ u : ByteArray, e = .returned (.string u) ∧ Below w.heap.size w w' := by
 have HR := Aside0.mk hr
 have HC := Aside0.mk hc
 have HB := Aside0.mk (Below.refl w.heap.size w)
 obtain ⟨m0, z0, es, hs⟩ := Gt.draw_source l hl hx k hk
 have HSRC := Aside0.mk es
 have HOK := Aside0.mk hs
 clear hr hc es hs
 go_enter Tryz.func21, Tryz.ntmps21
 go_upto_region 2 with (go_at_call 47; refine (Qc.calls k A c l l 0 m0 z0 w _ HB.out HR.out HC.out HSRC.out).mono ?_; rintro e w1 ⟨g, rfl, hi, hb, hb2⟩; have HD := Aside0.mk (show Gt.DS w w1 g from ⟨⟨_, _, _, _, HOK.out, hi⟩, hb⟩); clear hi hb hb2)
 go_upto_region 3 with (first | (go_at_call 48; refine (Gt.some_ g w _ HD.out).mono ?_; rintro e w2 ⟨A2, c2, f, rfl, hd, h1, h2⟩; have HD2 := Aside0.mk hd; clear hd h1 HD; obtain ⟨t, ft, fs⟩ := ht f (by omega); have HT := Aside0.mk ft; have HZ := Aside0.mk fs; clear ft fs) | (go_at_call 8; refine (Gz.calls k A2 c2 f t _ (Kd.R_reads' HD2.out.2).2.2 (Kd.R_reads' HD2.out.2).2.1 HT.out).mono ?_; rintro e w3 ⟨rfl, hb⟩; have HD3 := Aside0.mk (Gt.DS.below HD2.out.1 hb); clear hb HD2))
 go_upto_block 0 with (go_at_call 51; refine (Gt.DS.n HD3.out 4 (by decide)).mono ?_; rintro e w4 ⟨r1, rfl, r10, r11, hs, hk⟩; have HD4 := Aside0.mk hs; clear hs hk HD3; have r1b := Aside0.mk r10; clear r10 r11)
 clear r1b
 go_cut [4] (fun v4 wc => ∃ u : ByteArray, v4 = .string u ∧ Aside0 (Gt.DS w wc g))
 case first =>
  by_cases r0 : r1 = 0
  case pos =>
   have r0b : (r1 == 0) = true := beq_iff_eq.mpr r0
   clear r0
   go_wp2_with (go_at_call 52; refine (Gt.spoil g t HZ.out w _ HD4.out).mono ?_; rintro e w5 ⟨s, rfl, hd⟩; have HD5 := Aside0.mk hd; clear hd HD4)
   go_meet
   case rel => exact ⟨s, rfl, HD5⟩
  have r0b : (r1 == 0) = false := beq_false_of_ne r0
  clear r0
  by_cases q1 : r1 = 1
  case pos =>
   have q1b : (r1 == 1) = true := beq_iff_eq.mpr q1
   clear q1
   go_wp2_with (go_at_call 53; refine (Gt.DS.pick HD4.out [⟨#[]⟩, ⟨#[40]⟩, ⟨#[40, 41]⟩, ⟨#[40, 38, 41]⟩, ⟨#[40, 97, 61, 98, 41, 40, 99, 61, 100, 41]⟩, ⟨#[40, 97, 61, 92, 50, 98, 41]⟩, ⟨#[40, 97, 61, 92, 50, 97, 42, 41]⟩, ⟨#[40, 33, 40, 97, 61, 98, 41, 40, 99, 61, 100, 41, 41]⟩, ⟨#[40, 97, 61, 42, 98, 41]⟩, ⟨#[40, 97, 126, 61, 98, 41]⟩, ⟨#[40, 97, 61, 41]⟩, ⟨#[40, 97, 62, 61, 42, 41]⟩] (by decide) (by decide)).mono ?_; rintro e w5 ⟨s, rfl, hd, hk⟩; have HD5 := Aside0.mk hd; clear hd hk HD4)
   go_meet
   case rel => exact ⟨s, rfl, HD5⟩
  have q1b : (r1 == 1) = false := beq_false_of_ne q1
  clear q1
  go_wp2
  go_meet
  case rel => exact ⟨t, rfl, HD4⟩
 case rest =>
  obtain ⟨u, rfl, HD5⟩ := hcut
  go_wp2
  go_ret
  exact ⟨u, rfl, HD5.out.2⟩
def Gt.OK (k : Nat) (l0 l1 : List Int) : Prop := (65 ≤ k ∧ (∀ x ∈ l0, 0 ≤ x ∧ x ≤ 255) ∧ (∀ x ∈ l1, 0 ≤ x ∧ x ≤ 255)) ∧
 (∀ f : List S64, f.length ≤ 1000 → ∃ (t : ByteArray) (b : Bool), Gd.f k f = some t ∧ Gz.f k f = some t ∧ t.size ≤ 100000 ∧ Gc.f k f = some b ∧ Gy.f k f = some b ∧ Gu.f k f f = some true ∧ (t.toList ≠ ([] : List UInt8) → ∃ c, Gb.f k t = some (f, c))) ∧
 (∀ u : ByteArray, ∃ (x : List S64) (c : Int), Gb.f k u = some (x, c) ∧ Gx.f k u = some (x, c) ∧ Gu.f k x x = some true ∧ (c = 0 → Gd.f k x = some u)) ∧
 (∀ f : List S64, f.length ≤ 1000 → ∃ l : List ByteArray, Ga.f k f = some l ∧ Gw.f k f = some l ∧ (l.length : Int) ≤ 100000 ∧ Gv.f k l l = some true ∧ ∀ i : Int, 1 ≤ i → i < l.length → Op.bytesLess (rdOf ByteArray.empty l (wrap64 (i - 1))).toList (rdOf ByteArray.empty l i).toList = true)
def Gt.LS (w W : World) (gb : Nat) (Ax : Option Addr) (cx : Nat) (x : List S64) (c : Int) (Ag : Option Addr) (g : List S64) (Al : Option Addr) (l : List ByteArray) : Prop :=
 Below w.heap.size w W ∧ W.heap[gb]? = some (.cells #[.slice Ax x.length cx, .int .i64 c] 30 (0, 0)) ∧ Kd.C k64 W Ax x.length x ∧ Kd.C k64 W Ag g.length g ∧ Kd.C Kd.string W Al l.length l
section
variable {w W W1 : World} {gb : Nat} {Ax : Option Addr} {cx : Nat} {x : List S64} {c : Int} {Ag : Option Addr} {g : List S64} {Al : Option Addr} {l : List ByteArray}
theorem Gt.LS.below (h : Gt.LS w W gb Ax cx x c Ag g Al l) (hb : Below W.heap.size W W1) : Gt.LS w W1 gb Ax cx x c Ag g Al l :=
 ⟨below_step h.1 hb, blk_below h.2.1 hb, Kd.C_below h.2.2.1 hb, Kd.C_below h.2.2.2.1 hb, Kd.C_below h.2.2.2.2 hb⟩
theorem Gt.LS.drew (h : Gt.LS w W gb Ax cx x c Ag g Al l) : Gt.LS w W.drew gb Ax cx x c Ag g Al l := Gt.LS.below h (below_drew (Below.refl _ _))
theorem Gt.LS.c0 (h : Gt.LS w W gb Ax cx x c Ag g Al l) : W.cell? ⟨gb, 0, none⟩ = some (.slice Ax x.length cx) := (blk_cell h.2.1 0).trans rfl
theorem Gt.LS.c1 (h : Gt.LS w W gb Ax cx x c Ag g Al l) : W.cell? ⟨gb, 1, none⟩ = some (.int .i64 c) := (blk_cell h.2.1 1).trans rfl
theorem Gt.LS.rx (h : Gt.LS w W gb Ax cx x c Ag g Al l) : Kd.C k64 W Ax x.length x := h.2.2.1
theorem Gt.LS.rg (h : Gt.LS w W gb Ax cx x c Ag g Al l) : Kd.C k64 W Ag g.length g := h.2.2.2.1
theorem Gt.LS.rl (h : Gt.LS w W gb Ax cx x c Ag g Al l) : Kd.C Kd.string W Al l.length l := h.2.2.2.2
end
set_option maxRecDepth 100000 in
set_option maxHeartbeats 16000000 in
theorem Gt.calls (k : Nat) (A0 : Option Addr) (c0 : Nat) (l0 : List Int) (A1 : Option Addr) (c1 : Nat) (l1 : List Int) (r : Bool) (w : World) (hr0 : Kd.C (Kd.int .u8) w A0 l0.length l0) (hc0 : l0.length ≤ c0) (hr1 : Kd.C (Kd.int .u8) w A1 l1.length l1) (hc1 : l1.length ≤ c1) (h : Gt.OK k l0 l1) (hr_ : r = true := by rfl) :
  Calls Tryz.prog 5 #[.slice A0 l0.length c0, .slice A1 l1.length c1] w fun e w' => e = .returned (.bool r) ∧ Below w.heap.size w w' := by
 subst hr_
 have hu30 := Tryz.underlying30
 have hfl30_0 : ∀ (x0 x1 : Value) (W : World), (Instr.field 30 (.agg #[x0, x1]) 0).run Tryz.prog W = .ok (x0) W := fun _ _ _ => by kernel_rfl
 have hfl30_1 : ∀ (x0 x1 : Value) (W : World), (Instr.field 30 (.agg #[x0, x1]) 1).run Tryz.prog W = .ok (x1) W := fun _ _ _ => by kernel_rfl
 have HR0 := Aside0.mk hr0
 have HC0 := Aside0.mk hc0
 have HR1 := Aside0.mk hr1
 have HC1 := Aside0.mk hc1
 have HB := Aside0.mk (Below.refl w.heap.size w)
 obtain ⟨⟨h65, hx0, hx1⟩, hF, hU, hA⟩ := h
 have HK := Aside0.mk h65
 have HX0 := Aside0.mk hx0
 have HX1 := Aside0.mk hx1
 have HF := Aside0.mk hF
 have HU := Aside0.mk hU
 have HA := Aside0.mk hA
 clear hr0 hc0 hr1 hc1 h65 hx0 hx1 hF hU hA
 by_cases n0 : (l0.length : Int) > 1048576
 case pos =>
  have n0b : decide (1048576 < (l0.length : Int)) = true := decide_eq_true n0
  have n0c : decide (1048576 < l0.length) = true := decide_eq_true (by omega)
  clear n0
  go_enter Tryz.func5, Tryz.ntmps5
  go_wp2
  go_ret
  exact ⟨rfl, HB.out⟩
 have n0b : decide (1048576 < (l0.length : Int)) = false := decide_eq_false n0
 have n0c : decide (1048576 < l0.length) = false := decide_eq_false (by omega)
 have N0 := Aside0.mk n0
 clear n0
 by_cases n1 : (l1.length : Int) > 1048576
 case pos =>
  have n1b : decide (1048576 < (l1.length : Int)) = true := decide_eq_true n1
  have n1c : decide (1048576 < l1.length) = true := decide_eq_true (by omega)
  clear n1
  go_enter Tryz.func5, Tryz.ntmps5
  go_wp2
  go_ret
  exact ⟨rfl, HB.out⟩
 have n1b : decide (1048576 < (l1.length : Int)) = false := decide_eq_false n1
 have n1c : decide (1048576 < l1.length) = false := decide_eq_false (by omega)
 have N1 := Aside0.mk n1
 clear n1
 go_enter Tryz.func5, Tryz.ntmps5
 go_upto_region 4 with (go_at_call 17; refine (Gt.draw17 k HK.out A0 c0 l0 w HR0.out HC0.out (by have := N0.out; omega) HX0.out).mono ?_; rintro e w1 ⟨Af, cf, f, rfl, h1, h2, h3, hb⟩; have HFC := Aside0.mk h1; have HFN := Aside0.mk h2; have HFL := Aside0.mk h3; have HB1 := Aside0.mk hb; clear h1 h2 h3 hb HB)
 obtain ⟨t, b, ft1, ft2, fts, fb1, fb2, fl, fr⟩ := HF.out f (by have := HFL.out; omega)
 have T1 := Aside0.mk ft1
 have T2 := Aside0.mk ft2
 have T3 := Aside0.mk fb1
 have T4 := Aside0.mk fb2
 have T5 := Aside0.mk fl
 have T6 := Aside0.mk fr
 clear ft1 ft2 fts fb1 fb2 fl fr n0b n0c n1b n1c HR0 HC0 HX0 N0
 have HT0 := Aside0.mk (fun f h => (HF.out f h))
 go_upto_region 5 with (go_at_call 10; refine (Gd.calls k Af cf f t _ HFC.out HFN.out T1.out).mono ?_; rintro e w2 ⟨rfl, hb⟩; have HB2 := Aside0.mk (below_step HB1.out hb); have HFC2 := Aside0.mk (Kd.C_below HFC.out hb); clear hb HB1 HFC T1)
 go_cut [46] (fun v46 wc => v46 = .bool false ∧ Aside0 (Below w.heap.size w wc))
 case first =>
  have bt1 : (t.toList != t.toList) = false := bne_self_eq_false _
  have bt2 : (b != b) = false := bne_self_eq_false _
  by_cases t0 : t.toList = ([] : List UInt8)
  case pos =>
   have t0b : t.toList.isEmpty = true := by rw [t0]; rfl
   clear t0
   go_wp2_with (first | (go_at_call 8; refine (Gz.calls k Af cf f t _ HFC2.out HFN.out T2.out).mono ?_; rintro e w3 ⟨rfl, hb⟩; have HB3 := Aside0.mk (below_step HB2.out hb); have HFC3 := Aside0.mk (Kd.C_below HFC2.out hb); clear hb HB2 HFC2 T2) | (go_at_call 18; refine (Gc.calls k Af cf f b _ HFC3.out HFN.out T3.out).mono ?_; rintro e w4 ⟨rfl, hb⟩; have HB4 := Aside0.mk (below_step HB3.out (by first | exact hb | exact hb.below)); have HFC4 := Aside0.mk (Kd.C_below HFC3.out (by first | exact hb | exact hb.below)); clear hb HB3 HFC3 T3) | (go_at_call 19; refine (Gy.calls k Af cf f b _ HFC4.out HFN.out T4.out).mono ?_; rintro e w5 ⟨rfl, hb⟩; have HB5 := Aside0.mk (below_step HB4.out (by first | exact hb | exact hb.below)); have HFC5 := Aside0.mk (Kd.C_below HFC4.out (by first | exact hb | exact hb.below)); clear hb HB4 HFC4 T4))
   go_meet
   case rel => exact ⟨rfl, HB5⟩
  have t0b : t.toList.isEmpty = false := by cases e : t.toList with | nil => exact absurd e t0 | cons _ _ => rfl
  obtain ⟨cq, hq⟩ := T6.out t0
  have T7 := Aside0.mk hq
  clear t0 hq
  go_wp2_with (first | (go_at_call 8; refine (Gz.calls k Af cf f t _ HFC2.out HFN.out T2.out).mono ?_; rintro e w3 ⟨rfl, hb⟩; have HB3 := Aside0.mk (below_step HB2.out hb); have HFC3 := Aside0.mk (Kd.C_below HFC2.out hb); clear hb HB2 HFC2 T2) | (go_at_call 18; refine (Gc.calls k Af cf f b _ HFC3.out HFN.out T3.out).mono ?_; rintro e w4 ⟨rfl, hb⟩; have HB4 := Aside0.mk (below_step HB3.out (by first | exact hb | exact hb.below)); have HFC4 := Aside0.mk (Kd.C_below HFC3.out (by first | exact hb | exact hb.below)); clear hb HB3 HFC3 T3) | (go_at_call 19; refine (Gy.calls k Af cf f b _ HFC4.out HFN.out T4.out).mono ?_; rintro e w5 ⟨rfl, hb⟩; have HB5 := Aside0.mk (below_step HB4.out (by first | exact hb | exact hb.below)); have HFC5 := Aside0.mk (Kd.C_below HFC4.out (by first | exact hb | exact hb.below)); clear hb HB4 HFC4 T4) | (go_at_call 13; refine (Gb.calls k t f cq _ T7.out).mono ?_; rintro e w6 ⟨v6, rfl, ho, hb⟩; obtain ⟨Aq, cqq, eq⟩ := Kd.R_slice ho; subst eq; have HQ := Aside0.mk (Kd.R_reads' ho).2; have HB6 := Aside0.mk (below_step HB5.out hb); have HFC6 := Aside0.mk (Kd.C_below HFC5.out hb); clear ho hb HB5 HFC5 T7) | (go_at_call 20; refine (Gu.calls k Aq cqq f Af cf f true _ HQ.out.2 HQ.out.1 HFC6.out HFN.out T5.out).mono ?_; rintro e w7 ⟨rfl, hd⟩; have HB7 := Aside0.mk (below_step HB6.out hd.below); clear hd HB6 HFC6 HQ))
  go_meet
  case rel => exact ⟨rfl, HB7⟩
 case rest =>
  clear HB2 HFC2 HFN HFL T2 T3 T4 T5 T6
  obtain ⟨rfl, HB3⟩ := hcut
  go_upto_region 8 with (go_at_call 21; refine (Gt.draw21 k HK.out A1 c1 l1 _ (Kd.C_below HR1.out HB3.out) HC1.out (by have := N1.out; omega) HX1.out (fun f hf => by obtain ⟨t, b, h1, h2, h3, _⟩ := HF.out f hf; exact ⟨t, h2, h3⟩)).mono ?_; rintro e w4 ⟨u, rfl, hb⟩; have HB4 := Aside0.mk (below_step HB3.out hb); clear hb HB3)
  obtain ⟨x, c, u1, u2, u3, u4⟩ := HU.out u
  have U1 := Aside0.mk u1
  have U2 := Aside0.mk u2
  have U3 := Aside0.mk u3
  have U4 := Aside0.mk u4
  clear u1 u2 u3 u4
  go_upto_region 9 with (go_at_call 13; refine (Gb.calls k u x c _ U1.out).mono ?_; rintro e w5 ⟨v5, rfl, ho, hb⟩; obtain ⟨Ax, cx, ex⟩ := Kd.R_slice ho; subst ex; have HX := Aside0.mk (Kd.R_reads' ho).2; have HB5 := Aside0.mk (below_step HB4.out hb); clear ho hb HB4 U1)
  have BK := Aside0.mk (blk_new w5 (.cells #[.slice Ax x.length cx, .int .i64 c] 30))
  have HX2 := Aside0.mk (Kd.C_alloc HX.out.2 (.cells #[.slice Ax x.length cx, .int .i64 c] 30))
  have HXC := Aside0.mk HX.out.1
  have HB6 := Aside0.mk (below_alloc HB5.out (.cells #[.slice Ax x.length cx, .int .i64 c] 30))
  clear HX HB5
  obtain ⟨gb, hgb⟩ : ∃ gb, gb = w5.heap.size := ⟨_, rfl⟩
  rw [← hgb] at BK ⊢
  clear hgb
  generalize w5.alloc (.cells #[.slice Ax x.length cx, .int .i64 c] 30) = w6 at BK HX2 HB6 ⊢
  go_upto_region 10 with (go_at_call 22; refine (Gt.draw22 k HK.out A1 c1 l1 _ (Kd.C_below HR1.out HB6.out) HC1.out (by have := N1.out; omega) HX1.out).mono ?_; rintro e w7 ⟨Ag, cg, g, rfl, h1, h2, h3, hb⟩; have HGC := Aside0.mk h1; have HGN := Aside0.mk h2; have HGL := Aside0.mk h3; have BK7 := Aside0.mk (blk_below BK.out hb); have HX7 := Aside0.mk (Kd.C_below HX2.out hb); have HB7 := Aside0.mk (below_step HB6.out hb); clear h1 h2 h3 hb BK HX2 HB6)
  obtain ⟨l, a1, a2, a3, a4, a5⟩ := HA.out g (by have := HGL.out; omega)
  have V1 := Aside0.mk a1
  have V2 := Aside0.mk a2
  have V3 := Aside0.mk a3
  have V4 := Aside0.mk a4
  have V5 := Aside0.mk a5
  clear a1 a2 a3 a4 a5 HK HX1 HF HU HA HR1 HC1 N1 HT0
  go_wp2_with (go_at_call 23; refine (Ga.calls k Ag cg g l _ HGC.out HGN.out V1.out).mono ?_; rintro e w8 ⟨v8, rfl, ho, hb⟩; obtain ⟨Al, cl, el⟩ := Kd.R_slice ho; subst el; have HLC := Aside0.mk (Kd.R_reads' ho).2.1; have HS := Aside0.mk (show Gt.LS w w8 gb Ax cx x c Ag g Al l from ⟨below_step HB7.out hb, blk_below BK7.out hb, Kd.C_below HX7.out hb, Kd.C_below HGC.out hb, (Kd.R_reads' ho).2.2⟩); clear ho hb HB7 BK7 HX7 HGC V1)
  go_loopg [11] l.length (fun kq v11 w' => ∃ i : Int, v11 = .int .i64 i ∧ Aside0 (1 ≤ i ∧ i ≤ 100001 ∧ (l.length : Int) ≤ i + kq) ∧ Aside0 (Gt.LS w w' gb Ax cx x c Ag g Al l))
  case atStart => exact ⟨1, rfl, ⟨by omega⟩, HS⟩
  case round =>
   clear HS
   obtain ⟨i, rfl, HI, HS⟩ := hrel
   by_cases il : i < (l.length : Int)
   case neg =>
    have ilb : decide (i < (l.length : Int)) = false := decide_eq_false il
    clear il
    go_upto_region 16 with fail
    have z1 : (c == c) = true := beq_self_eq_true _
    have z2 : (u.toList == u.toList) = true := beq_self_eq_true _
    have HSd := Aside0.mk (Gt.LS.drew HS.out)
    by_cases e0 : c = 0
    case pos =>
     have e0b : (c != 0) = false := by rw [e0]; rfl
     have U5 := Aside0.mk (U4.out e0)
     clear e0
     refine start_ (n := 33) (S := fun w' => w'.cell? ⟨gb, 0, none⟩ = some (.slice Ax x.length cx) ∧ w'.cell? ⟨gb, 1, none⟩ = some (.int .i64 c)) (ds := []) (bz 33 0) (by kernel_rfl) rfl (by kernel_rfl) ⟨Gt.LS.c0 HSd.out, Gt.LS.c1 HSd.out⟩ (fun hHeld => ?_)
     generalize wr.drew = w9 at HSd hHeld ⊢
     refine PYz 0 71 (bz 33 1) rfl rfl (by kernel_rfl) ?_
     refine PYz 2 73 (bz 33 5) rfl rfl (by kernel_rfl) ?_
     refine PTz 1 72 (bz 33 7) rfl rfl (by kernel_rfl) hHeld ?_
     refine one_ (i := 3) (N := some 74) (bz 33 15) rfl rfl (by kernel_rfl) (by decide) (fun K hK => ?_)
     refine goes_ Tryz.func12 (by kernel_rfl) rfl #[.string u] (by rfl) rfl rfl (by simp only [List.map_toArray, List.map_cons, List.map_nil]; rfl) ?_
     with_reducible refine (Gx.calls k u x c _ U2.out).mono ?_
     rintro e wa ⟨v2, rfl, ho, hb⟩
     refine ⟨_, rfl, ?_⟩
     obtain ⟨A2, c2, e2⟩ := Kd.R_slice ho
     subst e2
     have HS2 := Aside0.mk (Gt.LS.below HSd.out hb)
     clear ho hb HSd
     refine hK.out _ _ ⟨Gt.LS.c0 HS2.out, Gt.LS.c1 HS2.out⟩ (fun hHeld => ?_)
     clear hK K
     refine norm_ (a' := ?_) ?_ ?_
     rotate_left
     ·show Act.put _ (some 74) _ = _
      simp only [PUz]
      rfl
     refine PYz 4 75 (bz 33 31) rfl rfl (by kernel_rfl) ?_
     refine PYz 5 76 (bz 33 63) rfl rfl (by kernel_rfl) ?_
     refine PYz 6 77 (bz 33 127) rfl rfl (by kernel_rfl) ?_
     refine PYz 7 78 (bz 33 255) rfl rfl (by kernel_rfl) ?_
     refine PYz 9 80 (bz 33 767) rfl rfl (by kernel_rfl) ?_
     refine PTz 8 79 (bz 33 1023) rfl rfl (by kernel_rfl) hHeld ?_
     refine one_ (i := 10) (N := some 81) (bz 33 2047) rfl rfl (by kernel_rfl) (by decide) (fun K hK => ?_)
     refine goes_ Tryz.func12 (by kernel_rfl) rfl #[.string u] (by rfl) rfl rfl (by simp only [List.map_toArray, List.map_cons, List.map_nil]; rfl) ?_
     with_reducible refine (Gx.calls k u x c _ U2.out).mono ?_
     rintro e wb ⟨v3, rfl, ho, hb⟩
     refine ⟨_, rfl, ?_⟩
     obtain ⟨A3, c3, e3⟩ := Kd.R_slice ho
     subst e3
     have HS3 := Aside0.mk (Gt.LS.below HS2.out hb)
     have HQ := Aside0.mk (Kd.R_reads' ho).2
     clear ho hb HS2
     refine hK.out _ _ ⟨Gt.LS.c0 HS3.out, Gt.LS.c1 HS3.out⟩ (fun hHeld => ?_)
     clear hK K
     refine norm_ (a' := ?_) ?_ ?_
     rotate_left
     ·show Act.put _ (some 81) _ = _
      simp only [PUz]
      rfl
     refine PYz 11 82 (bz 33 4095) rfl rfl (by kernel_rfl) ?_
     refine one_ (i := 12) (N := some 83) (bz 33 8191) rfl rfl (by kernel_rfl) (by decide) (fun K hK => ?_)
     refine goes_ Tryz.func20 (by kernel_rfl) rfl #[.slice Ax x.length cx, .slice A3 x.length c3] (by rfl) rfl rfl (by simp only [List.map_toArray, List.map_cons, List.map_nil]; rfl) ?_
     with_reducible refine (Gu.calls k Ax cx x A3 c3 x true _ (Gt.LS.rx HS3.out) HXC.out (And.right HQ.out) (And.left HQ.out) U3.out).mono ?_
     rintro e wd ⟨rfl, hd⟩
     refine ⟨_, rfl, ?_⟩
     have HS4 := Aside0.mk (Gt.LS.below HS3.out hd.below)
     clear hd HS3 HQ
     refine hK.out _ _ ⟨Gt.LS.c0 HS4.out, Gt.LS.c1 HS4.out⟩ (fun hHeld => ?_)
     clear hK K
     refine norm_ (a' := ?_) ?_ ?_
     rotate_left
     ·show Act.put _ (some 83) _ = _
      simp only [PUz]
      rfl
     refine PYz 13 84 (bz 33 16383) rfl rfl (by kernel_rfl) ?_
     refine PYz 14 85 (bz 33 32767) rfl rfl (by kernel_rfl) ?_
     refine PYz 15 86 (bz 33 65535) rfl rfl (by kernel_rfl) ?_
     refine PTz 16 87 (bz 33 131071) rfl rfl (by kernel_rfl) hHeld ?_
     refine PYz 17 88 (bz 33 262143) rfl rfl (by kernel_rfl) ?_
     refine PYz 18 89 (bz 33 524287) rfl rfl (by kernel_rfl) ?_
     refine PYz 19 90 (bz 33 1048575) rfl rfl (by kernel_rfl) ?_
     refine PYz 22 93 (bz 33 5242879) rfl rfl (by kernel_rfl) ?_
     refine PTz 20 91 (bz 33 6291455) rfl rfl (by kernel_rfl) hHeld ?_
     refine one_ (i := 21) (N := some 92) (bz 33 8388607) rfl rfl (by kernel_rfl) (by decide) (fun K hK => ?_)
     refine goes_ Tryz.func10 (by kernel_rfl) rfl #[.slice Ax x.length cx] (by rfl) rfl rfl (by simp only [List.map_toArray, List.map_cons, List.map_nil]; rfl) ?_
     with_reducible refine (Gd.calls k Ax cx x u _ (Gt.LS.rx HS4.out) HXC.out U5.out).mono ?_
     rintro e we ⟨rfl, hb⟩
     refine ⟨_, rfl, ?_⟩
     have HS5 := Aside0.mk (Gt.LS.below HS4.out hb)
     clear hb HS4
     refine hK.out _ _ ⟨Gt.LS.c0 HS5.out, Gt.LS.c1 HS5.out⟩ (fun hHeld => ?_)
     clear hK K
     refine norm_ (a' := ?_) ?_ ?_
     rotate_left
     ·show Act.put _ (some 92) _ = _
      simp only [PUz]
      rfl
     refine PYz 23 94 (bz 33 16777215) rfl rfl (by kernel_rfl) ?_
     refine PYz 24 95 (bz 33 33554431) rfl rfl (by kernel_rfl) ?_
     refine PYz 25 96 (bz 33 67108863) rfl rfl (by kernel_rfl) ?_
     refine PYz 26 97 (bz 33 134217727) rfl rfl (by kernel_rfl) ?_
     refine PYz 27 98 (bz 33 268435455) rfl rfl (by kernel_rfl) ?_
     refine PYz 28 99 (bz 33 536870911) rfl rfl (by kernel_rfl) ?_
     refine one_ (i := 29) (N := some 100) (bz 33 1073741823) rfl rfl (by kernel_rfl) (by decide) (fun K hK => ?_)
     refine goes_ Tryz.func25 (by kernel_rfl) rfl #[.slice Ag g.length cg] (by rfl) rfl rfl (by simp only [List.map_toArray, List.map_cons, List.map_nil]; rfl) ?_
     with_reducible refine (Gw.calls k Ag cg g l _ (Gt.LS.rg HS5.out) HGN.out V2.out).mono ?_
     rintro e wf ⟨v6, rfl, ho, hb⟩
     refine ⟨_, rfl, ?_⟩
     obtain ⟨A6, c6, e6⟩ := Kd.R_slice ho
     subst e6
     have HS8 := Aside0.mk (Gt.LS.below HS5.out hb)
     have HQ := Aside0.mk (Kd.R_reads' ho).2
     clear ho hb HS5
     refine hK.out _ _ ⟨Gt.LS.c0 HS8.out, Gt.LS.c1 HS8.out⟩ (fun hHeld => ?_)
     clear hK K
     refine norm_ (a' := ?_) ?_ ?_
     rotate_left
     ·show Act.put _ (some 100) _ = _
      simp only [PUz]
      rfl
     refine one_ (i := 30) (N := some 101) (bz 33 2147483647) rfl rfl (by kernel_rfl) (by decide) (fun K hK => ?_)
     refine goes_ Tryz.func24 (by kernel_rfl) rfl #[.slice Al l.length cl, .slice A6 l.length c6] (by rfl) rfl rfl (by simp only [List.map_toArray, List.map_cons, List.map_nil]; rfl) ?_
     with_reducible refine (Gv.calls k Al cl l A6 c6 l true _ (Gt.LS.rl HS8.out) HLC.out (And.right HQ.out) (And.left HQ.out) V4.out).mono ?_
     rintro e wg ⟨rfl, hd⟩
     refine ⟨_, rfl, ?_⟩
     have HS9 := Aside0.mk (Gt.LS.below HS8.out hd.below)
     clear hd HS8 HQ
     refine hK.out _ _ ⟨Gt.LS.c0 HS9.out, Gt.LS.c1 HS9.out⟩ (fun hHeld => ?_)
     clear hK K
     refine norm_ (a' := ?_) ?_ ?_
     rotate_left
     ·show Act.put _ (some 101) _ = _
      simp only [PUz]
      rfl
     refine PYz 31 102 (bz 33 4294967295) rfl rfl (by kernel_rfl) ?_
     refine PYz 32 4 (bz 33 8589934591) rfl rfl (by kernel_rfl) ?_
     refine done_ (by kernel_rfl) ?_
     
     try go_wp2
     go_ret
     exact ⟨rfl, HS9.out.1⟩
    have e0b : (c != 0) = true := bne_iff_ne.mpr e0
    clear e0
    refine start_ (n := 33) (S := fun w' => w'.cell? ⟨gb, 0, none⟩ = some (.slice Ax x.length cx) ∧ w'.cell? ⟨gb, 1, none⟩ = some (.int .i64 c)) (ds := []) (bz 33 0) (by kernel_rfl) rfl (by kernel_rfl) ⟨Gt.LS.c0 HSd.out, Gt.LS.c1 HSd.out⟩ (fun hHeld => ?_)
    generalize wr.drew = w9 at HSd hHeld ⊢
    refine PYz 0 71 (bz 33 1) rfl rfl (by kernel_rfl) ?_
    refine PYz 2 73 (bz 33 5) rfl rfl (by kernel_rfl) ?_
    refine PTz 1 72 (bz 33 7) rfl rfl (by kernel_rfl) hHeld ?_
    refine one_ (i := 3) (N := some 74) (bz 33 15) rfl rfl (by kernel_rfl) (by decide) (fun K hK => ?_)
    refine goes_ Tryz.func12 (by kernel_rfl) rfl #[.string u] (by rfl) rfl rfl (by simp only [List.map_toArray, List.map_cons, List.map_nil]; rfl) ?_
    with_reducible refine (Gx.calls k u x c _ U2.out).mono ?_
    rintro e wa ⟨v2, rfl, ho, hb⟩
    refine ⟨_, rfl, ?_⟩
    obtain ⟨A2, c2, e2⟩ := Kd.R_slice ho
    subst e2
    have HS2 := Aside0.mk (Gt.LS.below HSd.out hb)
    clear ho hb HSd
    refine hK.out _ _ ⟨Gt.LS.c0 HS2.out, Gt.LS.c1 HS2.out⟩ (fun hHeld => ?_)
    clear hK K
    refine norm_ (a' := ?_) ?_ ?_
    rotate_left
    ·show Act.put _ (some 74) _ = _
     simp only [PUz]
     rfl
    refine PYz 4 75 (bz 33 31) rfl rfl (by kernel_rfl) ?_
    refine PYz 5 76 (bz 33 63) rfl rfl (by kernel_rfl) ?_
    refine PYz 6 77 (bz 33 127) rfl rfl (by kernel_rfl) ?_
    refine PYz 7 78 (bz 33 255) rfl rfl (by kernel_rfl) ?_
    refine PYz 9 80 (bz 33 767) rfl rfl (by kernel_rfl) ?_
    refine PTz 8 79 (bz 33 1023) rfl rfl (by kernel_rfl) hHeld ?_
    refine one_ (i := 10) (N := some 81) (bz 33 2047) rfl rfl (by kernel_rfl) (by decide) (fun K hK => ?_)
    refine goes_ Tryz.func12 (by kernel_rfl) rfl #[.string u] (by rfl) rfl rfl (by simp only [List.map_toArray, List.map_cons, List.map_nil]; rfl) ?_
    with_reducible refine (Gx.calls k u x c _ U2.out).mono ?_
    rintro e wb ⟨v3, rfl, ho, hb⟩
    refine ⟨_, rfl, ?_⟩
    obtain ⟨A3, c3, e3⟩ := Kd.R_slice ho
    subst e3
    have HS3 := Aside0.mk (Gt.LS.below HS2.out hb)
    have HQ := Aside0.mk (Kd.R_reads' ho).2
    clear ho hb HS2
    refine hK.out _ _ ⟨Gt.LS.c0 HS3.out, Gt.LS.c1 HS3.out⟩ (fun hHeld => ?_)
    clear hK K
    refine norm_ (a' := ?_) ?_ ?_
    rotate_left
    ·show Act.put _ (some 81) _ = _
     simp only [PUz]
     rfl
    refine PYz 11 82 (bz 33 4095) rfl rfl (by kernel_rfl) ?_
    refine one_ (i := 12) (N := some 83) (bz 33 8191) rfl rfl (by kernel_rfl) (by decide) (fun K hK => ?_)
    refine goes_ Tryz.func20 (by kernel_rfl) rfl #[.slice Ax x.length cx, .slice A3 x.length c3] (by rfl) rfl rfl (by simp only [List.map_toArray, List.map_cons, List.map_nil]; rfl) ?_
    with_reducible refine (Gu.calls k Ax cx x A3 c3 x true _ (Gt.LS.rx HS3.out) HXC.out (And.right HQ.out) (And.left HQ.out) U3.out).mono ?_
    rintro e wd ⟨rfl, hd⟩
    refine ⟨_, rfl, ?_⟩
    have HS4 := Aside0.mk (Gt.LS.below HS3.out hd.below)
    clear hd HS3 HQ
    refine hK.out _ _ ⟨Gt.LS.c0 HS4.out, Gt.LS.c1 HS4.out⟩ (fun hHeld => ?_)
    clear hK K
    refine norm_ (a' := ?_) ?_ ?_
    rotate_left
    ·show Act.put _ (some 83) _ = _
     simp only [PUz]
     rfl
    refine PYz 13 84 (bz 33 16383) rfl rfl (by kernel_rfl) ?_
    refine PYz 14 85 (bz 33 32767) rfl rfl (by kernel_rfl) ?_
    refine PYz 15 86 (bz 33 65535) rfl rfl (by kernel_rfl) ?_
    refine PTz 16 87 (bz 33 131071) rfl rfl (by kernel_rfl) hHeld ?_
    refine PYz 17 88 (bz 33 262143) rfl rfl (by kernel_rfl) ?_
    refine PYz 18 89 (bz 33 524287) rfl rfl (by kernel_rfl) ?_
    refine pure_ (i := 19) (N := some 90) (v := undef) (a' := ?_) (bz 33 1048575) rfl rfl (by kernel_rfl) (fun _ _ _ h => h) (Or.inr ⟨by rfl, rfl⟩) ?_ ?_
    rotate_left
    ·simp only [PUz]
     rfl
    refine pure_ (i := 20) (N := some 91) (v := undef) (a' := ?_) (bz 33 2097151) rfl rfl (by kernel_rfl) (fun _ _ _ h => h) (Or.inr ⟨by rfl, rfl⟩) ?_ ?_
    rotate_left
    ·simp only [PUz]
     rfl
    refine pure_ (i := 21) (N := some 92) (v := undef) (a' := ?_) (bz 33 4194303) rfl rfl (by kernel_rfl) (fun _ _ _ h => h) (Or.inr ⟨by rfl, rfl⟩) ?_ ?_
    rotate_left
    ·simp only [PUz]
     rfl
    refine pure_ (i := 22) (N := some 93) (v := undef) (a' := ?_) (bz 33 8388607) rfl rfl (by kernel_rfl) (fun _ _ _ h => h) (Or.inr ⟨by rfl, rfl⟩) ?_ ?_
    rotate_left
    ·simp only [PUz]
     rfl
    refine pure_ (i := 23) (N := some 94) (v := undef) (a' := ?_) (bz 33 16777215) rfl rfl (by kernel_rfl) (fun _ _ _ h => h) (Or.inr ⟨by rfl, rfl⟩) ?_ ?_
    rotate_left
    ·simp only [PUz]
     rfl
    refine PYz 24 95 (bz 33 33554431) rfl rfl (by kernel_rfl) ?_
    refine PYz 25 96 (bz 33 67108863) rfl rfl (by kernel_rfl) ?_
    refine PYz 26 97 (bz 33 134217727) rfl rfl (by kernel_rfl) ?_
    refine PYz 27 98 (bz 33 268435455) rfl rfl (by kernel_rfl) ?_
    refine PYz 28 99 (bz 33 536870911) rfl rfl (by kernel_rfl) ?_
    refine one_ (i := 29) (N := some 100) (bz 33 1073741823) rfl rfl (by kernel_rfl) (by decide) (fun K hK => ?_)
    refine goes_ Tryz.func25 (by kernel_rfl) rfl #[.slice Ag g.length cg] (by rfl) rfl rfl (by simp only [List.map_toArray, List.map_cons, List.map_nil]; rfl) ?_
    with_reducible refine (Gw.calls k Ag cg g l _ (Gt.LS.rg HS4.out) HGN.out V2.out).mono ?_
    rintro e wf ⟨v6, rfl, ho, hb⟩
    refine ⟨_, rfl, ?_⟩
    obtain ⟨A6, c6, e6⟩ := Kd.R_slice ho
    subst e6
    have HS8 := Aside0.mk (Gt.LS.below HS4.out hb)
    have HQ := Aside0.mk (Kd.R_reads' ho).2
    clear ho hb HS4
    refine hK.out _ _ ⟨Gt.LS.c0 HS8.out, Gt.LS.c1 HS8.out⟩ (fun hHeld => ?_)
    clear hK K
    refine norm_ (a' := ?_) ?_ ?_
    rotate_left
    ·show Act.put _ (some 100) _ = _
     simp only [PUz]
     rfl
    refine one_ (i := 30) (N := some 101) (bz 33 2147483647) rfl rfl (by kernel_rfl) (by decide) (fun K hK => ?_)
    refine goes_ Tryz.func24 (by kernel_rfl) rfl #[.slice Al l.length cl, .slice A6 l.length c6] (by rfl) rfl rfl (by simp only [List.map_toArray, List.map_cons, List.map_nil]; rfl) ?_
    with_reducible refine (Gv.calls k Al cl l A6 c6 l true _ (Gt.LS.rl HS8.out) HLC.out (And.right HQ.out) (And.left HQ.out) V4.out).mono ?_
    rintro e wg ⟨rfl, hd⟩
    refine ⟨_, rfl, ?_⟩
    have HS9 := Aside0.mk (Gt.LS.below HS8.out hd.below)
    clear hd HS8 HQ
    refine hK.out _ _ ⟨Gt.LS.c0 HS9.out, Gt.LS.c1 HS9.out⟩ (fun hHeld => ?_)
    clear hK K
    refine norm_ (a' := ?_) ?_ ?_
    rotate_left
    ·show Act.put _ (some 101) _ = _
     simp only [PUz]
     rfl
    refine PYz 31 102 (bz 33 4294967295) rfl rfl (by kernel_rfl) ?_
    refine PYz 32 4 (bz 33 8589934591) rfl rfl (by kernel_rfl) ?_
    refine done_ (by kernel_rfl) ?_
    
    try go_wp2
    go_ret
    exact ⟨rfl, HS9.out.1⟩
   have ilb : decide (i < (l.length : Int)) = true := decide_eq_true il
   have HIL := Aside0.mk il
   obtain ⟨gk, rfl⟩ : ∃ q, gk = q + 1 := ⟨gk - 1, by have := HI.out; omega⟩
   have HW := Aside0.mk (show wrap64 (i - 1) = i - 1 from by have := HI.out; unfold wrap64; omega)
   have HW2 := Aside0.mk (show wrap64 (i + 1) = i + 1 from by have := HI.out; unfold wrap64; omega)
   have hless := V5.out i HI.out.1 il
   have HSd := Aside0.mk (Gt.LS.drew HS.out)
   obtain ⟨ad, ea, hx1⟩ := Kd.at_string HSd.out.2.2.2.2 (wrap64 (i - 1)) (by have := HI.out; rw [HW.out]; omega) (by rw [HW.out]; omega)
   obtain ⟨ad2, ea2, hx2⟩ := Kd.at_string HSd.out.2.2.2.2 i (by have := HI.out; omega) il
   obtain rfl : ad = ad2 := by rw [ea] at ea2; injection ea2
   subst ea
   have p1 := eq_true (show 0 ≤ wrap64 (i - 1) from by have := HI.out; rw [HW.out]; omega)
   have p2 := eq_true (show wrap64 (i - 1) < (l.length : Int) from by rw [HW.out]; omega)
   have p3 := eq_true (show 0 ≤ i from by have := HI.out; omega)
   have p4 := eq_true il
   clear il
   go_upto_region 14 with fail
   refine start_ (n := 10) (S := fun w' => w'.cell? (ad.add (wrap64 (i - 1)).toNat) = some (.string (rdOf ByteArray.empty l (wrap64 (i - 1)))) ∧ w'.cell? (ad.add i.toNat) = some (.string (rdOf ByteArray.empty l i))) (ds := []) (bz 10 0) (by kernel_rfl) rfl (by kernel_rfl) ⟨hx1, hx2⟩ (fun hHeld => ?_)
   generalize wr.drew = w9 at HSd hx1 hx2 hHeld ⊢
   refine PYz 0 61 (bz 10 1) rfl rfl (by kernel_rfl) ?_
   refine PYz 1 62 (bz 10 3) rfl rfl (by kernel_rfl) ?_
   refine PYz 2 63 (bz 10 7) rfl rfl (by kernel_rfl) ?_
   refine PYz 3 64 (bz 10 15) rfl rfl (by kernel_rfl) ?_
   refine PYz 5 66 (bz 10 47) rfl rfl (by kernel_rfl) ?_
   refine PYz 6 67 (bz 10 111) rfl rfl (by kernel_rfl) ?_
   refine PYz 7 68 (bz 10 239) rfl rfl (by kernel_rfl) ?_
   refine PTz 4 65 (bz 10 255) rfl rfl (by kernel_rfl) hHeld ?_
   refine PTz 8 69 (bz 10 511) rfl rfl (by kernel_rfl) hHeld ?_
   refine PYz 9 70 (bz 10 1023) rfl rfl (by kernel_rfl) ?_
   refine done_ (by kernel_rfl) ?_
   
   go_wp2
   go_roundg gk
   case measure => omega
   case rel => exact ⟨i + 1, by rw [HW2.out], ⟨by have := HI.out; have := HIL.out; have := V3.out; omega⟩, HSd⟩
def Gt.Pure : Prop := ∀ (l0 : List Int) (l1 : List Int), (l0.length * 1 ≤ 140737488351232 ∧ ∀ y_ ∈ l0, (Lit.int .u8 y_).wf = true) → (l1.length * 1 ≤ 140737488351232 ∧ ∀ y_ ∈ l1, (Lit.int .u8 y_).wf = true) → ∃ k, Gt.OK k l0 l1
end Go.Proofs.YtmkeigielncpjaaGreatDoor.PFnFilter
