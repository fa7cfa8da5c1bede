-- Laid by this session's own program out of the translation; Lean checks it.
import Derived.Test.YtdbboelacgehoaaDoorQFnDnx0
import Derived.Test.YtdbboelacgehoaaDoorQFnDnx5
import Derived.Test.YtdbboelacgehoaaDoorQFnDnx11
import Derived.Test.YtdbboelacgehoaaDoorQFnDnx12
namespace Go.Proofs.YtdbboelacgehoaaDoor.PFnDn
open Go.RowKit Go.Proofs.YtdbboelacgehoaaDoorW.PrintWords Go.Proofs.YtdbboelacgehoaaDoorW.PrintLast Go.Proofs.YtdbboelacgehoaaDoorW.PrintMore
attribute [local go_sem] max2_int min2_int max_two min_two max_three min_three max_four min_four   -- for this text's walks alone
set_option linter.unusedVariables false
set_option linter.unusedSimpArgs false
mutual
def spec_l01Src_l02Dn.l0 : Nat → List (S42) → Int → List Int → Int → Int → Int → Option ((List (S42)) × Int × Int × Int)
 | 0, _, _, _, _, _, _ => none
 | k + 1, x3, x4, x1000, x1001, x1002, x1003 => if x4 > 0 then ((spec_l01Src_l02Rdn.f x1000 x1001 x1002 x1003).bind fun bt342 => (if x3.length < 4398046511104 then (spec_l01Src_l02Dn.l0 k (x3 ++ [(⟨bt342.1, bt342.2.1⟩ : S42)]) (wrap64 (x4 - 1)) x1000 bt342.2.2.1 bt342.2.2.2.1 bt342.2.2.2.2) else (none))) else ((spec_l01Src_one.f x1000 x1001 x1002 x1003 30).bind fun bt350 => (if bt350.1 = true then (spec_l01Src_l02Dn.l1 k x3 x1000 bt350.2.1 bt350.2.2.1 bt350.2.2.2) else (some (x3, bt350.2.1, bt350.2.2.1, bt350.2.2.2))))
def spec_l01Src_l02Dn.l1 : Nat → List (S42) → List Int → Int → Int → Int → Option ((List (S42)) × Int × Int × Int)
 | 0, _, _, _, _, _ => none
 | k + 1, x3, x1000, x1001, x1002, x1003 => (spec_l01Src_n.f x1000 x1001 x1002 x1003 3).bind fun bt354 => (if (x3.length : Int) < (wrap64 (5 + bt354.1)) then (if x3.length < 4398046511104 then (spec_l01Src_l02Dn.l1 k (x3 ++ [(⟨(⟨#[99, 110]⟩ : ByteArray), (⟨#[120]⟩ : ByteArray)⟩ : S42)]) x1000 bt354.2.1 bt354.2.2.1 bt354.2.2.2) else (none)) else (some (x3, bt354.2.1, bt354.2.2.1, bt354.2.2.2)))
end
def spec_l01Src_l02Dn.f (k : Nat) (s0_0 : List Int) (s0_1 : Int) (s0_2 : Int) (s0_3 : Int) : Option ((List (S42)) × Int × Int × Int) := (spec_l01Src_n.f s0_0 s0_1 s0_2 s0_3 4).bind fun bt338 => (spec_l01Src_l02Dn.l0 k (([] : List (S42))) bt338.1 s0_0 bt338.2.1 bt338.2.2.1 bt338.2.2.2)
theorem spec_l01Src_l02Dn.mono_l : ∀ k, (∀ y0 y1 y2 y3 y4 y5, LeO (spec_l01Src_l02Dn.l0 k y0 y1 y2 y3 y4 y5) (spec_l01Src_l02Dn.l0 (k + 1) y0 y1 y2 y3 y4 y5)) ∧ (∀ y0 y1 y2 y3 y4, LeO (spec_l01Src_l02Dn.l1 k y0 y1 y2 y3 y4) (spec_l01Src_l02Dn.l1 (k + 1) y0 y1 y2 y3 y4))
 | 0 => ⟨fun _ _ _ _ _ _ r h => by simp [spec_l01Src_l02Dn.l0] at h, fun _ _ _ _ _ r h => by simp [spec_l01Src_l02Dn.l1] at h⟩
 | k + 1 => by
  obtain ⟨ih0, ih1⟩ := spec_l01Src_l02Dn.mono_l k
  refine ⟨?_, ?_⟩
  ·intro y0 y1 y2 y3 y4 y5
   unfold spec_l01Src_l02Dn.l0
   repeat' first
   | (with_reducible exact ih0 _ _ _ _ _ _)
   | (with_reducible exact ih1 _ _ _ _ _)
   | (with_reducible exact LeO.refl _)
   | (with_reducible exact LeO.none _)
   | (with_reducible refine LeO.ite ?_ ?_)
   | (with_reducible refine LeO.bind ?_ (fun _ => ?_))
   | exact ih0 _ _ _ _ _ _
   | exact ih1 _ _ _ _ _
   | exact LeO.none _
   | refine LeO.ite ?_ ?_
   | refine LeO.bind ?_ (fun _ => ?_)
  ·intro y0 y1 y2 y3 y4
   unfold spec_l01Src_l02Dn.l1
   repeat' first
   | (with_reducible exact ih0 _ _ _ _ _ _)
   | (with_reducible exact ih1 _ _ _ _ _)
   | (with_reducible exact LeO.refl _)
   | (with_reducible exact LeO.none _)
   | (with_reducible refine LeO.ite ?_ ?_)
   | (with_reducible refine LeO.bind ?_ (fun _ => ?_))
   | exact ih0 _ _ _ _ _ _
   | exact ih1 _ _ _ _ _
   | exact LeO.none _
   | refine LeO.ite ?_ ?_
   | refine LeO.bind ?_ (fun _ => ?_)
theorem spec_l01Src_l02Dn.mono : ∀ a0 a1 a2 a3 k, LeO (spec_l01Src_l02Dn.f k a0 a1 a2 a3) (spec_l01Src_l02Dn.f (k + 1) a0 a1 a2 a3) := by
 intro a0 a1 a2 a3 k
 obtain ⟨ih0, ih1⟩ := spec_l01Src_l02Dn.mono_l k
 unfold spec_l01Src_l02Dn.f
 repeat' first
   | (with_reducible exact ih0 _ _ _ _ _ _)
   | (with_reducible exact ih1 _ _ _ _ _)
   | (with_reducible exact LeO.refl _)
   | (with_reducible exact LeO.none _)
   | (with_reducible refine LeO.ite ?_ ?_)
   | (with_reducible refine LeO.bind ?_ (fun _ => ?_))
   | exact ih0 _ _ _ _ _ _
   | exact ih1 _ _ _ _ _
   | exact LeO.none _
   | refine LeO.ite ?_ ?_
   | refine LeO.bind ?_ (fun _ => ?_)
set_option maxHeartbeats 8000000 in
set_option maxRecDepth 100000 in
theorem spec_l01Src_l02Dn.calls (k : Nat) (g : Nat) (s0_0 : List Int) (s0_1 : Int) (s0_2 : Int) (s0_3 : Int) (r1 : List (S42)) (r2 : Int) (r3 : Int) (r4 : Int) (w0 w : World) (hI : IsS129 w0 w g s0_0 s0_1 s0_2 s0_3) (hB : Below w0.heap.size w0 w) (h : spec_l01Src_l02Dn.f k s0_0 s0_1 s0_2 s0_3 = some (r1, r2, r3, r4)) :
  Calls Tryd.prog 77 #[.pointer (some ⟨g, 0, none⟩)] w fun e w' => ∃ v0_ : Value, e = .returned (v0_) ∧ Kd.R k42 42 w' w.heap.size (fun _ => True) v0_ r1 ∧ IsS129 w0 w' g s0_0 r2 r3 r4 ∧ Below w0.heap.size w0 w' ∧ KeepBut w w' g none := by
 have hu42 := Tryd.underlying42
 have HI0 := Aside0.mk hI
 have HK := Aside0.mk (KeepBut.refl w g none)
 have HL := Aside0.mk hB.size
 clear hI
 have HW0 := Aside0.mk hB.size
 have HB := Aside0.mk hB
 clear hB
 have H : ((spec_l01Src_n.f s0_0 s0_1 s0_2 s0_3 4).bind fun bt338 => (spec_l01Src_l02Dn.l0 k (([] : List (S42))) bt338.1 s0_0 bt338.2.1 bt338.2.2.1 bt338.2.2.2)) = some (r1, r2, r3, r4) := h
 clear h
 obtain ⟨y335, hy335⟩ : ∃ y_ : List (S42), y_ = (([] : List (S42))) := ⟨_, rfl⟩
 replace H : ((spec_l01Src_n.f s0_0 s0_1 s0_2 s0_3 4).bind fun bt338 => (spec_l01Src_l02Dn.l0 k y335 bt338.1 s0_0 bt338.2.1 bt338.2.2.1 bt338.2.2.2)) = some (r1, r2, r3, r4) := by first | (rw [hy335]; with_reducible exact H) | (have H2_ := (Option.bind_some _ _).symm.trans H; rw [hy335]; with_reducible exact H2_) | (have H2_ := (Option.bind_some _ _).symm.trans H; with_reducible exact H2_) | with_reducible exact H | (rw [hy335]; exact H) | exact H
 have Ny335 := Aside0.mk hy335
 clear hy335
 replace H := Option.bind_eq_some_iff.mp H
 obtain ⟨⟨t338, t339, t340, t341⟩, A20, H⟩ := H
 replace H : (spec_l01Src_l02Dn.l0 k y335 t338 s0_0 t339 t340 t341) = some (r1, r2, r3, r4) := H
 have A2 := Aside0.mk A20
 clear A20
 have H' := Aside0.mk H
 clear H
 go_enter Tryd.func77, Tryd.ntmps77
 go_wp2_with (first | ((with_reducible refine gate_dst (N := 5) rfl ?_); refine Kd.R_lit k42 _ 42 ?hg (N := 5) ?hd (xs := ([] : List (S42))) (inner := []) (ok := fun _ => True) (okp := fun _ => True) ?hr ?hp (fun _ hk => hk) trivial (Below.refl _ _) (Nat.le_refl _) (by simp) ?_; (case hd => rfl); (case hg => rfl); (case hr => first | (go_simp; done) | (go_simp; rfl)); (case hp => exact (Reps.none _ _)); intro v336 w3 ho4 hb hg_ hnew_; clear hg_ hnew_; (first | rw [← Ny335.out] at ho4 | (simp only [Int.reduceToNat] at ho4; rw [← Ny335.out] at ho4)); have n0_ := Aside0.mk (Kd.R_lower ho4 (keep_size (w := w) (g := g) (row := none) (by repeat (first | (with_reducible first | exact HK.out | apply KeepBut.set_ | apply keep_drewN | apply keep_drew | apply keep_alloc) | exact HK.out)))); have n1_ := Aside0.mk (IsS129.below (by repeat (first | (with_reducible first | exact HI0.out | apply IsS129.alloc | apply IsS129.drewN | apply IsS129.drew | apply IsS129.set_1 | apply IsS129.set_2 | apply IsS129.set_3) | exact HI0.out)) hb); have n2_ := Aside0.mk (KeepBut.trans (by repeat (first | (with_reducible first | exact HK.out | apply KeepBut.set_ | apply keep_drewN | apply keep_drew | apply keep_alloc) | exact HK.out)) (KeepBut.of_below hb g none) (.inl rfl)); have n3_ := Aside0.mk (below_step (by repeat (first | (with_reducible first | exact HB.out | apply below_alloc | apply pw_below_drewN | apply below_drew1 | refine below_set ?_ (IsS129.ge HI0.out)) | exact HB.out)) hb); clear HI0; clear HK; clear HB; have HO337 := n0_; have HI0 := n1_; have HK := n2_; have HB := n3_; clear n0_ n1_ n2_ n3_; clear hb ho4) | ((with_reducible refine gate_callee (f := 79) rfl ?_); refine goesL_ (some 7) rfl rfl Tryd.func79 (by kernel_rfl) rfl #[.pointer (some ⟨g, 0, none⟩), .int .i64 4] rfl MPz ?_; (with_reducible refine (spec_l01Src_n.calls g s0_0 s0_1 s0_2 s0_3 4 t338 t339 t340 t341 w0 _ ?side1 ?side2 A2.out).mono ?_); (case side1 => repeat (first | (with_reducible first | exact HI0.out | apply IsS129.alloc | apply IsS129.drewN | apply IsS129.drew | apply IsS129.set_1 | apply IsS129.set_2 | apply IsS129.set_3) | exact HI0.out)); (case side2 => repeat (first | (with_reducible first | exact HB.out | apply below_alloc | apply pw_below_drewN | apply below_drew1 | refine below_set ?_ (IsS129.ge HI0.out)) | exact HB.out)); rintro e w5 ⟨rfl, hi, hb, hk⟩; refine ⟨_, rfl, ?_⟩; have n0_ := Aside0.mk (Kd.R_mono (Kd.R_keep (IsS129.apart (show IsS129 w0 _ g s0_0 s0_1 s0_2 s0_3 from by repeat (first | (with_reducible first | exact HI0.out | apply IsS129.alloc | apply IsS129.drewN | apply IsS129.drew | apply IsS129.set_1 | apply IsS129.set_2 | apply IsS129.set_3) | exact HI0.out)) (by (with_reducible repeat (first | apply Kd.R_alloc | apply Kd.R_drewN | apply Kd.R_drew)); exact HO337.out) (by decide)) hk (fun _ h => h.2)) (fun _ h => h.1)); have n1_ := Aside0.mk (KeepBut.trans (by repeat (first | (with_reducible first | exact HK.out | apply KeepBut.set_ | apply keep_drewN | apply keep_drew | apply keep_alloc) | exact HK.out)) hk (.inl rfl)); have n2_ := Aside0.mk (hb); have n3_ := Aside0.mk (hi); clear HO337; clear HK; clear HB; clear HI0; have HO337 := n0_; have HK := n1_; have HB := n2_; have HI0 := n3_; clear n0_ n1_ n2_ n3_; (try clear hb); (try clear hb2); (try clear hk); (try clear hi)))
 (try simp only [Act.put, List.setIfInBounds_toArray, List.set_cons_zero, List.set_cons_succ])
 go_loopg [3, 4] k (fun kq v3 v4 w' => ∃ (x3_1 : List (S42)) (x4_1 : Int) (x1001_1 : Int) (x1002_1 : Int) (x1003_1 : Int), v4 = .int .i64 x4_1 ∧ Aside0 (spec_l01Src_l02Dn.l0 kq x3_1 x4_1 s0_0 x1001_1 x1002_1 x1003_1 = some (r1, r2, r3, r4)) ∧ Aside0 (kq ≤ k) ∧ Aside0 (Kd.R k42 42 w' w.heap.size (fun _ => True) v3 x3_1) ∧ Aside0 (IsS129 w0 w' g s0_0 x1001_1 x1002_1 x1003_1) ∧ Aside0 (KeepBut w w' g none) ∧ Aside0 (Below w0.heap.size w0 w'))
 case atStart => exact ⟨(y335), (t338), (t339), (t340), (t341), EZc, H', ⟨Nat.le_refl _⟩, ⟨by (with_reducible repeat (first | apply Kd.R_alloc | apply Kd.R_drewN | apply Kd.R_drew)); exact HO337.out⟩, ⟨by repeat (first | (with_reducible first | exact HI0.out | apply IsS129.alloc | apply IsS129.drewN | apply IsS129.drew | apply IsS129.set_1 | apply IsS129.set_2 | apply IsS129.set_3) | exact HI0.out)⟩, ⟨by repeat (first | (with_reducible first | exact HK.out | apply KeepBut.set_ | apply keep_drewN | apply keep_drew | apply keep_alloc) | exact HK.out)⟩, ⟨by repeat (first | (with_reducible first | exact HB.out | apply below_alloc | apply pw_below_drewN | apply below_drew1 | refine below_set ?_ (IsS129.ge HI0.out)) | exact HB.out)⟩⟩
 case round =>
  clear H'
  try clear p2
  obtain ⟨x3_1, x4_1, x1001_1, x1002_1, x1003_1, rfl, HA, HK1, HO_3, HI0, HK, HB⟩ := hrel
  cases gk with
  | zero => exact absurd HA.out (by simp [spec_l01Src_l02Dn.l0])
  | succ k1 =>
   have H := HA.out
   clear HA
   simp only [spec_l01Src_l02Dn.l0] at H
   by_cases c6 : x4_1 > 0
   ·rw [if_pos c6] at H
    have c6b0 : decide (0 < x4_1) = true := decide_eq_true c6
    clear c6
    replace H := Option.bind_eq_some_iff.mp H
    obtain ⟨⟨t342, t343, t344, t345, t346⟩, A70, H⟩ := H
    replace H : (if x3_1.length < 4398046511104 then (spec_l01Src_l02Dn.l0 k1 (x3_1 ++ [(⟨t342, t343⟩ : S42)]) (wrap64 (x4_1 - 1)) s0_0 t344 t345 t346) else (none)) = some (r1, r2, r3, r4) := H
    have A7 := Aside0.mk A70
    clear A70
    by_cases c8 : x3_1.length < 4398046511104
    ·rw [if_pos c8] at H
     have LMc8 := Aside0.mk c8
     clear c8
     obtain ⟨y347, hy347⟩ : ∃ y_ : List (S42), y_ = (x3_1 ++ [(⟨t342, t343⟩ : S42)]) := ⟨_, rfl⟩
     replace H : (spec_l01Src_l02Dn.l0 k1 y347 (wrap64 (x4_1 - 1)) s0_0 t344 t345 t346) = some (r1, r2, r3, r4) := by first | (rw [hy347]; with_reducible exact H) | (have H2_ := (Option.bind_some _ _).symm.trans H; rw [hy347]; with_reducible exact H2_) | (have H2_ := (Option.bind_some _ _).symm.trans H; with_reducible exact H2_) | with_reducible exact H | (rw [hy347]; exact H) | exact H
     have Ny347 := Aside0.mk hy347
     clear hy347
     have H' := Aside0.mk H
     clear H
     go_wp2_with (first | ((with_reducible refine gate_callee (f := 86) rfl ?_); refine goesL_ (some 14) rfl rfl Tryd.func86 (by kernel_rfl) rfl #[.pointer (some ⟨g, 0, none⟩)] rfl MPz ?_; (with_reducible refine (spec_l01Src_l02Rdn.calls g s0_0 x1001_1 x1002_1 x1003_1 t342 t343 t344 t345 t346 w0 _ ?side1 ?side2 A7.out).mono ?_); (case side1 => repeat (first | (with_reducible first | exact HI0.out | apply IsS129.alloc | apply IsS129.drewN | apply IsS129.drew | apply IsS129.set_1 | apply IsS129.set_2 | apply IsS129.set_3) | exact HI0.out)); (case side2 => repeat (first | (with_reducible first | exact HB.out | apply below_alloc | apply pw_below_drewN | apply below_drew1 | refine below_set ?_ (IsS129.ge HI0.out)) | exact HB.out)); rintro e w9 ⟨rfl, hi, hb, hk⟩; refine ⟨_, rfl, ?_⟩; have n0_ := Aside0.mk (Kd.R_mono (Kd.R_keep (IsS129.apart (show IsS129 w0 _ g s0_0 x1001_1 x1002_1 x1003_1 from by repeat (first | (with_reducible first | exact HI0.out | apply IsS129.alloc | apply IsS129.drewN | apply IsS129.drew | apply IsS129.set_1 | apply IsS129.set_2 | apply IsS129.set_3) | exact HI0.out)) (by (with_reducible repeat (first | apply Kd.R_alloc | apply Kd.R_drewN | apply Kd.R_drew)); exact HO_3.out) (by decide)) hk (fun _ h => h.2)) (fun _ h => h.1)); have n1_ := Aside0.mk (KeepBut.trans (by repeat (first | (with_reducible first | exact HK.out | apply KeepBut.set_ | apply keep_drewN | apply keep_drew | apply keep_alloc) | exact HK.out)) hk (.inl rfl)); have n2_ := Aside0.mk (hb); have n3_ := Aside0.mk (hi); clear HO_3; clear HK; clear HB; clear HI0; have HO_3 := n0_; have HK := n1_; have HB := n2_; have HI0 := n3_; clear n0_ n1_ n2_ n3_; (try clear hb); (try clear hb2); (try clear hk); (try clear hi)) | ((with_reducible refine gate_builtin (b := .append) (xs := #[.tmp 12, .tmp 15]) rfl ?_); at_builtin; refine Kd.R_append k42 w.heap.size rfl (.tmp 12) (.tmp 15) 32 42 (.agg #[(.string ⟨#[]⟩), (.string ⟨#[]⟩)]) 32 rfl Tryd.underlying32 info42 rfl (by decide) (by omega) u3 x3_1 (⟨t342, t343⟩ : S42) [.string t342, .string t343] (fun _ => True) (fun _ => False) rfl rfl ?aP (fun _ hk => hk.elim) ?aF ?aO (Below.refl _ _) ?aS ?aL ?_; (case aP => exact k42_mkM _ _ _ (⟨t342, t343⟩ : S42)); (case aF => exact (fun _ _ => trivial)); (case aO => exact (by (with_reducible repeat (first | apply Kd.R_alloc | apply Kd.R_drewN | apply Kd.R_drew)); exact HO_3.out)); (case aS => exact (keep_size (w := w) (g := g) (row := none) (by repeat (first | (with_reducible first | exact HK.out | apply KeepBut.set_ | apply keep_drewN | apply keep_drew | apply keep_alloc) | exact HK.out)))); (case aL => have := LMc8.out; omega); intro v348 w10 ho hb hg hat; rw [← Ny347.out] at ho; have n0_ := Aside0.mk (IsS129.grown (by repeat (first | (with_reducible first | exact HI0.out | apply IsS129.alloc | apply IsS129.drewN | apply IsS129.drew | apply IsS129.set_1 | apply IsS129.set_2 | apply IsS129.set_3) | exact HI0.out)) hg (IsS129.own_ne HI0.out HO_3.out (by decide))); have n1_ := Aside0.mk (below_weaken (by repeat (first | (with_reducible first | exact HB.out | apply below_alloc | apply pw_below_drewN | apply below_drew1 | refine below_set ?_ (IsS129.ge HI0.out)) | exact HB.out)) HL.out hb); have n2_ := Aside0.mk (KeepBut.trans (by repeat (first | (with_reducible first | exact HK.out | apply KeepBut.set_ | apply keep_drewN | apply keep_drew | apply keep_alloc) | exact HK.out)) (KeepBut.of_grown hg g) (Kd.R_base2 HO_3.out)); have n3_ := Aside0.mk (ho); clear HI0; clear HB; clear HK; clear HO_3; have HI0 := n0_; have HB := n1_; have HK := n2_; have HO349 := n3_; clear n0_ n1_ n2_ n3_; clear ho hb hg hat))
     go_roundg k1
     case measure => have := HK1.out; omega
     case rel => exact ⟨(y347), (wrap64 (x4_1 - 1)), (t344), (t345), (t346), EZc, H', ⟨by have := HK1.out; omega⟩, ⟨by (with_reducible repeat (first | apply Kd.R_alloc | apply Kd.R_drewN | apply Kd.R_drew)); exact HO349.out⟩, ⟨by repeat (first | (with_reducible first | exact HI0.out | apply IsS129.alloc | apply IsS129.drewN | apply IsS129.drew | apply IsS129.set_1 | apply IsS129.set_2 | apply IsS129.set_3) | exact HI0.out)⟩, ⟨by repeat (first | (with_reducible first | exact HK.out | apply KeepBut.set_ | apply keep_drewN | apply keep_drew | apply keep_alloc) | exact HK.out)⟩, ⟨by repeat (first | (with_reducible first | exact HB.out | apply below_alloc | apply pw_below_drewN | apply below_drew1 | refine below_set ?_ (IsS129.ge HI0.out)) | exact HB.out)⟩⟩
    ·rw [if_neg c8] at H
     exact absurd H (by simp)
   ·rw [if_neg c6] at H
    have c6b0 : decide (0 < x4_1) = false := decide_eq_false c6
    clear c6
    replace H := Option.bind_eq_some_iff.mp H
    obtain ⟨⟨t350, t351, t352, t353⟩, A110, H⟩ := H
    replace H : (if t350 = true then (spec_l01Src_l02Dn.l1 k1 x3_1 s0_0 t351 t352 t353) else (some (x3_1, t351, t352, t353))) = some (r1, r2, r3, r4) := H
    have A11 := Aside0.mk A110
    clear A110
    by_cases c12 : t350 = true
    ·subst c12
     have H1 : (spec_l01Src_l02Dn.l1 k1 x3_1 s0_0 t351 t352 t353) = some (r1, r2, r3, r4) := by rw [if_pos rfl] at H; exact H
     clear H
     have H := H1
     clear H1
     have H' := Aside0.mk H
     clear H
     go_wp2_with (first | ((with_reducible refine gate_callee (f := 78) rfl ?_); refine goesL_ (some 18) rfl rfl Tryd.func78 (by kernel_rfl) rfl #[.pointer (some ⟨g, 0, none⟩), .int .i64 30] rfl MPz ?_; (with_reducible refine (spec_l01Src_one.calls g s0_0 x1001_1 x1002_1 x1003_1 30 true t351 t352 t353 w0 _ ?side1 ?side2 A11.out).mono ?_); (case side1 => repeat (first | (with_reducible first | exact HI0.out | apply IsS129.alloc | apply IsS129.drewN | apply IsS129.drew | apply IsS129.set_1 | apply IsS129.set_2 | apply IsS129.set_3) | exact HI0.out)); (case side2 => repeat (first | (with_reducible first | exact HB.out | apply below_alloc | apply pw_below_drewN | apply below_drew1 | refine below_set ?_ (IsS129.ge HI0.out)) | exact HB.out)); rintro e w13 ⟨rfl, hi, hb, hk⟩; refine ⟨_, rfl, ?_⟩; have n0_ := Aside0.mk (Kd.R_mono (Kd.R_keep (IsS129.apart (show IsS129 w0 _ g s0_0 x1001_1 x1002_1 x1003_1 from by repeat (first | (with_reducible first | exact HI0.out | apply IsS129.alloc | apply IsS129.drewN | apply IsS129.drew | apply IsS129.set_1 | apply IsS129.set_2 | apply IsS129.set_3) | exact HI0.out)) (by (with_reducible repeat (first | apply Kd.R_alloc | apply Kd.R_drewN | apply Kd.R_drew)); exact HO_3.out) (by decide)) hk (fun _ h => h.2)) (fun _ h => h.1)); have n1_ := Aside0.mk (KeepBut.trans (by repeat (first | (with_reducible first | exact HK.out | apply KeepBut.set_ | apply keep_drewN | apply keep_drew | apply keep_alloc) | exact HK.out)) hk (.inl rfl)); have n2_ := Aside0.mk (hb); have n3_ := Aside0.mk (hi); clear HO_3; clear HK; clear HB; clear HI0; have HO_3 := n0_; have HK := n1_; have HB := n2_; have HI0 := n3_; clear n0_ n1_ n2_ n3_; (try clear hb); (try clear hb2); (try clear hk); (try clear hi)))
     (try simp only [Act.put, List.setIfInBounds_toArray, List.set_cons_zero, List.set_cons_succ])
     go_loopg [3] k1 (fun kq v3 w' => ∃ (x3_2 : List (S42)) (x1001_2 : Int) (x1002_2 : Int) (x1003_2 : Int), Aside0 (spec_l01Src_l02Dn.l1 kq x3_2 s0_0 x1001_2 x1002_2 x1003_2 = some (r1, r2, r3, r4)) ∧ Aside0 (kq ≤ k1) ∧ Aside0 (Kd.R k42 42 w' w.heap.size (fun _ => True) v3 x3_2) ∧ Aside0 (IsS129 w0 w' g s0_0 x1001_2 x1002_2 x1003_2) ∧ Aside0 (KeepBut w w' g none) ∧ Aside0 (Below w0.heap.size w0 w'))
     case atStart => exact ⟨(x3_1), (t351), (t352), (t353), H', ⟨Nat.le_refl _⟩, ⟨by (with_reducible repeat (first | apply Kd.R_alloc | apply Kd.R_drewN | apply Kd.R_drew)); exact HO_3.out⟩, ⟨by repeat (first | (with_reducible first | exact HI0.out | apply IsS129.alloc | apply IsS129.drewN | apply IsS129.drew | apply IsS129.set_1 | apply IsS129.set_2 | apply IsS129.set_3) | exact HI0.out)⟩, ⟨by repeat (first | (with_reducible first | exact HK.out | apply KeepBut.set_ | apply keep_drewN | apply keep_drew | apply keep_alloc) | exact HK.out)⟩, ⟨by repeat (first | (with_reducible first | exact HB.out | apply below_alloc | apply pw_below_drewN | apply below_drew1 | refine below_set ?_ (IsS129.ge HI0.out)) | exact HB.out)⟩⟩
     case round =>
      clear H'
      try clear c1
      try clear p2
      try clear c6
      try clear c6b0
      try clear p6
      try clear c7
      try clear c8
      try clear c12
      try clear p2
      obtain ⟨x3_2, x1001_2, x1002_2, x1003_2, HA, HK2, HO_3, HI0, HK, HB⟩ := hrel
      cases gk with
      | zero => exact absurd HA.out (by simp [spec_l01Src_l02Dn.l1])
      | succ k2 =>
       have H := HA.out
       clear HA
       simp only [spec_l01Src_l02Dn.l1] at H
       replace H := Option.bind_eq_some_iff.mp H
       obtain ⟨⟨t354, t355, t356, t357⟩, A140, H⟩ := H
       replace H : (if (x3_2.length : Int) < (wrap64 (5 + t354)) then (if x3_2.length < 4398046511104 then (spec_l01Src_l02Dn.l1 k2 (x3_2 ++ [(⟨(⟨#[99, 110]⟩ : ByteArray), (⟨#[120]⟩ : ByteArray)⟩ : S42)]) s0_0 t355 t356 t357) else (none)) else (some (x3_2, t355, t356, t357))) = some (r1, r2, r3, r4) := H
       have A14 := Aside0.mk A140
       clear A140
       by_cases c15 : (x3_2.length : Int) < (wrap64 (5 + t354))
       ·rw [if_pos c15] at H
        have c15b0 : decide ((x3_2.length : Int) < (wrap64 (5 + t354))) = true := decide_eq_true c15
        (try (have c15v0 := c15b0; (try rw [show wrap64 (5 + t354) = 5 + t354 from by unfold wrap64; omega] at c15v0)))
        clear c15
        by_cases c16 : x3_2.length < 4398046511104
        ·rw [if_pos c16] at H
         have LMc16 := Aside0.mk c16
         clear c16
         obtain ⟨y358, hy358⟩ : ∃ y_ : List (S42), y_ = (x3_2 ++ [(⟨(⟨#[99, 110]⟩ : ByteArray), (⟨#[120]⟩ : ByteArray)⟩ : S42)]) := ⟨_, rfl⟩
         replace H : (spec_l01Src_l02Dn.l1 k2 y358 s0_0 t355 t356 t357) = some (r1, r2, r3, r4) := by first | (rw [hy358]; with_reducible exact H) | (have H2_ := (Option.bind_some _ _).symm.trans H; rw [hy358]; with_reducible exact H2_) | (have H2_ := (Option.bind_some _ _).symm.trans H; with_reducible exact H2_) | with_reducible exact H | (rw [hy358]; exact H) | exact H
         have Ny358 := Aside0.mk hy358
         clear hy358
         have H' := Aside0.mk H
         clear H
         obtain ⟨Ao17, co17, eo17⟩ := Kd.R_slice HO_3.out
         subst eo17
         go_wp2_with (first | ((with_reducible refine gate_callee (f := 79) rfl ?_); refine goesL_ (some 22) rfl rfl Tryd.func79 (by kernel_rfl) rfl #[.pointer (some ⟨g, 0, none⟩), .int .i64 3] rfl MPz ?_; (with_reducible refine (spec_l01Src_n.calls g s0_0 x1001_2 x1002_2 x1003_2 3 t354 t355 t356 t357 w0 _ ?side1 ?side2 A14.out).mono ?_); (case side1 => repeat (first | (with_reducible first | exact HI0.out | apply IsS129.alloc | apply IsS129.drewN | apply IsS129.drew | apply IsS129.set_1 | apply IsS129.set_2 | apply IsS129.set_3) | exact HI0.out)); (case side2 => repeat (first | (with_reducible first | exact HB.out | apply below_alloc | apply pw_below_drewN | apply below_drew1 | refine below_set ?_ (IsS129.ge HI0.out)) | exact HB.out)); rintro e w18 ⟨rfl, hi, hb, hk⟩; refine ⟨_, rfl, ?_⟩; have n0_ := Aside0.mk (Kd.R_mono (Kd.R_keep (IsS129.apart (show IsS129 w0 _ g s0_0 x1001_2 x1002_2 x1003_2 from by repeat (first | (with_reducible first | exact HI0.out | apply IsS129.alloc | apply IsS129.drewN | apply IsS129.drew | apply IsS129.set_1 | apply IsS129.set_2 | apply IsS129.set_3) | exact HI0.out)) (by (with_reducible repeat (first | apply Kd.R_alloc | apply Kd.R_drewN | apply Kd.R_drew)); exact HO_3.out) (by decide)) hk (fun _ h => h.2)) (fun _ h => h.1)); have n1_ := Aside0.mk (KeepBut.trans (by repeat (first | (with_reducible first | exact HK.out | apply KeepBut.set_ | apply keep_drewN | apply keep_drew | apply keep_alloc) | exact HK.out)) hk (.inl rfl)); have n2_ := Aside0.mk (hb); have n3_ := Aside0.mk (hi); clear HO_3; clear HK; clear HB; clear HI0; have HO_3 := n0_; have HK := n1_; have HB := n2_; have HI0 := n3_; clear n0_ n1_ n2_ n3_; (try clear hb); (try clear hb2); (try clear hk); (try clear hi)) | ((with_reducible refine gate_builtin (b := .append) (xs := #[.tmp 25, .tmp 27]) rfl ?_); at_builtin; refine Kd.R_append k42 w.heap.size rfl (.tmp 25) (.tmp 27) 32 42 (.agg #[(.string ⟨#[]⟩), (.string ⟨#[]⟩)]) 32 rfl Tryd.underlying32 info42 rfl (by decide) (by omega) (.slice Ao17 x3_2.length co17) x3_2 (⟨(⟨#[99, 110]⟩ : ByteArray), (⟨#[120]⟩ : ByteArray)⟩ : S42) [.string (⟨#[99, 110]⟩ : ByteArray), .string (⟨#[120]⟩ : ByteArray)] (fun _ => True) (fun _ => False) rfl rfl ?aP (fun _ hk => hk.elim) ?aF ?aO (Below.refl _ _) ?aS ?aL ?_; (case aP => exact k42_mkM _ _ _ (⟨(⟨#[99, 110]⟩ : ByteArray), (⟨#[120]⟩ : ByteArray)⟩ : S42)); (case aF => exact (fun _ _ => trivial)); (case aO => exact (by (with_reducible repeat (first | apply Kd.R_alloc | apply Kd.R_drewN | apply Kd.R_drew)); exact HO_3.out)); (case aS => exact (keep_size (w := w) (g := g) (row := none) (by repeat (first | (with_reducible first | exact HK.out | apply KeepBut.set_ | apply keep_drewN | apply keep_drew | apply keep_alloc) | exact HK.out)))); (case aL => have := LMc16.out; omega); intro v359 w19 ho hb hg hat; rw [← Ny358.out] at ho; have n0_ := Aside0.mk (IsS129.grown (by repeat (first | (with_reducible first | exact HI0.out | apply IsS129.alloc | apply IsS129.drewN | apply IsS129.drew | apply IsS129.set_1 | apply IsS129.set_2 | apply IsS129.set_3) | exact HI0.out)) hg (IsS129.own_ne HI0.out HO_3.out (by decide))); have n1_ := Aside0.mk (below_weaken (by repeat (first | (with_reducible first | exact HB.out | apply below_alloc | apply pw_below_drewN | apply below_drew1 | refine below_set ?_ (IsS129.ge HI0.out)) | exact HB.out)) HL.out hb); have n2_ := Aside0.mk (KeepBut.trans (by repeat (first | (with_reducible first | exact HK.out | apply KeepBut.set_ | apply keep_drewN | apply keep_drew | apply keep_alloc) | exact HK.out)) (KeepBut.of_grown hg g) (Kd.R_base2 HO_3.out)); have n3_ := Aside0.mk (ho); clear HI0; clear HB; clear HK; clear HO_3; have HI0 := n0_; have HB := n1_; have HK := n2_; have HO360 := n3_; clear n0_ n1_ n2_ n3_; clear ho hb hg hat))
         go_roundg k2
         case measure => have := HK1.out; have := HK2.out; omega
         case rel => exact ⟨(y358), (t355), (t356), (t357), H', ⟨by have := HK1.out; have := HK2.out; omega⟩, ⟨by (with_reducible repeat (first | apply Kd.R_alloc | apply Kd.R_drewN | apply Kd.R_drew)); exact HO360.out⟩, ⟨by repeat (first | (with_reducible first | exact HI0.out | apply IsS129.alloc | apply IsS129.drewN | apply IsS129.drew | apply IsS129.set_1 | apply IsS129.set_2 | apply IsS129.set_3) | exact HI0.out)⟩, ⟨by repeat (first | (with_reducible first | exact HK.out | apply KeepBut.set_ | apply keep_drewN | apply keep_drew | apply keep_alloc) | exact HK.out)⟩, ⟨by repeat (first | (with_reducible first | exact HB.out | apply below_alloc | apply pw_below_drewN | apply below_drew1 | refine below_set ?_ (IsS129.ge HI0.out)) | exact HB.out)⟩⟩
        ·rw [if_neg c16] at H
         exact absurd H (by simp)
       ·rw [if_neg c15] at H
        have c15b0 : decide ((x3_2.length : Int) < (wrap64 (5 + t354))) = false := decide_eq_false c15
        (try (have c15v0 := c15b0; (try rw [show wrap64 (5 + t354) = 5 + t354 from by unfold wrap64; omega] at c15v0)))
        clear c15
        simp only [Option.some.injEq, Prod.mk.injEq] at H
        obtain ⟨rfl, rfl, rfl, rfl⟩ := H
        obtain ⟨Ao20, co20, eo20⟩ := Kd.R_slice HO_3.out
        subst eo20
        go_wp2_with (first | ((with_reducible refine gate_callee (f := 79) rfl ?_); refine goesL_ (some 22) rfl rfl Tryd.func79 (by kernel_rfl) rfl #[.pointer (some ⟨g, 0, none⟩), .int .i64 3] rfl MPz ?_; (with_reducible refine (spec_l01Src_n.calls g s0_0 x1001_2 x1002_2 x1003_2 3 t354 t355 t356 t357 w0 _ ?side1 ?side2 A14.out).mono ?_); (case side1 => repeat (first | (with_reducible first | exact HI0.out | apply IsS129.alloc | apply IsS129.drewN | apply IsS129.drew | apply IsS129.set_1 | apply IsS129.set_2 | apply IsS129.set_3) | exact HI0.out)); (case side2 => repeat (first | (with_reducible first | exact HB.out | apply below_alloc | apply pw_below_drewN | apply below_drew1 | refine below_set ?_ (IsS129.ge HI0.out)) | exact HB.out)); rintro e w21 ⟨rfl, hi, hb, hk⟩; refine ⟨_, rfl, ?_⟩; have n0_ := Aside0.mk (Kd.R_mono (Kd.R_keep (IsS129.apart (show IsS129 w0 _ g s0_0 x1001_2 x1002_2 x1003_2 from by repeat (first | (with_reducible first | exact HI0.out | apply IsS129.alloc | apply IsS129.drewN | apply IsS129.drew | apply IsS129.set_1 | apply IsS129.set_2 | apply IsS129.set_3) | exact HI0.out)) (by (with_reducible repeat (first | apply Kd.R_alloc | apply Kd.R_drewN | apply Kd.R_drew)); exact HO_3.out) (by decide)) hk (fun _ h => h.2)) (fun _ h => h.1)); have n1_ := Aside0.mk (KeepBut.trans (by repeat (first | (with_reducible first | exact HK.out | apply KeepBut.set_ | apply keep_drewN | apply keep_drew | apply keep_alloc) | exact HK.out)) hk (.inl rfl)); have n2_ := Aside0.mk (hb); have n3_ := Aside0.mk (hi); clear HO_3; clear HK; clear HB; clear HI0; have HO_3 := n0_; have HK := n1_; have HB := n2_; have HI0 := n3_; clear n0_ n1_ n2_ n3_; (try clear hb); (try clear hb2); (try clear hk); (try clear hi)))
        go_ret
        exact ⟨_, EZa, by (with_reducible repeat (first | apply Kd.R_alloc | apply Kd.R_drewN | apply Kd.R_drew)); exact HO_3.out, by repeat (first | (with_reducible first | exact HI0.out | apply IsS129.alloc | apply IsS129.drewN | apply IsS129.drew | apply IsS129.set_1 | apply IsS129.set_2 | apply IsS129.set_3) | exact HI0.out), by repeat (first | (with_reducible first | exact HB.out | apply below_alloc | apply pw_below_drewN | apply below_drew1 | refine below_set ?_ (IsS129.ge HI0.out)) | exact HB.out), by repeat (first | (with_reducible first | exact HK.out | apply KeepBut.set_ | apply keep_drewN | apply keep_drew | apply keep_alloc) | exact HK.out)⟩
    ·replace c12 := Bool.eq_false_iff.mpr c12
     subst c12
     have H1 : (some (x3_1, t351, t352, t353)) = some (r1, r2, r3, r4) := by rw [if_neg (show ¬ (false = true) by decide)] at H; exact H
     clear H
     have H := H1
     clear H1
     simp only [Option.some.injEq, Prod.mk.injEq] at H
     obtain ⟨rfl, rfl, rfl, rfl⟩ := H
     go_wp2_with (first | ((with_reducible refine gate_callee (f := 78) rfl ?_); refine goesL_ (some 18) rfl rfl Tryd.func78 (by kernel_rfl) rfl #[.pointer (some ⟨g, 0, none⟩), .int .i64 30] rfl MPz ?_; (with_reducible refine (spec_l01Src_one.calls g s0_0 x1001_1 x1002_1 x1003_1 30 false t351 t352 t353 w0 _ ?side1 ?side2 A11.out).mono ?_); (case side1 => repeat (first | (with_reducible first | exact HI0.out | apply IsS129.alloc | apply IsS129.drewN | apply IsS129.drew | apply IsS129.set_1 | apply IsS129.set_2 | apply IsS129.set_3) | exact HI0.out)); (case side2 => repeat (first | (with_reducible first | exact HB.out | apply below_alloc | apply pw_below_drewN | apply below_drew1 | refine below_set ?_ (IsS129.ge HI0.out)) | exact HB.out)); rintro e w22 ⟨rfl, hi, hb, hk⟩; refine ⟨_, rfl, ?_⟩; have n0_ := Aside0.mk (Kd.R_mono (Kd.R_keep (IsS129.apart (show IsS129 w0 _ g s0_0 x1001_1 x1002_1 x1003_1 from by repeat (first | (with_reducible first | exact HI0.out | apply IsS129.alloc | apply IsS129.drewN | apply IsS129.drew | apply IsS129.set_1 | apply IsS129.set_2 | apply IsS129.set_3) | exact HI0.out)) (by (with_reducible repeat (first | apply Kd.R_alloc | apply Kd.R_drewN | apply Kd.R_drew)); exact HO_3.out) (by decide)) hk (fun _ h => h.2)) (fun _ h => h.1)); have n1_ := Aside0.mk (KeepBut.trans (by repeat (first | (with_reducible first | exact HK.out | apply KeepBut.set_ | apply keep_drewN | apply keep_drew | apply keep_alloc) | exact HK.out)) hk (.inl rfl)); have n2_ := Aside0.mk (hb); have n3_ := Aside0.mk (hi); clear HO_3; clear HK; clear HB; clear HI0; have HO_3 := n0_; have HK := n1_; have HB := n2_; have HI0 := n3_; clear n0_ n1_ n2_ n3_; (try clear hb); (try clear hb2); (try clear hk); (try clear hi)))
     go_ret
     exact ⟨_, EZa, by (with_reducible repeat (first | apply Kd.R_alloc | apply Kd.R_drewN | apply Kd.R_drew)); exact HO_3.out, by repeat (first | (with_reducible first | exact HI0.out | apply IsS129.alloc | apply IsS129.drewN | apply IsS129.drew | apply IsS129.set_1 | apply IsS129.set_2 | apply IsS129.set_3) | exact HI0.out), by repeat (first | (with_reducible first | exact HB.out | apply below_alloc | apply pw_below_drewN | apply below_drew1 | refine below_set ?_ (IsS129.ge HI0.out)) | exact HB.out), by repeat (first | (with_reducible first | exact HK.out | apply KeepBut.set_ | apply keep_drewN | apply keep_drew | apply keep_alloc) | exact HK.out)⟩
def spec_DrawDnText.f (k : Nat) (l0 : List Int) : Option ((List (S42))) := (spec_l01Source.f k l0).bind fun bt361 => ((spec_l01Src_l02Dn.f k bt361.1 bt361.2.1 bt361.2.2.1 bt361.2.2.2).bind fun bt366 => (some bt366.1))
theorem spec_DrawDnText.mono : ∀ a0 k, LeO (spec_DrawDnText.f k a0) (spec_DrawDnText.f (k + 1) a0) := by
 intro a0 k
 unfold spec_DrawDnText.f
 repeat' first
   | (with_reducible exact spec_l01Source.mono _ _)
   | (with_reducible exact spec_l01Src_l02Dn.mono _ _ _ _ _)
   | (with_reducible exact LeO.refl _)
   | (with_reducible exact LeO.none _)
   | (with_reducible refine LeO.ite ?_ ?_)
   | (with_reducible refine LeO.bind ?_ (fun _ => ?_))
   | exact spec_l01Source.mono _ _
   | exact spec_l01Src_l02Dn.mono _ _ _ _ _
   | exact LeO.none _
   | refine LeO.ite ?_ ?_
   | refine LeO.bind ?_ (fun _ => ?_)
set_option maxHeartbeats 8000000 in
set_option maxRecDepth 100000 in
theorem spec_DrawDnText.calls (k : Nat) (A0 : Option Addr) (c0 : Nat) (l0 : List Int) (r : List (S42)) (w : World) (hr0 : Kd.C (Kd.int .u8) w A0 l0.length l0) (hc0 : l0.length ≤ c0) (h : spec_DrawDnText.f k l0 = some r) :
  Calls Tryd.prog 59 #[.slice A0 l0.length c0] w fun e w' => ∃ v0_ : Value, e = .returned (v0_) ∧ Kd.R k42 42 w' w.heap.size (fun _ => True) v0_ r ∧ Below w.heap.size w w' := by
 have HR0 := Aside0.mk hr0
 have HC0 := Aside0.mk hc0
 clear hr0 hc0
 have HB := Aside0.mk (Below.refl w.heap.size w)
 have H : ((spec_l01Source.f k l0).bind fun bt361 => ((spec_l01Src_l02Dn.f k bt361.1 bt361.2.1 bt361.2.2.1 bt361.2.2.2).bind fun bt366 => (some bt366.1))) = some r := h
 clear h
 replace H := Option.bind_eq_some_iff.mp H
 obtain ⟨⟨t361, t362, t363, t364⟩, A20, H⟩ := H
 replace H : ((spec_l01Src_l02Dn.f k t361 t362 t363 t364).bind fun bt366 => (some bt366.1)) = some r := H
 have A2 := Aside0.mk A20
 clear A20
 replace H := Option.bind_eq_some_iff.mp H
 obtain ⟨⟨t366, t369, t370, t371⟩, A30, H⟩ := H
 replace H : (some t366) = some r := H
 have A3 := Aside0.mk A30
 clear A30
 obtain rfl := Option.some.inj H
 go_enter Tryd.func59, Tryd.ntmps59
 go_wp2_with (first | ((with_reducible refine gate_callee (f := 76) rfl ?_); refine goesL_ (some 4) rfl rfl Tryd.func76 (by kernel_rfl) rfl #[.slice A0 l0.length c0] rfl MPz ?_; (with_reducible refine (spec_l01Source.calls k _ _ l0 t361 t362 t363 t364 w _ ?side1 ?side2 ?side3 A2.out).mono ?_); (case side1 => repeat (first | (with_reducible first | exact HB.out | apply below_alloc | apply pw_below_drewN | apply below_drew1) | exact HB.out)); (case side2 => exact HR0.out); (case side3 => exact HC0.out); rintro e w4 ⟨g365, rfl, hi, hb, hb2⟩; refine ⟨_, rfl, ?_⟩; have n0_ := Aside0.mk (hb); have n1_ := Aside0.mk (hi); clear HB; have HB := n0_; have HI365 := n1_; clear n0_ n1_; (try clear hb); (try clear hb2); (try clear hk); (try clear hi)) | ((with_reducible refine gate_callee (f := 77) rfl ?_); refine goesL_ (some 5) rfl rfl Tryd.func77 (by kernel_rfl) rfl #[.pointer (some ⟨g365, 0, none⟩)] rfl MPz ?_; (with_reducible refine (spec_l01Src_l02Dn.calls k g365 t361 t362 t363 t364 t366 t369 t370 t371 w _ ?side1 ?side2 A3.out).mono ?_); (case side1 => repeat (first | (with_reducible first | exact HI365.out | apply IsS129.alloc | apply IsS129.drewN | apply IsS129.drew | apply IsS129.set_1 | apply IsS129.set_2 | apply IsS129.set_3) | exact HI365.out)); (case side2 => repeat (first | (with_reducible first | exact HB.out | apply below_alloc | apply pw_below_drewN | apply below_drew1 | refine below_set ?_ (IsS129.ge HI365.out)) | exact HB.out)); rintro e w5 ⟨v367, rfl, ho0, hi, hb, hk⟩; refine ⟨_, rfl, ?_⟩; have n0_ := Aside0.mk (Kd.R_lower ho0 (below_size (by repeat (first | (with_reducible first | exact HB.out | apply below_alloc | apply pw_below_drewN | apply below_drew1 | refine below_set ?_ (IsS129.ge HI365.out)) | exact HB.out)))); have n1_ := Aside0.mk (hb); have n2_ := Aside0.mk (hi); clear HB; clear HI365; have HO368 := n0_; have HB := n1_; have HI365 := n2_; clear n0_ n1_ n2_; (try clear hb); (try clear hb2); (try clear hk); (try clear hi); (try clear ho0)))
 go_ret
 exact ⟨_, EZa, by (with_reducible repeat (first | apply Kd.R_alloc | apply Kd.R_drewN | apply Kd.R_drew)); exact HO368.out, by repeat (first | (with_reducible first | exact HB.out | apply below_alloc | apply pw_below_drewN | apply below_drew1 | refine below_set ?_ (IsS129.ge HI365.out)) | exact HB.out)⟩
def spec_l01Src_spoil.j0 : Nat → ByteArray → Int → ByteArray → Bool → List Int → Int → Int → Int → Option (ByteArray × Int × Int × Int)
 | 0, _, _, _, _, _, _, _, _ => none
 | k + 1, x1, x5, x6, x24, x1000, x1001, x1002, x1003 => if x24 = true then (if 0 ≤ x5 then (if x5 ≤ (x1.size : Int) then (if (x1.extract 0 (x5 : Int).toNat).size + x6.size ≤ 9223372036854775807 then (if ((x1.extract 0 (x5 : Int).toNat) ++ x6).size + (x1.extract (x5 : Int).toNat x1.size).size ≤ 9223372036854775807 then (some (((x1.extract 0 (x5 : Int).toNat) ++ x6) ++ (x1.extract (x5 : Int).toNat x1.size), x1001, x1002, x1003)) else (none)) else (none)) else (none)) else (none)) else ((spec_l01Src_one.f x1000 x1001 x1002 x1003 2).bind fun bt387 => (if bt387.1 = true then (if 0 ≤ x5 then (if x5 ≤ (x1.size : Int) then (if 0 ≤ (wrap64 (x5 + 1)) then (if (wrap64 (x5 + 1)) ≤ (x1.size : Int) then (if (x1.extract 0 (x5 : Int).toNat).size + (x1.extract ((wrap64 (x5 + 1)) : Int).toNat x1.size).size ≤ 9223372036854775807 then (some ((x1.extract 0 (x5 : Int).toNat) ++ (x1.extract ((wrap64 (x5 + 1)) : Int).toNat x1.size), bt387.2.1, bt387.2.2.1, bt387.2.2.2)) else (none)) else (none)) else (none)) else (none)) else (none)) else (if 0 ≤ x5 then (if x5 ≤ (x1.size : Int) then (if (x1.extract 0 (x5 : Int).toNat).size + x6.size ≤ 9223372036854775807 then (if 0 ≤ (wrap64 (x5 + 1)) then (if (wrap64 (x5 + 1)) ≤ (x1.size : Int) then (if ((x1.extract 0 (x5 : Int).toNat) ++ x6).size + (x1.extract ((wrap64 (x5 + 1)) : Int).toNat x1.size).size ≤ 9223372036854775807 then (some (((x1.extract 0 (x5 : Int).toNat) ++ x6) ++ (x1.extract ((wrap64 (x5 + 1)) : Int).toNat x1.size), bt387.2.1, bt387.2.2.1, bt387.2.2.2)) else (none)) else (none)) else (none)) else (none)) else (none)) else (none))))
def spec_l01Src_spoil.f (k : Nat) (s0_0 : List Int) (s0_1 : Int) (s0_2 : Int) (s0_3 : Int) (a1 : ByteArray) : Option (ByteArray × Int × Int × Int) := (spec_l01Src_n.f s0_0 s0_1 s0_2 s0_3 (wrap64 ((a1.size : Int) + 1))).bind fun bt372 => ((spec_l01Src_n.f s0_0 bt372.2.1 bt372.2.2.1 bt372.2.2.2 17).bind fun bt376 => (if 0 ≤ bt376.1 then (if bt376.1 < 17 then ((some (([bt (⟨#[32, 10, 48, 97, 45, 110, 44, 58, 93, 255, 40, 120, 126, 49, 128, 225, 59]⟩ : ByteArray) bt376.1] : List Int) : List Int)).bind fun y380 => (if bt372.1 = (a1.size : Int) then (spec_l01Src_spoil.j0 k a1 bt372.1 (strOfNums y380) true s0_0 bt376.2.1 bt376.2.2.1 bt376.2.2.2) else ((spec_l01Src_one.f s0_0 bt376.2.1 bt376.2.2.1 bt376.2.2.2 3).bind fun bt383 => (spec_l01Src_spoil.j0 k a1 bt372.1 (strOfNums y380) bt383.1 s0_0 bt383.2.1 bt383.2.2.1 bt383.2.2.2)))) else (none)) else (none)))
theorem spec_l01Src_spoil.mono_l : ∀ k, (∀ y0 y1 y2 y3 y4 y5 y6 y7, LeO (spec_l01Src_spoil.j0 k y0 y1 y2 y3 y4 y5 y6 y7) (spec_l01Src_spoil.j0 (k + 1) y0 y1 y2 y3 y4 y5 y6 y7))
 | 0 => fun _ _ _ _ _ _ _ _ r h => by simp [spec_l01Src_spoil.j0] at h
 | k + 1 => by
  have ih0 := spec_l01Src_spoil.mono_l k
  ·intro y0 y1 y2 y3 y4 y5 y6 y7
   unfold spec_l01Src_spoil.j0
   repeat' first
   | (with_reducible exact ih0 _ _ _ _ _ _ _ _)
   | (with_reducible exact LeO.refl _)
   | (with_reducible exact LeO.none _)
   | (with_reducible refine LeO.ite ?_ ?_)
   | (with_reducible refine LeO.bind ?_ (fun _ => ?_))
   | exact ih0 _ _ _ _ _ _ _ _
   | exact LeO.none _
   | refine LeO.ite ?_ ?_
   | refine LeO.bind ?_ (fun _ => ?_)
theorem spec_l01Src_spoil.mono : ∀ a0 a1 a2 a3 a4 k, LeO (spec_l01Src_spoil.f k a0 a1 a2 a3 a4) (spec_l01Src_spoil.f (k + 1) a0 a1 a2 a3 a4) := by
 intro a0 a1 a2 a3 a4 k
 have ih0 := spec_l01Src_spoil.mono_l k
 unfold spec_l01Src_spoil.f
 repeat' first
   | (with_reducible exact ih0 _ _ _ _ _ _ _ _)
   | (with_reducible exact LeO.refl _)
   | (with_reducible exact LeO.none _)
   | (with_reducible refine LeO.ite ?_ ?_)
   | (with_reducible refine LeO.bind ?_ (fun _ => ?_))
   | exact ih0 _ _ _ _ _ _ _ _
   | exact LeO.none _
   | refine LeO.ite ?_ ?_
   | refine LeO.bind ?_ (fun _ => ?_)
set_option maxHeartbeats 8000000 in
set_option maxRecDepth 100000 in
theorem spec_l01Src_spoil.calls (k : Nat) (g : Nat) (s0_0 : List Int) (s0_1 : Int) (s0_2 : Int) (s0_3 : Int) (a1 : ByteArray) (r1 : ByteArray) (r2 : Int) (r3 : Int) (r4 : Int) (w0 w : World) (hI : IsS129 w0 w g s0_0 s0_1 s0_2 s0_3) (hB : Below w0.heap.size w0 w) (h : spec_l01Src_spoil.f k s0_0 s0_1 s0_2 s0_3 a1 = some (r1, r2, r3, r4)) :
  Calls Tryd.prog 109 #[.pointer (some ⟨g, 0, none⟩), .string a1] w fun e w' => e = .returned (.string r1) ∧ IsS129 w0 w' g s0_0 r2 r3 r4 ∧ Below w0.heap.size w0 w' ∧ KeepBut w w' g none := by
 have HI0 := Aside0.mk hI
 have HK := Aside0.mk (KeepBut.refl w g none)
 have HL := Aside0.mk hB.size
 clear hI
 have HW0 := Aside0.mk hB.size
 have HB := Aside0.mk hB
 clear hB
 have H : ((spec_l01Src_n.f s0_0 s0_1 s0_2 s0_3 (wrap64 ((a1.size : Int) + 1))).bind fun bt372 => ((spec_l01Src_n.f s0_0 bt372.2.1 bt372.2.2.1 bt372.2.2.2 17).bind fun bt376 => (if 0 ≤ bt376.1 then (if bt376.1 < 17 then ((some (([bt (⟨#[32, 10, 48, 97, 45, 110, 44, 58, 93, 255, 40, 120, 126, 49, 128, 225, 59]⟩ : ByteArray) bt376.1] : List Int) : List Int)).bind fun y380 => (if bt372.1 = (a1.size : Int) then (spec_l01Src_spoil.j0 k a1 bt372.1 (strOfNums y380) true s0_0 bt376.2.1 bt376.2.2.1 bt376.2.2.2) else ((spec_l01Src_one.f s0_0 bt376.2.1 bt376.2.2.1 bt376.2.2.2 3).bind fun bt383 => (spec_l01Src_spoil.j0 k a1 bt372.1 (strOfNums y380) bt383.1 s0_0 bt383.2.1 bt383.2.2.1 bt383.2.2.2)))) else (none)) else (none)))) = some (r1, r2, r3, r4) := h
 clear h
 replace H := Option.bind_eq_some_iff.mp H
 obtain ⟨⟨t372, t373, t374, t375⟩, A30, H⟩ := H
 replace H : ((spec_l01Src_n.f s0_0 t373 t374 t375 17).bind fun bt376 => (if 0 ≤ bt376.1 then (if bt376.1 < 17 then ((some (([bt (⟨#[32, 10, 48, 97, 45, 110, 44, 58, 93, 255, 40, 120, 126, 49, 128, 225, 59]⟩ : ByteArray) bt376.1] : List Int) : List Int)).bind fun y380 => (if t372 = (a1.size : Int) then (spec_l01Src_spoil.j0 k a1 t372 (strOfNums y380) true s0_0 bt376.2.1 bt376.2.2.1 bt376.2.2.2) else ((spec_l01Src_one.f s0_0 bt376.2.1 bt376.2.2.1 bt376.2.2.2 3).bind fun bt383 => (spec_l01Src_spoil.j0 k a1 t372 (strOfNums y380) bt383.1 s0_0 bt383.2.1 bt383.2.2.1 bt383.2.2.2)))) else (none)) else (none))) = some (r1, r2, r3, r4) := H
 have A3 := Aside0.mk A30
 clear A30
 replace H := Option.bind_eq_some_iff.mp H
 obtain ⟨⟨t376, t377, t378, t379⟩, A40, H⟩ := H
 replace H : (if 0 ≤ t376 then (if t376 < 17 then ((some (([bt (⟨#[32, 10, 48, 97, 45, 110, 44, 58, 93, 255, 40, 120, 126, 49, 128, 225, 59]⟩ : ByteArray) t376] : List Int) : List Int)).bind fun y380 => (if t372 = (a1.size : Int) then (spec_l01Src_spoil.j0 k a1 t372 (strOfNums y380) true s0_0 t377 t378 t379) else ((spec_l01Src_one.f s0_0 t377 t378 t379 3).bind fun bt383 => (spec_l01Src_spoil.j0 k a1 t372 (strOfNums y380) bt383.1 s0_0 bt383.2.1 bt383.2.2.1 bt383.2.2.2)))) else (none)) else (none)) = some (r1, r2, r3, r4) := H
 have A4 := Aside0.mk A40
 clear A40
 by_cases c5 : 0 ≤ t376
 ·rw [if_pos c5] at H
  have c5b0 : decide (0 ≤ t376) = true := decide_eq_true c5
  clear c5
  by_cases c6 : t376 < 17
  ·rw [if_pos c6] at H
   have c6b0 : decide (t376 < 17) = true := decide_eq_true c6
   clear c6
   obtain ⟨y380, hy380⟩ : ∃ y_ : List Int, y_ = (([bt (⟨#[32, 10, 48, 97, 45, 110, 44, 58, 93, 255, 40, 120, 126, 49, 128, 225, 59]⟩ : ByteArray) t376] : List Int)) := ⟨_, rfl⟩
   replace H : (if t372 = (a1.size : Int) then (spec_l01Src_spoil.j0 k a1 t372 (strOfNums y380) true s0_0 t377 t378 t379) else ((spec_l01Src_one.f s0_0 t377 t378 t379 3).bind fun bt383 => (spec_l01Src_spoil.j0 k a1 t372 (strOfNums y380) bt383.1 s0_0 bt383.2.1 bt383.2.2.1 bt383.2.2.2))) = some (r1, r2, r3, r4) := by first | (rw [hy380]; with_reducible exact H) | (have H2_ := (Option.bind_some _ _).symm.trans H; rw [hy380]; with_reducible exact H2_) | (have H2_ := (Option.bind_some _ _).symm.trans H; with_reducible exact H2_) | with_reducible exact H | (rw [hy380]; exact H) | exact H
   have Ny380 := Aside0.mk hy380
   clear hy380
   have HC8 := Aside0.mk H
   clear H
   go_enter Tryd.func109, Tryd.ntmps109
   go_upto_region 3 with (first | (go_at_call 79; (with_reducible refine (spec_l01Src_n.calls g s0_0 s0_1 s0_2 s0_3 (wrap64 ((a1.size : Int) + 1)) t372 t373 t374 t375 w0 _ ?side1 ?side2 A3.out).mono ?_); (case side1 => repeat (first | (with_reducible first | exact HI0.out | apply IsS129.alloc | apply IsS129.drewN | apply IsS129.drew | apply IsS129.set_1 | apply IsS129.set_2 | apply IsS129.set_3) | exact HI0.out)); (case side2 => repeat (first | (with_reducible first | exact HB.out | apply below_alloc | apply pw_below_drewN | apply below_drew1 | refine below_set ?_ (IsS129.ge HI0.out)) | exact HB.out)); rintro e w9 ⟨rfl, hi, hb, hk⟩; have n0_ := Aside0.mk (KeepBut.trans (by repeat (first | (with_reducible first | exact HK.out | apply KeepBut.set_ | apply keep_drewN | apply keep_drew | apply keep_alloc) | exact HK.out)) hk (.inl rfl)); have n1_ := Aside0.mk (hb); have n2_ := Aside0.mk (hi); clear HK; clear HB; clear HI0; have HK := n0_; have HB := n1_; have HI0 := n2_; clear n0_ n1_ n2_; (try clear hb); (try clear hb2); (try clear hk); (try clear hi)) | (go_at_call 79; (with_reducible refine (spec_l01Src_n.calls g s0_0 t373 t374 t375 17 t376 t377 t378 t379 w0 _ ?side1 ?side2 A4.out).mono ?_); (case side1 => repeat (first | (with_reducible first | exact HI0.out | apply IsS129.alloc | apply IsS129.drewN | apply IsS129.drew | apply IsS129.set_1 | apply IsS129.set_2 | apply IsS129.set_3) | exact HI0.out)); (case side2 => repeat (first | (with_reducible first | exact HB.out | apply below_alloc | apply pw_below_drewN | apply below_drew1 | refine below_set ?_ (IsS129.ge HI0.out)) | exact HB.out)); rintro e w10 ⟨rfl, hi, hb, hk⟩; have n0_ := Aside0.mk (KeepBut.trans (by repeat (first | (with_reducible first | exact HK.out | apply KeepBut.set_ | apply keep_drewN | apply keep_drew | apply keep_alloc) | exact HK.out)) hk (.inl rfl)); have n1_ := Aside0.mk (hb); have n2_ := Aside0.mk (hi); clear HK; clear HB; clear HI0; have HK := n0_; have HB := n1_; have HI0 := n2_; clear n0_ n1_ n2_; (try clear hb); (try clear hb2); (try clear hk); (try clear hi); have p7 : 0 ≤ (t376 : Int) := ODz; have q7 : t376 < (17 : Int) := ODz; have hx7 := bt_at (⟨#[32, 10, 48, 97, 45, 110, 44, 58, 93, 255, 40, 120, 126, 49, 128, 225, 59]⟩ : ByteArray) t376; replace p7 := eq_true p7; replace q7 := eq_true q7) | ((with_reducible refine gate_dst (N := 15) rfl ?_); refine Kd.R_lit (Kd.int .u8) _ 5 ?hg (N := 15) ?hd (xs := ([bt (⟨#[32, 10, 48, 97, 45, 110, 44, 58, 93, 255, 40, 120, 126, 49, 128, 225, 59]⟩ : ByteArray) t376] : List Int)) (inner := [.int .u8 (bt (⟨#[32, 10, 48, 97, 45, 110, 44, 58, 93, 255, 40, 120, 126, 49, 128, 225, 59]⟩ : ByteArray) t376)]) (ok := fun _ => True) (okp := fun _ => True) ?hr ?hp (fun _ hk => hk) trivial (Below.refl _ _) (Nat.le_refl _) (by simp) ?_; (case hd => rfl); (case hg => rfl); (case hr => first | (go_simp; done) | (go_simp; rfl)); (case hp => exact (Reps.one (show Kd.M (Kd.int .u8) _ _ _ (bt (⟨#[32, 10, 48, 97, 45, 110, 44, 58, 93, 255, 40, 120, 126, 49, 128, 225, 59]⟩ : ByteArray) t376) [.int .u8 (bt (⟨#[32, 10, 48, 97, 45, 110, 44, 58, 93, 255, 40, 120, 126, 49, 128, 225, 59]⟩ : ByteArray) t376)] from rfl) (Reps.none _ _))); intro v381 w11 ho12 hb hg_ hnew_; clear hg_ hnew_; (first | rw [← Ny380.out] at ho12 | (simp only [Int.reduceToNat] at ho12; rw [← Ny380.out] at ho12)); have n0_ := Aside0.mk (Kd.R_lower ho12 (keep_size (w := w) (g := g) (row := none) (by repeat (first | (with_reducible first | exact HK.out | apply KeepBut.set_ | apply keep_drewN | apply keep_drew | apply keep_alloc) | exact HK.out)))); have n1_ := Aside0.mk (IsS129.below (by repeat (first | (with_reducible first | exact HI0.out | apply IsS129.alloc | apply IsS129.drewN | apply IsS129.drew | apply IsS129.set_1 | apply IsS129.set_2 | apply IsS129.set_3) | exact HI0.out)) hb); have n2_ := Aside0.mk (KeepBut.trans (by repeat (first | (with_reducible first | exact HK.out | apply KeepBut.set_ | apply keep_drewN | apply keep_drew | apply keep_alloc) | exact HK.out)) (KeepBut.of_below hb g none) (.inl rfl)); have n3_ := Aside0.mk (below_step (by repeat (first | (with_reducible first | exact HB.out | apply below_alloc | apply pw_below_drewN | apply below_drew1 | refine below_set ?_ (IsS129.ge HI0.out)) | exact HB.out)) hb); clear HI0; clear HK; clear HB; have HO382 := n0_; have HI0 := n1_; have HK := n2_; have HB := n3_; clear n0_ n1_ n2_ n3_; clear hb ho12; have hcv13 := own_string (P := Tryd.prog) Tryd.underlying36 Tryd.underlying5 Tryd.underlying9 (Kd.own_of_R HO382.out)))
   repeat (go_quiet (first | (go_at_call 79; (with_reducible refine (spec_l01Src_n.calls g s0_0 s0_1 s0_2 s0_3 (wrap64 ((a1.size : Int) + 1)) t372 t373 t374 t375 w0 _ ?side1 ?side2 A3.out).mono ?_); (case side1 => repeat (first | (with_reducible first | exact HI0.out | apply IsS129.alloc | apply IsS129.drewN | apply IsS129.drew | apply IsS129.set_1 | apply IsS129.set_2 | apply IsS129.set_3) | exact HI0.out)); (case side2 => repeat (first | (with_reducible first | exact HB.out | apply below_alloc | apply pw_below_drewN | apply below_drew1 | refine below_set ?_ (IsS129.ge HI0.out)) | exact HB.out)); rintro e w9 ⟨rfl, hi, hb, hk⟩; have n0_ := Aside0.mk (KeepBut.trans (by repeat (first | (with_reducible first | exact HK.out | apply KeepBut.set_ | apply keep_drewN | apply keep_drew | apply keep_alloc) | exact HK.out)) hk (.inl rfl)); have n1_ := Aside0.mk (hb); have n2_ := Aside0.mk (hi); clear HK; clear HB; clear HI0; have HK := n0_; have HB := n1_; have HI0 := n2_; clear n0_ n1_ n2_; (try clear hb); (try clear hb2); (try clear hk); (try clear hi)) | (go_at_call 79; (with_reducible refine (spec_l01Src_n.calls g s0_0 t373 t374 t375 17 t376 t377 t378 t379 w0 _ ?side1 ?side2 A4.out).mono ?_); (case side1 => repeat (first | (with_reducible first | exact HI0.out | apply IsS129.alloc | apply IsS129.drewN | apply IsS129.drew | apply IsS129.set_1 | apply IsS129.set_2 | apply IsS129.set_3) | exact HI0.out)); (case side2 => repeat (first | (with_reducible first | exact HB.out | apply below_alloc | apply pw_below_drewN | apply below_drew1 | refine below_set ?_ (IsS129.ge HI0.out)) | exact HB.out)); rintro e w10 ⟨rfl, hi, hb, hk⟩; have n0_ := Aside0.mk (KeepBut.trans (by repeat (first | (with_reducible first | exact HK.out | apply KeepBut.set_ | apply keep_drewN | apply keep_drew | apply keep_alloc) | exact HK.out)) hk (.inl rfl)); have n1_ := Aside0.mk (hb); have n2_ := Aside0.mk (hi); clear HK; clear HB; clear HI0; have HK := n0_; have HB := n1_; have HI0 := n2_; clear n0_ n1_ n2_; (try clear hb); (try clear hb2); (try clear hk); (try clear hi); have p7 : 0 ≤ (t376 : Int) := ODz; have q7 : t376 < (17 : Int) := ODz; have hx7 := bt_at (⟨#[32, 10, 48, 97, 45, 110, 44, 58, 93, 255, 40, 120, 126, 49, 128, 225, 59]⟩ : ByteArray) t376; replace p7 := eq_true p7; replace q7 := eq_true q7) | ((with_reducible refine gate_dst (N := 15) rfl ?_); refine Kd.R_lit (Kd.int .u8) _ 5 ?hg (N := 15) ?hd (xs := ([bt (⟨#[32, 10, 48, 97, 45, 110, 44, 58, 93, 255, 40, 120, 126, 49, 128, 225, 59]⟩ : ByteArray) t376] : List Int)) (inner := [.int .u8 (bt (⟨#[32, 10, 48, 97, 45, 110, 44, 58, 93, 255, 40, 120, 126, 49, 128, 225, 59]⟩ : ByteArray) t376)]) (ok := fun _ => True) (okp := fun _ => True) ?hr ?hp (fun _ hk => hk) trivial (Below.refl _ _) (Nat.le_refl _) (by simp) ?_; (case hd => rfl); (case hg => rfl); (case hr => first | (go_simp; done) | (go_simp; rfl)); (case hp => exact (Reps.one (show Kd.M (Kd.int .u8) _ _ _ (bt (⟨#[32, 10, 48, 97, 45, 110, 44, 58, 93, 255, 40, 120, 126, 49, 128, 225, 59]⟩ : ByteArray) t376) [.int .u8 (bt (⟨#[32, 10, 48, 97, 45, 110, 44, 58, 93, 255, 40, 120, 126, 49, 128, 225, 59]⟩ : ByteArray) t376)] from rfl) (Reps.none _ _))); intro v381 w11 ho12 hb hg_ hnew_; clear hg_ hnew_; (first | rw [← Ny380.out] at ho12 | (simp only [Int.reduceToNat] at ho12; rw [← Ny380.out] at ho12)); have n0_ := Aside0.mk (Kd.R_lower ho12 (keep_size (w := w) (g := g) (row := none) (by repeat (first | (with_reducible first | exact HK.out | apply KeepBut.set_ | apply keep_drewN | apply keep_drew | apply keep_alloc) | exact HK.out)))); have n1_ := Aside0.mk (IsS129.below (by repeat (first | (with_reducible first | exact HI0.out | apply IsS129.alloc | apply IsS129.drewN | apply IsS129.drew | apply IsS129.set_1 | apply IsS129.set_2 | apply IsS129.set_3) | exact HI0.out)) hb); have n2_ := Aside0.mk (KeepBut.trans (by repeat (first | (with_reducible first | exact HK.out | apply KeepBut.set_ | apply keep_drewN | apply keep_drew | apply keep_alloc) | exact HK.out)) (KeepBut.of_below hb g none) (.inl rfl)); have n3_ := Aside0.mk (below_step (by repeat (first | (with_reducible first | exact HB.out | apply below_alloc | apply pw_below_drewN | apply below_drew1 | refine below_set ?_ (IsS129.ge HI0.out)) | exact HB.out)) hb); clear HI0; clear HK; clear HB; have HO382 := n0_; have HI0 := n1_; have HK := n2_; have HB := n3_; clear n0_ n1_ n2_ n3_; clear hb ho12; have hcv13 := own_string (P := Tryd.prog) Tryd.underlying36 Tryd.underlying5 Tryd.underlying9 (Kd.own_of_R HO382.out))); go_upto_region 3 with (first | (go_at_call 79; (with_reducible refine (spec_l01Src_n.calls g s0_0 s0_1 s0_2 s0_3 (wrap64 ((a1.size : Int) + 1)) t372 t373 t374 t375 w0 _ ?side1 ?side2 A3.out).mono ?_); (case side1 => repeat (first | (with_reducible first | exact HI0.out | apply IsS129.alloc | apply IsS129.drewN | apply IsS129.drew | apply IsS129.set_1 | apply IsS129.set_2 | apply IsS129.set_3) | exact HI0.out)); (case side2 => repeat (first | (with_reducible first | exact HB.out | apply below_alloc | apply pw_below_drewN | apply below_drew1 | refine below_set ?_ (IsS129.ge HI0.out)) | exact HB.out)); rintro e w9 ⟨rfl, hi, hb, hk⟩; have n0_ := Aside0.mk (KeepBut.trans (by repeat (first | (with_reducible first | exact HK.out | apply KeepBut.set_ | apply keep_drewN | apply keep_drew | apply keep_alloc) | exact HK.out)) hk (.inl rfl)); have n1_ := Aside0.mk (hb); have n2_ := Aside0.mk (hi); clear HK; clear HB; clear HI0; have HK := n0_; have HB := n1_; have HI0 := n2_; clear n0_ n1_ n2_; (try clear hb); (try clear hb2); (try clear hk); (try clear hi)) | (go_at_call 79; (with_reducible refine (spec_l01Src_n.calls g s0_0 t373 t374 t375 17 t376 t377 t378 t379 w0 _ ?side1 ?side2 A4.out).mono ?_); (case side1 => repeat (first | (with_reducible first | exact HI0.out | apply IsS129.alloc | apply IsS129.drewN | apply IsS129.drew | apply IsS129.set_1 | apply IsS129.set_2 | apply IsS129.set_3) | exact HI0.out)); (case side2 => repeat (first | (with_reducible first | exact HB.out | apply below_alloc | apply pw_below_drewN | apply below_drew1 | refine below_set ?_ (IsS129.ge HI0.out)) | exact HB.out)); rintro e w10 ⟨rfl, hi, hb, hk⟩; have n0_ := Aside0.mk (KeepBut.trans (by repeat (first | (with_reducible first | exact HK.out | apply KeepBut.set_ | apply keep_drewN | apply keep_drew | apply keep_alloc) | exact HK.out)) hk (.inl rfl)); have n1_ := Aside0.mk (hb); have n2_ := Aside0.mk (hi); clear HK; clear HB; clear HI0; have HK := n0_; have HB := n1_; have HI0 := n2_; clear n0_ n1_ n2_; (try clear hb); (try clear hb2); (try clear hk); (try clear hi); have p7 : 0 ≤ (t376 : Int) := ODz; have q7 : t376 < (17 : Int) := ODz; have hx7 := bt_at (⟨#[32, 10, 48, 97, 45, 110, 44, 58, 93, 255, 40, 120, 126, 49, 128, 225, 59]⟩ : ByteArray) t376; replace p7 := eq_true p7; replace q7 := eq_true q7) | ((with_reducible refine gate_dst (N := 15) rfl ?_); refine Kd.R_lit (Kd.int .u8) _ 5 ?hg (N := 15) ?hd (xs := ([bt (⟨#[32, 10, 48, 97, 45, 110, 44, 58, 93, 255, 40, 120, 126, 49, 128, 225, 59]⟩ : ByteArray) t376] : List Int)) (inner := [.int .u8 (bt (⟨#[32, 10, 48, 97, 45, 110, 44, 58, 93, 255, 40, 120, 126, 49, 128, 225, 59]⟩ : ByteArray) t376)]) (ok := fun _ => True) (okp := fun _ => True) ?hr ?hp (fun _ hk => hk) trivial (Below.refl _ _) (Nat.le_refl _) (by simp) ?_; (case hd => rfl); (case hg => rfl); (case hr => first | (go_simp; done) | (go_simp; rfl)); (case hp => exact (Reps.one (show Kd.M (Kd.int .u8) _ _ _ (bt (⟨#[32, 10, 48, 97, 45, 110, 44, 58, 93, 255, 40, 120, 126, 49, 128, 225, 59]⟩ : ByteArray) t376) [.int .u8 (bt (⟨#[32, 10, 48, 97, 45, 110, 44, 58, 93, 255, 40, 120, 126, 49, 128, 225, 59]⟩ : ByteArray) t376)] from rfl) (Reps.none _ _))); intro v381 w11 ho12 hb hg_ hnew_; clear hg_ hnew_; (first | rw [← Ny380.out] at ho12 | (simp only [Int.reduceToNat] at ho12; rw [← Ny380.out] at ho12)); have n0_ := Aside0.mk (Kd.R_lower ho12 (keep_size (w := w) (g := g) (row := none) (by repeat (first | (with_reducible first | exact HK.out | apply KeepBut.set_ | apply keep_drewN | apply keep_drew | apply keep_alloc) | exact HK.out)))); have n1_ := Aside0.mk (IsS129.below (by repeat (first | (with_reducible first | exact HI0.out | apply IsS129.alloc | apply IsS129.drewN | apply IsS129.drew | apply IsS129.set_1 | apply IsS129.set_2 | apply IsS129.set_3) | exact HI0.out)) hb); have n2_ := Aside0.mk (KeepBut.trans (by repeat (first | (with_reducible first | exact HK.out | apply KeepBut.set_ | apply keep_drewN | apply keep_drew | apply keep_alloc) | exact HK.out)) (KeepBut.of_below hb g none) (.inl rfl)); have n3_ := Aside0.mk (below_step (by repeat (first | (with_reducible first | exact HB.out | apply below_alloc | apply pw_below_drewN | apply below_drew1 | refine below_set ?_ (IsS129.ge HI0.out)) | exact HB.out)) hb); clear HI0; clear HK; clear HB; have HO382 := n0_; have HI0 := n1_; have HK := n2_; have HB := n3_; clear n0_ n1_ n2_ n3_; clear hb ho12; have hcv13 := own_string (P := Tryd.prog) Tryd.underlying36 Tryd.underlying5 Tryd.underlying9 (Kd.own_of_R HO382.out))))
   (try simp only [Act.put, List.setIfInBounds_toArray, List.set_cons_zero, List.set_cons_succ])
   go_cut [24] (fun v24 wc => ∃ (kq : Nat) (x24_7 : Bool) (x1001_7 : Int) (x1002_7 : Int) (x1003_7 : Int), v24 = .bool x24_7 ∧ Aside0 (spec_l01Src_spoil.j0 kq a1 t372 (strOfNums y380) x24_7 s0_0 x1001_7 x1002_7 x1003_7 = some (r1, r2, r3, r4)) ∧ Aside0 (kq ≤ k) ∧ Aside0 (IsS129 w0 wc g s0_0 x1001_7 x1002_7 x1003_7) ∧ Aside0 (KeepBut w wc g none) ∧ Aside0 (Below w0.heap.size w0 wc))
   case first =>
    have H := HC8.out
    clear HC8
    by_cases c14 : t372 = (a1.size : Int)
    ·rw [if_pos c14] at H
     have c14b0 : (t372 == (a1.size : Int)) = true := beq_iff_eq.mpr c14
     have c14b1 : (t372 != (a1.size : Int)) = false := bne_eq_false_iff_eq.mpr c14
     clear c14
     (first | rw [c14b0] | rw [c14v0] | (simp only [i64_w, i32_w]; rw [c14b0]) | (simp only [i64_w, i32_w]; rw [c14v0]) | skip)
     have H' := Aside0.mk H
     clear H
     go_wp2
     repeat (go_quiet (fail); try go_wp2)
     go_meet
     case rel => exact ⟨_, (true), (t377), (t378), (t379), EZc, H', ⟨by first | omega | exact Nat.le_refl _⟩, ⟨by repeat (first | (with_reducible first | exact HI0.out | apply IsS129.alloc | apply IsS129.drewN | apply IsS129.drew | apply IsS129.set_1 | apply IsS129.set_2 | apply IsS129.set_3) | exact HI0.out)⟩, ⟨by repeat (first | (with_reducible first | exact HK.out | apply KeepBut.set_ | apply keep_drewN | apply keep_drew | apply keep_alloc) | exact HK.out)⟩, ⟨by repeat (first | (with_reducible first | exact HB.out | apply below_alloc | apply pw_below_drewN | apply below_drew1 | refine below_set ?_ (IsS129.ge HI0.out)) | exact HB.out)⟩⟩
    ·rw [if_neg c14] at H
     have c14b0 : (t372 == (a1.size : Int)) = false := beq_eq_false_iff_ne.mpr c14
     have c14b1 : (t372 != (a1.size : Int)) = true := bne_iff_ne.mpr c14
     (first | rw [c14b0] | rw [c14v0] | (simp only [i64_w, i32_w]; rw [c14b0]) | (simp only [i64_w, i32_w]; rw [c14v0]) | skip)
     replace H := Option.bind_eq_some_iff.mp H
     obtain ⟨⟨t383, t384, t385, t386⟩, A150, H⟩ := H
     replace H : (spec_l01Src_spoil.j0 k a1 t372 (strOfNums y380) t383 s0_0 t384 t385 t386) = some (r1, r2, r3, r4) := H
     have A15 := Aside0.mk A150
     clear A150
     have H' := Aside0.mk H
     clear H
     go_wp2_with (first | (go_at_call 78; (with_reducible refine (spec_l01Src_one.calls g s0_0 t377 t378 t379 3 t383 t384 t385 t386 w0 _ ?side1 ?side2 A15.out).mono ?_); (case side1 => repeat (first | (with_reducible first | exact HI0.out | apply IsS129.alloc | apply IsS129.drewN | apply IsS129.drew | apply IsS129.set_1 | apply IsS129.set_2 | apply IsS129.set_3) | exact HI0.out)); (case side2 => repeat (first | (with_reducible first | exact HB.out | apply below_alloc | apply pw_below_drewN | apply below_drew1 | refine below_set ?_ (IsS129.ge HI0.out)) | exact HB.out)); rintro e w16 ⟨rfl, hi, hb, hk⟩; have n0_ := Aside0.mk (Kd.R_mono (Kd.R_keep (IsS129.apart (show IsS129 w0 _ g s0_0 t377 t378 t379 from by repeat (first | (with_reducible first | exact HI0.out | apply IsS129.alloc | apply IsS129.drewN | apply IsS129.drew | apply IsS129.set_1 | apply IsS129.set_2 | apply IsS129.set_3) | exact HI0.out)) (by (with_reducible repeat (first | apply Kd.R_alloc | apply Kd.R_drewN | apply Kd.R_drew)); exact HO382.out) (by decide)) hk (fun _ h => h.2)) (fun _ h => h.1)); have n1_ := Aside0.mk (KeepBut.trans (by repeat (first | (with_reducible first | exact HK.out | apply KeepBut.set_ | apply keep_drewN | apply keep_drew | apply keep_alloc) | exact HK.out)) hk (.inl rfl)); have n2_ := Aside0.mk (hb); have n3_ := Aside0.mk (hi); clear HO382; clear HK; clear HB; clear HI0; have HO382 := n0_; have HK := n1_; have HB := n2_; have HI0 := n3_; clear n0_ n1_ n2_ n3_; (try clear hb); (try clear hb2); (try clear hk); (try clear hi)))
     repeat (go_quiet (first | (go_at_call 78; (with_reducible refine (spec_l01Src_one.calls g s0_0 t377 t378 t379 3 t383 t384 t385 t386 w0 _ ?side1 ?side2 A15.out).mono ?_); (case side1 => repeat (first | (with_reducible first | exact HI0.out | apply IsS129.alloc | apply IsS129.drewN | apply IsS129.drew | apply IsS129.set_1 | apply IsS129.set_2 | apply IsS129.set_3) | exact HI0.out)); (case side2 => repeat (first | (with_reducible first | exact HB.out | apply below_alloc | apply pw_below_drewN | apply below_drew1 | refine below_set ?_ (IsS129.ge HI0.out)) | exact HB.out)); rintro e w16 ⟨rfl, hi, hb, hk⟩; have n0_ := Aside0.mk (Kd.R_mono (Kd.R_keep (IsS129.apart (show IsS129 w0 _ g s0_0 t377 t378 t379 from by repeat (first | (with_reducible first | exact HI0.out | apply IsS129.alloc | apply IsS129.drewN | apply IsS129.drew | apply IsS129.set_1 | apply IsS129.set_2 | apply IsS129.set_3) | exact HI0.out)) (by (with_reducible repeat (first | apply Kd.R_alloc | apply Kd.R_drewN | apply Kd.R_drew)); exact HO382.out) (by decide)) hk (fun _ h => h.2)) (fun _ h => h.1)); have n1_ := Aside0.mk (KeepBut.trans (by repeat (first | (with_reducible first | exact HK.out | apply KeepBut.set_ | apply keep_drewN | apply keep_drew | apply keep_alloc) | exact HK.out)) hk (.inl rfl)); have n2_ := Aside0.mk (hb); have n3_ := Aside0.mk (hi); clear HO382; clear HK; clear HB; clear HI0; have HO382 := n0_; have HK := n1_; have HB := n2_; have HI0 := n3_; clear n0_ n1_ n2_ n3_; (try clear hb); (try clear hb2); (try clear hk); (try clear hi))); try go_wp2_with (first | (go_at_call 78; (with_reducible refine (spec_l01Src_one.calls g s0_0 t377 t378 t379 3 t383 t384 t385 t386 w0 _ ?side1 ?side2 A15.out).mono ?_); (case side1 => repeat (first | (with_reducible first | exact HI0.out | apply IsS129.alloc | apply IsS129.drewN | apply IsS129.drew | apply IsS129.set_1 | apply IsS129.set_2 | apply IsS129.set_3) | exact HI0.out)); (case side2 => repeat (first | (with_reducible first | exact HB.out | apply below_alloc | apply pw_below_drewN | apply below_drew1 | refine below_set ?_ (IsS129.ge HI0.out)) | exact HB.out)); rintro e w16 ⟨rfl, hi, hb, hk⟩; have n0_ := Aside0.mk (Kd.R_mono (Kd.R_keep (IsS129.apart (show IsS129 w0 _ g s0_0 t377 t378 t379 from by repeat (first | (with_reducible first | exact HI0.out | apply IsS129.alloc | apply IsS129.drewN | apply IsS129.drew | apply IsS129.set_1 | apply IsS129.set_2 | apply IsS129.set_3) | exact HI0.out)) (by (with_reducible repeat (first | apply Kd.R_alloc | apply Kd.R_drewN | apply Kd.R_drew)); exact HO382.out) (by decide)) hk (fun _ h => h.2)) (fun _ h => h.1)); have n1_ := Aside0.mk (KeepBut.trans (by repeat (first | (with_reducible first | exact HK.out | apply KeepBut.set_ | apply keep_drewN | apply keep_drew | apply keep_alloc) | exact HK.out)) hk (.inl rfl)); have n2_ := Aside0.mk (hb); have n3_ := Aside0.mk (hi); clear HO382; clear HK; clear HB; clear HI0; have HO382 := n0_; have HK := n1_; have HB := n2_; have HI0 := n3_; clear n0_ n1_ n2_ n3_; (try clear hb); (try clear hb2); (try clear hk); (try clear hi))))
     go_meet
     case rel => exact ⟨_, (t383), (t384), (t385), (t386), EZc, H', ⟨by first | omega | exact Nat.le_refl _⟩, ⟨by repeat (first | (with_reducible first | exact HI0.out | apply IsS129.alloc | apply IsS129.drewN | apply IsS129.drew | apply IsS129.set_1 | apply IsS129.set_2 | apply IsS129.set_3) | exact HI0.out)⟩, ⟨by repeat (first | (with_reducible first | exact HK.out | apply KeepBut.set_ | apply keep_drewN | apply keep_drew | apply keep_alloc) | exact HK.out)⟩, ⟨by repeat (first | (with_reducible first | exact HB.out | apply below_alloc | apply pw_below_drewN | apply below_drew1 | refine below_set ?_ (IsS129.ge HI0.out)) | exact HB.out)⟩⟩
   case rest =>
    clear HC8
    try clear c1
    try clear hcv1
    try clear p2
    try clear c5
    try clear c5b0
    try clear c6
    try clear c6b0
    try clear p6
    try clear p7
    try clear q7
    try clear hx7
    try clear c10
    try clear hcv13
    try clear c14
    try clear c14b0
    try clear c14b1
    try clear p7
    try clear q7
    obtain ⟨kq, x24_7, x1001_7, x1002_7, x1003_7, rfl, HA, HJ7, HI0, HK, HB⟩ := hcut
    cases kq with
    | zero => exact absurd HA.out (by simp [spec_l01Src_spoil.j0])
    | succ kj7 =>
     have H := HA.out
     clear HA
     simp only [spec_l01Src_spoil.j0] at H
     by_cases c17 : x24_7 = true
     ·subst c17
      have H1 : (if 0 ≤ t372 then (if t372 ≤ (a1.size : Int) then (if (a1.extract 0 (t372 : Int).toNat).size + (strOfNums y380).size ≤ 9223372036854775807 then (if ((a1.extract 0 (t372 : Int).toNat) ++ (strOfNums y380)).size + (a1.extract (t372 : Int).toNat a1.size).size ≤ 9223372036854775807 then (some (((a1.extract 0 (t372 : Int).toNat) ++ (strOfNums y380)) ++ (a1.extract (t372 : Int).toNat a1.size), x1001_7, x1002_7, x1003_7)) else (none)) else (none)) else (none)) else (none)) = some (r1, r2, r3, r4) := by rw [if_pos rfl] at H; exact H
      clear H
      have H := H1
      clear H1
      by_cases c18 : 0 ≤ t372
      ·rw [if_pos c18] at H
       have c18b0 := eq_true c18
       have c18b1 : decide (0 ≤ t372) = true := decide_eq_true c18
       clear c18
       by_cases c19 : t372 ≤ (a1.size : Int)
       ·rw [if_pos c19] at H
        have c19b0 := eq_true c19
        have c19b1 : decide (t372 ≤ (a1.size : Int)) = true := decide_eq_true c19
        clear c19
        by_cases c20 : (a1.extract 0 (t372 : Int).toNat).size + (strOfNums y380).size ≤ 9223372036854775807
        ·rw [if_pos c20] at H
         (try (have c20m := c20; simp only [ByteArray.size_extract, ByteArray.size_append, Nat.min_self] at c20m; replace c20m := eq_true c20m))
         have c20b0 := eq_true c20
         have c20b1 : decide ((a1.extract 0 (t372 : Int).toNat).size + (strOfNums y380).size ≤ 9223372036854775807) = true := decide_eq_true c20
         try have c20b2 : (9223372036854775807 < (a1.extract 0 (t372 : Int).toNat).size + (strOfNums y380).size) = False := eq_false (Nat.not_lt.2 c20)
         have c21b0 := eq_true (ODz : 0 ≤ t372)
         have c22b0 := eq_true (ODz : t372 ≤ (a1.size : Int))
         by_cases c23 : ((a1.extract 0 (t372 : Int).toNat) ++ (strOfNums y380)).size + (a1.extract (t372 : Int).toNat a1.size).size ≤ 9223372036854775807
         ·rw [if_pos c23] at H
          (try (have c23m := c23; simp only [ByteArray.size_extract, ByteArray.size_append, Nat.min_self] at c23m; replace c23m := eq_true c23m))
          have c23b0 := eq_true c23
          have c23b1 : decide (((a1.extract 0 (t372 : Int).toNat) ++ (strOfNums y380)).size + (a1.extract (t372 : Int).toNat a1.size).size ≤ 9223372036854775807) = true := decide_eq_true c23
          have c23n : ¬ (9223372036854775807 < ((a1.extract 0 (t372 : Int).toNat) ++ (strOfNums y380)).size + (a1.extract (t372 : Int).toNat a1.size).size) := Nat.not_lt.2 c23
          try simp only [ByteArray.size_append] at c23n
          try have c23b2 : (9223372036854775807 < ((a1.extract 0 (t372 : Int).toNat) ++ (strOfNums y380)).size + (a1.extract (t372 : Int).toNat a1.size).size) = False := eq_false (Nat.not_lt.2 c23)
          simp only [Option.some.injEq, Prod.mk.injEq] at H
          obtain ⟨rfl, rfl, rfl, rfl⟩ := H
          go_wp2
          repeat (go_quiet (fail); try go_wp2)
          go_ret
          exact ⟨EZa, by repeat (first | (with_reducible first | exact HI0.out | apply IsS129.alloc | apply IsS129.drewN | apply IsS129.drew | apply IsS129.set_1 | apply IsS129.set_2 | apply IsS129.set_3) | exact HI0.out), by repeat (first | (with_reducible first | exact HB.out | apply below_alloc | apply pw_below_drewN | apply below_drew1 | refine below_set ?_ (IsS129.ge HI0.out)) | exact HB.out), by repeat (first | (with_reducible first | exact HK.out | apply KeepBut.set_ | apply keep_drewN | apply keep_drew | apply keep_alloc) | exact HK.out)⟩
         ·rw [if_neg c23] at H
          exact absurd H (by simp)
        ·rw [if_neg c20] at H
         exact absurd H (by simp)
       ·rw [if_neg c19] at H
        exact absurd H (by simp)
      ·rw [if_neg c18] at H
       exact absurd H (by simp)
     ·replace c17 := Bool.eq_false_iff.mpr c17
      subst c17
      have H1 : ((spec_l01Src_one.f s0_0 x1001_7 x1002_7 x1003_7 2).bind fun bt387 => (if bt387.1 = true then (if 0 ≤ t372 then (if t372 ≤ (a1.size : Int) then (if 0 ≤ (wrap64 (t372 + 1)) then (if (wrap64 (t372 + 1)) ≤ (a1.size : Int) then (if (a1.extract 0 (t372 : Int).toNat).size + (a1.extract ((wrap64 (t372 + 1)) : Int).toNat a1.size).size ≤ 9223372036854775807 then (some ((a1.extract 0 (t372 : Int).toNat) ++ (a1.extract ((wrap64 (t372 + 1)) : Int).toNat a1.size), bt387.2.1, bt387.2.2.1, bt387.2.2.2)) else (none)) else (none)) else (none)) else (none)) else (none)) else (if 0 ≤ t372 then (if t372 ≤ (a1.size : Int) then (if (a1.extract 0 (t372 : Int).toNat).size + (strOfNums y380).size ≤ 9223372036854775807 then (if 0 ≤ (wrap64 (t372 + 1)) then (if (wrap64 (t372 + 1)) ≤ (a1.size : Int) then (if ((a1.extract 0 (t372 : Int).toNat) ++ (strOfNums y380)).size + (a1.extract ((wrap64 (t372 + 1)) : Int).toNat a1.size).size ≤ 9223372036854775807 then (some (((a1.extract 0 (t372 : Int).toNat) ++ (strOfNums y380)) ++ (a1.extract ((wrap64 (t372 + 1)) : Int).toNat a1.size), bt387.2.1, bt387.2.2.1, bt387.2.2.2)) else (none)) else (none)) else (none)) else (none)) else (none)) else (none)))) = some (r1, r2, r3, r4) := by rw [if_neg (show ¬ (false = true) by decide)] at H; exact H
      clear H
      have H := H1
      clear H1
      replace H := Option.bind_eq_some_iff.mp H
      obtain ⟨⟨t387, t388, t389, t390⟩, A240, H⟩ := H
      replace H : (if t387 = true then (if 0 ≤ t372 then (if t372 ≤ (a1.size : Int) then (if 0 ≤ (wrap64 (t372 + 1)) then (if (wrap64 (t372 + 1)) ≤ (a1.size : Int) then (if (a1.extract 0 (t372 : Int).toNat).size + (a1.extract ((wrap64 (t372 + 1)) : Int).toNat a1.size).size ≤ 9223372036854775807 then (some ((a1.extract 0 (t372 : Int).toNat) ++ (a1.extract ((wrap64 (t372 + 1)) : Int).toNat a1.size), t388, t389, t390)) else (none)) else (none)) else (none)) else (none)) else (none)) else (if 0 ≤ t372 then (if t372 ≤ (a1.size : Int) then (if (a1.extract 0 (t372 : Int).toNat).size + (strOfNums y380).size ≤ 9223372036854775807 then (if 0 ≤ (wrap64 (t372 + 1)) then (if (wrap64 (t372 + 1)) ≤ (a1.size : Int) then (if ((a1.extract 0 (t372 : Int).toNat) ++ (strOfNums y380)).size + (a1.extract ((wrap64 (t372 + 1)) : Int).toNat a1.size).size ≤ 9223372036854775807 then (some (((a1.extract 0 (t372 : Int).toNat) ++ (strOfNums y380)) ++ (a1.extract ((wrap64 (t372 + 1)) : Int).toNat a1.size), t388, t389, t390)) else (none)) else (none)) else (none)) else (none)) else (none)) else (none))) = some (r1, r2, r3, r4) := H
      have A24 := Aside0.mk A240
      clear A240
      by_cases c25 : t387 = true
      ·subst c25
       have H1 : (if 0 ≤ t372 then (if t372 ≤ (a1.size : Int) then (if 0 ≤ (wrap64 (t372 + 1)) then (if (wrap64 (t372 + 1)) ≤ (a1.size : Int) then (if (a1.extract 0 (t372 : Int).toNat).size + (a1.extract ((wrap64 (t372 + 1)) : Int).toNat a1.size).size ≤ 9223372036854775807 then (some ((a1.extract 0 (t372 : Int).toNat) ++ (a1.extract ((wrap64 (t372 + 1)) : Int).toNat a1.size), t388, t389, t390)) else (none)) else (none)) else (none)) else (none)) else (none)) = some (r1, r2, r3, r4) := by rw [if_pos rfl] at H; exact H
       clear H
       have H := H1
       clear H1
       by_cases c26 : 0 ≤ t372
       ·rw [if_pos c26] at H
        have c26b0 := eq_true c26
        have c26b1 : decide (0 ≤ t372) = true := decide_eq_true c26
        clear c26
        by_cases c27 : t372 ≤ (a1.size : Int)
        ·rw [if_pos c27] at H
         have c27b0 := eq_true c27
         have c27b1 : decide (t372 ≤ (a1.size : Int)) = true := decide_eq_true c27
         clear c27
         obtain ⟨ji28, hji28⟩ : ∃ j_ : Int, (wrap64 (t372 + 1)) = j_ := ⟨_, rfl⟩
         replace H : (if 0 ≤ (ji28) then (if (ji28) ≤ (a1.size : Int) then (if (a1.extract 0 (t372 : Int).toNat).size + (a1.extract ((ji28) : Int).toNat a1.size).size ≤ 9223372036854775807 then (some ((a1.extract 0 (t372 : Int).toNat) ++ (a1.extract ((ji28) : Int).toNat a1.size), t388, t389, t390)) else (none)) else (none)) else (none)) = some (r1, r2, r3, r4) := by first | (rw [hji28] at H; exact H) | (simp only [hji28] at H ⊢; exact H)
         (try rw [hji28] at A24)
         have hji28w : (IntKind.i64.wrap (t372 + 1)) = ji28 := (i64_w _).trans hji28
         by_cases c29 : 0 ≤ (ji28)
         ·rw [if_pos c29] at H
          have c29b0 := eq_true c29
          have c29b1 : decide (0 ≤ (ji28)) = true := decide_eq_true c29
          clear c29
          by_cases c30 : (ji28) ≤ (a1.size : Int)
          ·rw [if_pos c30] at H
           have c30b0 := eq_true c30
           have c30b1 : decide ((ji28) ≤ (a1.size : Int)) = true := decide_eq_true c30
           clear c30
           by_cases c31 : (a1.extract 0 (t372 : Int).toNat).size + (a1.extract ((ji28) : Int).toNat a1.size).size ≤ 9223372036854775807
           ·rw [if_pos c31] at H
            (try (have c31m := c31; simp only [ByteArray.size_extract, ByteArray.size_append, Nat.min_self] at c31m; replace c31m := eq_true c31m))
            have c31b0 := eq_true c31
            have c31b1 : decide ((a1.extract 0 (t372 : Int).toNat).size + (a1.extract ((ji28) : Int).toNat a1.size).size ≤ 9223372036854775807) = true := decide_eq_true c31
            try have c31b2 : (9223372036854775807 < (a1.extract 0 (t372 : Int).toNat).size + (a1.extract ((ji28) : Int).toNat a1.size).size) = False := eq_false (Nat.not_lt.2 c31)
            simp only [Option.some.injEq, Prod.mk.injEq] at H
            obtain ⟨rfl, rfl, rfl, rfl⟩ := H
            go_wp2_with (first | (go_at_call 78; (with_reducible refine (spec_l01Src_one.calls g s0_0 x1001_7 x1002_7 x1003_7 2 true t388 t389 t390 w0 _ ?side1 ?side2 A24.out).mono ?_); (case side1 => repeat (first | (with_reducible first | exact HI0.out | apply IsS129.alloc | apply IsS129.drewN | apply IsS129.drew | apply IsS129.set_1 | apply IsS129.set_2 | apply IsS129.set_3) | exact HI0.out)); (case side2 => repeat (first | (with_reducible first | exact HB.out | apply below_alloc | apply pw_below_drewN | apply below_drew1 | refine below_set ?_ (IsS129.ge HI0.out)) | exact HB.out)); rintro e w32 ⟨rfl, hi, hb, hk⟩; have n0_ := Aside0.mk (KeepBut.trans (by repeat (first | (with_reducible first | exact HK.out | apply KeepBut.set_ | apply keep_drewN | apply keep_drew | apply keep_alloc) | exact HK.out)) hk (.inl rfl)); have n1_ := Aside0.mk (hb); have n2_ := Aside0.mk (hi); clear HK; clear HB; clear HI0; have HK := n0_; have HB := n1_; have HI0 := n2_; clear n0_ n1_ n2_; (try clear hb); (try clear hb2); (try clear hk); (try clear hi)))
            repeat (go_quiet (first | (go_at_call 78; (with_reducible refine (spec_l01Src_one.calls g s0_0 x1001_7 x1002_7 x1003_7 2 true t388 t389 t390 w0 _ ?side1 ?side2 A24.out).mono ?_); (case side1 => repeat (first | (with_reducible first | exact HI0.out | apply IsS129.alloc | apply IsS129.drewN | apply IsS129.drew | apply IsS129.set_1 | apply IsS129.set_2 | apply IsS129.set_3) | exact HI0.out)); (case side2 => repeat (first | (with_reducible first | exact HB.out | apply below_alloc | apply pw_below_drewN | apply below_drew1 | refine below_set ?_ (IsS129.ge HI0.out)) | exact HB.out)); rintro e w32 ⟨rfl, hi, hb, hk⟩; have n0_ := Aside0.mk (KeepBut.trans (by repeat (first | (with_reducible first | exact HK.out | apply KeepBut.set_ | apply keep_drewN | apply keep_drew | apply keep_alloc) | exact HK.out)) hk (.inl rfl)); have n1_ := Aside0.mk (hb); have n2_ := Aside0.mk (hi); clear HK; clear HB; clear HI0; have HK := n0_; have HB := n1_; have HI0 := n2_; clear n0_ n1_ n2_; (try clear hb); (try clear hb2); (try clear hk); (try clear hi))); try go_wp2_with (first | (go_at_call 78; (with_reducible refine (spec_l01Src_one.calls g s0_0 x1001_7 x1002_7 x1003_7 2 true t388 t389 t390 w0 _ ?side1 ?side2 A24.out).mono ?_); (case side1 => repeat (first | (with_reducible first | exact HI0.out | apply IsS129.alloc | apply IsS129.drewN | apply IsS129.drew | apply IsS129.set_1 | apply IsS129.set_2 | apply IsS129.set_3) | exact HI0.out)); (case side2 => repeat (first | (with_reducible first | exact HB.out | apply below_alloc | apply pw_below_drewN | apply below_drew1 | refine below_set ?_ (IsS129.ge HI0.out)) | exact HB.out)); rintro e w32 ⟨rfl, hi, hb, hk⟩; have n0_ := Aside0.mk (KeepBut.trans (by repeat (first | (with_reducible first | exact HK.out | apply KeepBut.set_ | apply keep_drewN | apply keep_drew | apply keep_alloc) | exact HK.out)) hk (.inl rfl)); have n1_ := Aside0.mk (hb); have n2_ := Aside0.mk (hi); clear HK; clear HB; clear HI0; have HK := n0_; have HB := n1_; have HI0 := n2_; clear n0_ n1_ n2_; (try clear hb); (try clear hb2); (try clear hk); (try clear hi))))
            go_ret
            exact ⟨by first | rfl | (simp only [bne_nil_, beq_nil_]; rfl) | (simp [errW_none, errW_some] <;> rfl) | (simp only [← hji28]; first | rfl | (simp [errW_none, errW_some] <;> rfl)) | (simp [*, errW_none, errW_some] <;> rfl), by repeat (first | (with_reducible first | exact HI0.out | apply IsS129.alloc | apply IsS129.drewN | apply IsS129.drew | apply IsS129.set_1 | apply IsS129.set_2 | apply IsS129.set_3) | exact HI0.out), by repeat (first | (with_reducible first | exact HB.out | apply below_alloc | apply pw_below_drewN | apply below_drew1 | refine below_set ?_ (IsS129.ge HI0.out)) | exact HB.out), by repeat (first | (with_reducible first | exact HK.out | apply KeepBut.set_ | apply keep_drewN | apply keep_drew | apply keep_alloc) | exact HK.out)⟩
           ·rw [if_neg c31] at H
            exact absurd H (by simp)
          ·rw [if_neg c30] at H
           exact absurd H (by simp)
         ·rw [if_neg c29] at H
          exact absurd H (by simp)
        ·rw [if_neg c27] at H
         exact absurd H (by simp)
       ·rw [if_neg c26] at H
        exact absurd H (by simp)
      ·replace c25 := Bool.eq_false_iff.mpr c25
       subst c25
       have H1 : (if 0 ≤ t372 then (if t372 ≤ (a1.size : Int) then (if (a1.extract 0 (t372 : Int).toNat).size + (strOfNums y380).size ≤ 9223372036854775807 then (if 0 ≤ (wrap64 (t372 + 1)) then (if (wrap64 (t372 + 1)) ≤ (a1.size : Int) then (if ((a1.extract 0 (t372 : Int).toNat) ++ (strOfNums y380)).size + (a1.extract ((wrap64 (t372 + 1)) : Int).toNat a1.size).size ≤ 9223372036854775807 then (some (((a1.extract 0 (t372 : Int).toNat) ++ (strOfNums y380)) ++ (a1.extract ((wrap64 (t372 + 1)) : Int).toNat a1.size), t388, t389, t390)) else (none)) else (none)) else (none)) else (none)) else (none)) else (none)) = some (r1, r2, r3, r4) := by rw [if_neg (show ¬ (false = true) by decide)] at H; exact H
       clear H
       have H := H1
       clear H1
       by_cases c33 : 0 ≤ t372
       ·rw [if_pos c33] at H
        have c33b0 := eq_true c33
        have c33b1 : decide (0 ≤ t372) = true := decide_eq_true c33
        clear c33
        by_cases c34 : t372 ≤ (a1.size : Int)
        ·rw [if_pos c34] at H
         have c34b0 := eq_true c34
         have c34b1 : decide (t372 ≤ (a1.size : Int)) = true := decide_eq_true c34
         clear c34
         by_cases c35 : (a1.extract 0 (t372 : Int).toNat).size + (strOfNums y380).size ≤ 9223372036854775807
         ·rw [if_pos c35] at H
          (try (have c35m := c35; simp only [ByteArray.size_extract, ByteArray.size_append, Nat.min_self] at c35m; replace c35m := eq_true c35m))
          have c35b0 := eq_true c35
          have c35b1 : decide ((a1.extract 0 (t372 : Int).toNat).size + (strOfNums y380).size ≤ 9223372036854775807) = true := decide_eq_true c35
          try have c35b2 : (9223372036854775807 < (a1.extract 0 (t372 : Int).toNat).size + (strOfNums y380).size) = False := eq_false (Nat.not_lt.2 c35)
          obtain ⟨ji36, hji36⟩ : ∃ j_ : Int, (wrap64 (t372 + 1)) = j_ := ⟨_, rfl⟩
          replace H : (if 0 ≤ (ji36) then (if (ji36) ≤ (a1.size : Int) then (if ((a1.extract 0 (t372 : Int).toNat) ++ (strOfNums y380)).size + (a1.extract ((ji36) : Int).toNat a1.size).size ≤ 9223372036854775807 then (some (((a1.extract 0 (t372 : Int).toNat) ++ (strOfNums y380)) ++ (a1.extract ((ji36) : Int).toNat a1.size), t388, t389, t390)) else (none)) else (none)) else (none)) = some (r1, r2, r3, r4) := by first | (rw [hji36] at H; exact H) | (simp only [hji36] at H ⊢; exact H)
          (try rw [hji36] at A24)
          have hji36w : (IntKind.i64.wrap (t372 + 1)) = ji36 := (i64_w _).trans hji36
          by_cases c37 : 0 ≤ (ji36)
          ·rw [if_pos c37] at H
           have c37b0 := eq_true c37
           have c37b1 : decide (0 ≤ (ji36)) = true := decide_eq_true c37
           clear c37
           by_cases c38 : (ji36) ≤ (a1.size : Int)
           ·rw [if_pos c38] at H
            have c38b0 := eq_true c38
            have c38b1 : decide ((ji36) ≤ (a1.size : Int)) = true := decide_eq_true c38
            clear c38
            by_cases c39 : ((a1.extract 0 (t372 : Int).toNat) ++ (strOfNums y380)).size + (a1.extract ((ji36) : Int).toNat a1.size).size ≤ 9223372036854775807
            ·rw [if_pos c39] at H
             (try (have c39m := c39; simp only [ByteArray.size_extract, ByteArray.size_append, Nat.min_self] at c39m; replace c39m := eq_true c39m))
             have c39b0 := eq_true c39
             have c39b1 : decide (((a1.extract 0 (t372 : Int).toNat) ++ (strOfNums y380)).size + (a1.extract ((ji36) : Int).toNat a1.size).size ≤ 9223372036854775807) = true := decide_eq_true c39
             have c39n : ¬ (9223372036854775807 < ((a1.extract 0 (t372 : Int).toNat) ++ (strOfNums y380)).size + (a1.extract ((ji36) : Int).toNat a1.size).size) := Nat.not_lt.2 c39
             try simp only [ByteArray.size_append] at c39n
             try have c39b2 : (9223372036854775807 < ((a1.extract 0 (t372 : Int).toNat) ++ (strOfNums y380)).size + (a1.extract ((ji36) : Int).toNat a1.size).size) = False := eq_false (Nat.not_lt.2 c39)
             simp only [Option.some.injEq, Prod.mk.injEq] at H
             obtain ⟨rfl, rfl, rfl, rfl⟩ := H
             go_wp2_with (first | (go_at_call 78; (with_reducible refine (spec_l01Src_one.calls g s0_0 x1001_7 x1002_7 x1003_7 2 false t388 t389 t390 w0 _ ?side1 ?side2 A24.out).mono ?_); (case side1 => repeat (first | (with_reducible first | exact HI0.out | apply IsS129.alloc | apply IsS129.drewN | apply IsS129.drew | apply IsS129.set_1 | apply IsS129.set_2 | apply IsS129.set_3) | exact HI0.out)); (case side2 => repeat (first | (with_reducible first | exact HB.out | apply below_alloc | apply pw_below_drewN | apply below_drew1 | refine below_set ?_ (IsS129.ge HI0.out)) | exact HB.out)); rintro e w40 ⟨rfl, hi, hb, hk⟩; have n0_ := Aside0.mk (KeepBut.trans (by repeat (first | (with_reducible first | exact HK.out | apply KeepBut.set_ | apply keep_drewN | apply keep_drew | apply keep_alloc) | exact HK.out)) hk (.inl rfl)); have n1_ := Aside0.mk (hb); have n2_ := Aside0.mk (hi); clear HK; clear HB; clear HI0; have HK := n0_; have HB := n1_; have HI0 := n2_; clear n0_ n1_ n2_; (try clear hb); (try clear hb2); (try clear hk); (try clear hi)))
             repeat (go_quiet (first | (go_at_call 78; (with_reducible refine (spec_l01Src_one.calls g s0_0 x1001_7 x1002_7 x1003_7 2 false t388 t389 t390 w0 _ ?side1 ?side2 A24.out).mono ?_); (case side1 => repeat (first | (with_reducible first | exact HI0.out | apply IsS129.alloc | apply IsS129.drewN | apply IsS129.drew | apply IsS129.set_1 | apply IsS129.set_2 | apply IsS129.set_3) | exact HI0.out)); (case side2 => repeat (first | (with_reducible first | exact HB.out | apply below_alloc | apply pw_below_drewN | apply below_drew1 | refine below_set ?_ (IsS129.ge HI0.out)) | exact HB.out)); rintro e w40 ⟨rfl, hi, hb, hk⟩; have n0_ := Aside0.mk (KeepBut.trans (by repeat (first | (with_reducible first | exact HK.out | apply KeepBut.set_ | apply keep_drewN | apply keep_drew | apply keep_alloc) | exact HK.out)) hk (.inl rfl)); have n1_ := Aside0.mk (hb); have n2_ := Aside0.mk (hi); clear HK; clear HB; clear HI0; have HK := n0_; have HB := n1_; have HI0 := n2_; clear n0_ n1_ n2_; (try clear hb); (try clear hb2); (try clear hk); (try clear hi))); try go_wp2_with (first | (go_at_call 78; (with_reducible refine (spec_l01Src_one.calls g s0_0 x1001_7 x1002_7 x1003_7 2 false t388 t389 t390 w0 _ ?side1 ?side2 A24.out).mono ?_); (case side1 => repeat (first | (with_reducible first | exact HI0.out | apply IsS129.alloc | apply IsS129.drewN | apply IsS129.drew | apply IsS129.set_1 | apply IsS129.set_2 | apply IsS129.set_3) | exact HI0.out)); (case side2 => repeat (first | (with_reducible first | exact HB.out | apply below_alloc | apply pw_below_drewN | apply below_drew1 | refine below_set ?_ (IsS129.ge HI0.out)) | exact HB.out)); rintro e w40 ⟨rfl, hi, hb, hk⟩; have n0_ := Aside0.mk (KeepBut.trans (by repeat (first | (with_reducible first | exact HK.out | apply KeepBut.set_ | apply keep_drewN | apply keep_drew | apply keep_alloc) | exact HK.out)) hk (.inl rfl)); have n1_ := Aside0.mk (hb); have n2_ := Aside0.mk (hi); clear HK; clear HB; clear HI0; have HK := n0_; have HB := n1_; have HI0 := n2_; clear n0_ n1_ n2_; (try clear hb); (try clear hb2); (try clear hk); (try clear hi))))
             go_ret
             exact ⟨by first | rfl | (simp only [bne_nil_, beq_nil_]; rfl) | (simp [errW_none, errW_some] <;> rfl) | (simp only [← hji36]; first | rfl | (simp [errW_none, errW_some] <;> rfl)) | (simp [*, errW_none, errW_some] <;> rfl), by repeat (first | (with_reducible first | exact HI0.out | apply IsS129.alloc | apply IsS129.drewN | apply IsS129.drew | apply IsS129.set_1 | apply IsS129.set_2 | apply IsS129.set_3) | exact HI0.out), by repeat (first | (with_reducible first | exact HB.out | apply below_alloc | apply pw_below_drewN | apply below_drew1 | refine below_set ?_ (IsS129.ge HI0.out)) | exact HB.out), by repeat (first | (with_reducible first | exact HK.out | apply KeepBut.set_ | apply keep_drewN | apply keep_drew | apply keep_alloc) | exact HK.out)⟩
            ·rw [if_neg c39] at H
             exact absurd H (by simp)
           ·rw [if_neg c38] at H
            exact absurd H (by simp)
          ·rw [if_neg c37] at H
           exact absurd H (by simp)
         ·rw [if_neg c35] at H
          exact absurd H (by simp)
        ·rw [if_neg c34] at H
         exact absurd H (by simp)
       ·rw [if_neg c33] at H
        exact absurd H (by simp)
  ·rw [if_neg c6] at H
   exact absurd H (by simp)
 ·rw [if_neg c5] at H
  exact absurd H (by simp)
def spec_DrawDnRead.f (k : Nat) (l0 : List Int) : Option (ByteArray) := (spec_l01Source.f k l0).bind fun bt391 => ((spec_l01Src_l02Dn.f k bt391.1 bt391.2.1 bt391.2.2.1 bt391.2.2.2).bind fun bt396 => ((spec_DnText.f k bt396.1).bind fun t402 => ((spec_l01Src_n.f bt391.1 bt396.2.1 bt396.2.2.1 bt396.2.2.2 4).bind fun bt403 => (if bt403.1 = 0 then ((spec_l01Src_spoil.f k bt391.1 bt403.2.1 bt403.2.2.1 bt403.2.2.2 t402).bind fun bt407 => (some bt407.1)) else (if bt403.1 = 1 then ((spec_l01Src_pick.f bt391.1 bt403.2.1 bt403.2.2.1 bt403.2.2.2 (([(⟨#[]⟩ : ByteArray), (⟨#[99, 110, 61]⟩ : ByteArray), (⟨#[99, 110]⟩ : ByteArray), (⟨#[61, 97]⟩ : ByteArray), (⟨#[99, 110, 61, 97, 44]⟩ : ByteArray), (⟨#[99, 110, 61, 92, 97]⟩ : ByteArray), (⟨#[99, 110, 61, 97, 92]⟩ : ByteArray), (⟨#[99, 110, 61, 32, 97]⟩ : ByteArray), (⟨#[99, 110, 61, 97, 44, 111, 117, 61, 98]⟩ : ByteArray), (⟨#[99, 110, 61, 97, 92, 44, 98]⟩ : ByteArray)] : List ByteArray))).bind fun bt414 => (some bt414.1)) else (some t402))))))
theorem spec_DrawDnRead.mono : ∀ a0 k, LeO (spec_DrawDnRead.f k a0) (spec_DrawDnRead.f (k + 1) a0) := by
 intro a0 k
 unfold spec_DrawDnRead.f
 repeat' first
   | (with_reducible exact spec_DnText.mono _ _)
   | (with_reducible exact spec_l01Source.mono _ _)
   | (with_reducible exact spec_l01Src_l02Dn.mono _ _ _ _ _)
   | (with_reducible exact spec_l01Src_spoil.mono _ _ _ _ _ _)
   | (with_reducible exact LeO.refl _)
   | (with_reducible exact LeO.none _)
   | (with_reducible refine LeO.ite ?_ ?_)
   | (with_reducible refine LeO.bind ?_ (fun _ => ?_))
   | exact spec_DnText.mono _ _
   | exact spec_l01Source.mono _ _
   | exact spec_l01Src_l02Dn.mono _ _ _ _ _
   | exact spec_l01Src_spoil.mono _ _ _ _ _ _
   | exact LeO.none _
   | refine LeO.ite ?_ ?_
   | refine LeO.bind ?_ (fun _ => ?_)
set_option maxHeartbeats 8000000 in
set_option maxRecDepth 100000 in
theorem spec_DrawDnRead.calls (k : Nat) (A0 : Option Addr) (c0 : Nat) (l0 : List Int) (r : ByteArray) (w : World) (hr0 : Kd.C (Kd.int .u8) w A0 l0.length l0) (hc0 : l0.length ≤ c0) (h : spec_DrawDnRead.f k l0 = some r) :
  Calls Tryd.prog 61 #[.slice A0 l0.length c0] w fun e w' => e = .returned (.string r) ∧ Below w.heap.size w w' := by
 have HR0 := Aside0.mk hr0
 have HC0 := Aside0.mk hc0
 clear hr0 hc0
 have HB := Aside0.mk (Below.refl w.heap.size w)
 have H : ((spec_l01Source.f k l0).bind fun bt391 => ((spec_l01Src_l02Dn.f k bt391.1 bt391.2.1 bt391.2.2.1 bt391.2.2.2).bind fun bt396 => ((spec_DnText.f k bt396.1).bind fun t402 => ((spec_l01Src_n.f bt391.1 bt396.2.1 bt396.2.2.1 bt396.2.2.2 4).bind fun bt403 => (if bt403.1 = 0 then ((spec_l01Src_spoil.f k bt391.1 bt403.2.1 bt403.2.2.1 bt403.2.2.2 t402).bind fun bt407 => (some bt407.1)) else (if bt403.1 = 1 then ((spec_l01Src_pick.f bt391.1 bt403.2.1 bt403.2.2.1 bt403.2.2.2 (([(⟨#[]⟩ : ByteArray), (⟨#[99, 110, 61]⟩ : ByteArray), (⟨#[99, 110]⟩ : ByteArray), (⟨#[61, 97]⟩ : ByteArray), (⟨#[99, 110, 61, 97, 44]⟩ : ByteArray), (⟨#[99, 110, 61, 92, 97]⟩ : ByteArray), (⟨#[99, 110, 61, 97, 92]⟩ : ByteArray), (⟨#[99, 110, 61, 32, 97]⟩ : ByteArray), (⟨#[99, 110, 61, 97, 44, 111, 117, 61, 98]⟩ : ByteArray), (⟨#[99, 110, 61, 97, 92, 44, 98]⟩ : ByteArray)] : List ByteArray))).bind fun bt414 => (some bt414.1)) else (some t402))))))) = some r := h
 clear h
 replace H := Option.bind_eq_some_iff.mp H
 obtain ⟨⟨t391, t392, t393, t394⟩, A20, H⟩ := H
 replace H : ((spec_l01Src_l02Dn.f k t391 t392 t393 t394).bind fun bt396 => ((spec_DnText.f k bt396.1).bind fun t402 => ((spec_l01Src_n.f t391 bt396.2.1 bt396.2.2.1 bt396.2.2.2 4).bind fun bt403 => (if bt403.1 = 0 then ((spec_l01Src_spoil.f k t391 bt403.2.1 bt403.2.2.1 bt403.2.2.2 t402).bind fun bt407 => (some bt407.1)) else (if bt403.1 = 1 then ((spec_l01Src_pick.f t391 bt403.2.1 bt403.2.2.1 bt403.2.2.2 (([(⟨#[]⟩ : ByteArray), (⟨#[99, 110, 61]⟩ : ByteArray), (⟨#[99, 110]⟩ : ByteArray), (⟨#[61, 97]⟩ : ByteArray), (⟨#[99, 110, 61, 97, 44]⟩ : ByteArray), (⟨#[99, 110, 61, 92, 97]⟩ : ByteArray), (⟨#[99, 110, 61, 97, 92]⟩ : ByteArray), (⟨#[99, 110, 61, 32, 97]⟩ : ByteArray), (⟨#[99, 110, 61, 97, 44, 111, 117, 61, 98]⟩ : ByteArray), (⟨#[99, 110, 61, 97, 92, 44, 98]⟩ : ByteArray)] : List ByteArray))).bind fun bt414 => (some bt414.1)) else (some t402)))))) = some r := H
 have A2 := Aside0.mk A20
 clear A20
 replace H := Option.bind_eq_some_iff.mp H
 obtain ⟨⟨t396, t399, t400, t401⟩, A30, H⟩ := H
 replace H : ((spec_DnText.f k t396).bind fun t402 => ((spec_l01Src_n.f t391 t399 t400 t401 4).bind fun bt403 => (if bt403.1 = 0 then ((spec_l01Src_spoil.f k t391 bt403.2.1 bt403.2.2.1 bt403.2.2.2 t402).bind fun bt407 => (some bt407.1)) else (if bt403.1 = 1 then ((spec_l01Src_pick.f t391 bt403.2.1 bt403.2.2.1 bt403.2.2.2 (([(⟨#[]⟩ : ByteArray), (⟨#[99, 110, 61]⟩ : ByteArray), (⟨#[99, 110]⟩ : ByteArray), (⟨#[61, 97]⟩ : ByteArray), (⟨#[99, 110, 61, 97, 44]⟩ : ByteArray), (⟨#[99, 110, 61, 92, 97]⟩ : ByteArray), (⟨#[99, 110, 61, 97, 92]⟩ : ByteArray), (⟨#[99, 110, 61, 32, 97]⟩ : ByteArray), (⟨#[99, 110, 61, 97, 44, 111, 117, 61, 98]⟩ : ByteArray), (⟨#[99, 110, 61, 97, 92, 44, 98]⟩ : ByteArray)] : List ByteArray))).bind fun bt414 => (some bt414.1)) else (some t402))))) = some r := H
 have A3 := Aside0.mk A30
 clear A30
 replace H := Option.bind_eq_some_iff.mp H
 obtain ⟨t402, A40, H⟩ := H
 replace H : ((spec_l01Src_n.f t391 t399 t400 t401 4).bind fun bt403 => (if bt403.1 = 0 then ((spec_l01Src_spoil.f k t391 bt403.2.1 bt403.2.2.1 bt403.2.2.2 t402).bind fun bt407 => (some bt407.1)) else (if bt403.1 = 1 then ((spec_l01Src_pick.f t391 bt403.2.1 bt403.2.2.1 bt403.2.2.2 (([(⟨#[]⟩ : ByteArray), (⟨#[99, 110, 61]⟩ : ByteArray), (⟨#[99, 110]⟩ : ByteArray), (⟨#[61, 97]⟩ : ByteArray), (⟨#[99, 110, 61, 97, 44]⟩ : ByteArray), (⟨#[99, 110, 61, 92, 97]⟩ : ByteArray), (⟨#[99, 110, 61, 97, 92]⟩ : ByteArray), (⟨#[99, 110, 61, 32, 97]⟩ : ByteArray), (⟨#[99, 110, 61, 97, 44, 111, 117, 61, 98]⟩ : ByteArray), (⟨#[99, 110, 61, 97, 92, 44, 98]⟩ : ByteArray)] : List ByteArray))).bind fun bt414 => (some bt414.1)) else (some t402)))) = some r := H
 have A4 := Aside0.mk A40
 clear A40
 replace H := Option.bind_eq_some_iff.mp H
 obtain ⟨⟨t403, t404, t405, t406⟩, A50, H⟩ := H
 replace H : (if t403 = 0 then ((spec_l01Src_spoil.f k t391 t404 t405 t406 t402).bind fun bt407 => (some bt407.1)) else (if t403 = 1 then ((spec_l01Src_pick.f t391 t404 t405 t406 (([(⟨#[]⟩ : ByteArray), (⟨#[99, 110, 61]⟩ : ByteArray), (⟨#[99, 110]⟩ : ByteArray), (⟨#[61, 97]⟩ : ByteArray), (⟨#[99, 110, 61, 97, 44]⟩ : ByteArray), (⟨#[99, 110, 61, 92, 97]⟩ : ByteArray), (⟨#[99, 110, 61, 97, 92]⟩ : ByteArray), (⟨#[99, 110, 61, 32, 97]⟩ : ByteArray), (⟨#[99, 110, 61, 97, 44, 111, 117, 61, 98]⟩ : ByteArray), (⟨#[99, 110, 61, 97, 92, 44, 98]⟩ : ByteArray)] : List ByteArray))).bind fun bt414 => (some bt414.1)) else (some t402))) = some r := H
 have A5 := Aside0.mk A50
 clear A50
 by_cases c6 : t403 = 0
 ·rw [if_pos c6] at H
  have c6b0 : (t403 == 0) = true := beq_iff_eq.mpr c6
  have c6b1 : (t403 != 0) = false := bne_eq_false_iff_eq.mpr c6
  clear c6
  replace H := Option.bind_eq_some_iff.mp H
  obtain ⟨⟨t407, t408, t409, t410⟩, A70, H⟩ := H
  replace H : (some t407) = some r := H
  have A7 := Aside0.mk A70
  clear A70
  obtain rfl := Option.some.inj H
  go_enter Tryd.func61, Tryd.ntmps61
  go_wp2_with (first | ((with_reducible refine gate_callee (f := 76) rfl ?_); refine goesL_ (some 6) rfl rfl Tryd.func76 (by kernel_rfl) rfl #[.slice A0 l0.length c0] rfl MPz ?_; (with_reducible refine (spec_l01Source.calls k _ _ l0 t391 t392 t393 t394 w _ ?side1 ?side2 ?side3 A2.out).mono ?_); (case side1 => repeat (first | (with_reducible first | exact HB.out | apply below_alloc | apply pw_below_drewN | apply below_drew1) | exact HB.out)); (case side2 => exact HR0.out); (case side3 => exact HC0.out); rintro e w8 ⟨g395, rfl, hi, hb, hb2⟩; refine ⟨_, rfl, ?_⟩; have n0_ := Aside0.mk (hb); have n1_ := Aside0.mk (hi); clear HB; have HB := n0_; have HI395 := n1_; clear n0_ n1_; (try clear hb); (try clear hb2); (try clear hk); (try clear hi)) | ((with_reducible refine gate_callee (f := 77) rfl ?_); refine goesL_ (some 8) rfl rfl Tryd.func77 (by kernel_rfl) rfl #[.pointer (some ⟨g395, 0, none⟩)] rfl MPz ?_; (with_reducible refine (spec_l01Src_l02Dn.calls k g395 t391 t392 t393 t394 t396 t399 t400 t401 w _ ?side1 ?side2 A3.out).mono ?_); (case side1 => repeat (first | (with_reducible first | exact HI395.out | apply IsS129.alloc | apply IsS129.drewN | apply IsS129.drew | apply IsS129.set_1 | apply IsS129.set_2 | apply IsS129.set_3) | exact HI395.out)); (case side2 => repeat (first | (with_reducible first | exact HB.out | apply below_alloc | apply pw_below_drewN | apply below_drew1 | refine below_set ?_ (IsS129.ge HI395.out)) | exact HB.out)); rintro e w9 ⟨v397, rfl, ho0, hi, hb, hk⟩; refine ⟨_, rfl, ?_⟩; have n0_ := Aside0.mk (Kd.R_lower ho0 (below_size (by repeat (first | (with_reducible first | exact HB.out | apply below_alloc | apply pw_below_drewN | apply below_drew1 | refine below_set ?_ (IsS129.ge HI395.out)) | exact HB.out)))); have n1_ := Aside0.mk (hb); have n2_ := Aside0.mk (hi); clear HB; clear HI395; have HO398 := n0_; have HB := n1_; have HI395 := n2_; clear n0_ n1_ n2_; (try clear hb); (try clear hb2); (try clear hk); (try clear hi); (try clear ho0); obtain ⟨Ao10, co10, eo10⟩ := Kd.R_slice HO398.out; subst eo10) | ((with_reducible refine gate_callee (f := 21) rfl ?_); refine goesL_ (some 9) rfl rfl Tryd.func21 (by kernel_rfl) rfl #[.slice Ao10 t396.length co10] rfl MPz ?_; (with_reducible refine (spec_DnText.calls k _ _ t396 t402 _ ?side1 ?side2 A4.out).mono ?_); (case side1 => repeat (first | exact (Kd.R_reads' HO398.out).2.2 | (with_reducible refine Kd.C_alloc ?_ _) | (with_reducible refine Kd.C_drewN ?_ _) | (with_reducible refine Kd.C_drew ?_))); (case side2 => exact (Kd.R_reads' HO398.out).2.1); rintro e w11 ⟨rfl, hb⟩; refine ⟨_, rfl, ?_⟩; have n0_ := Aside0.mk (Kd.R_below (by (with_reducible repeat (first | apply Kd.R_alloc | apply Kd.R_drewN | apply Kd.R_drew)); exact HO398.out) hb); have n1_ := Aside0.mk (IsS129.below (by repeat (first | (with_reducible first | exact HI395.out | apply IsS129.alloc | apply IsS129.drewN | apply IsS129.drew | apply IsS129.set_1 | apply IsS129.set_2 | apply IsS129.set_3) | exact HI395.out)) hb); have n2_ := Aside0.mk (below_step (by repeat (first | (with_reducible first | exact HB.out | apply below_alloc | apply pw_below_drewN | apply below_drew1 | refine below_set ?_ (IsS129.ge HI395.out)) | exact HB.out)) hb); clear HO398; clear HI395; clear HB; have HO398 := n0_; have HI395 := n1_; have HB := n2_; clear n0_ n1_ n2_; (try clear hb); (try clear hb2); (try clear hk); (try clear hi)) | ((with_reducible refine gate_callee (f := 79) rfl ?_); refine goesL_ (some 11) rfl rfl Tryd.func79 (by kernel_rfl) rfl #[.pointer (some ⟨g395, 0, none⟩), .int .i64 4] rfl MPz ?_; (with_reducible refine (spec_l01Src_n.calls g395 t391 t399 t400 t401 4 t403 t404 t405 t406 w _ ?side1 ?side2 A5.out).mono ?_); (case side1 => repeat (first | (with_reducible first | exact HI395.out | apply IsS129.alloc | apply IsS129.drewN | apply IsS129.drew | apply IsS129.set_1 | apply IsS129.set_2 | apply IsS129.set_3) | exact HI395.out)); (case side2 => repeat (first | (with_reducible first | exact HB.out | apply below_alloc | apply pw_below_drewN | apply below_drew1 | refine below_set ?_ (IsS129.ge HI395.out)) | exact HB.out)); rintro e w12 ⟨rfl, hi, hb, hk⟩; refine ⟨_, rfl, ?_⟩; have n0_ := Aside0.mk (Kd.R_mono (Kd.R_keep (IsS129.apart (show IsS129 w _ g395 t391 t399 t400 t401 from by repeat (first | (with_reducible first | exact HI395.out | apply IsS129.alloc | apply IsS129.drewN | apply IsS129.drew | apply IsS129.set_1 | apply IsS129.set_2 | apply IsS129.set_3) | exact HI395.out)) (by (with_reducible repeat (first | apply Kd.R_alloc | apply Kd.R_drewN | apply Kd.R_drew)); exact HO398.out) (by decide)) hk (fun _ h => h.2)) (fun _ h => h.1)); have n1_ := Aside0.mk (hb); have n2_ := Aside0.mk (hi); clear HO398; clear HB; clear HI395; have HO398 := n0_; have HB := n1_; have HI395 := n2_; clear n0_ n1_ n2_; (try clear hb); (try clear hb2); (try clear hk); (try clear hi)) | ((with_reducible refine gate_callee (f := 109) rfl ?_); refine goesL_ (some 16) rfl rfl Tryd.func109 (by kernel_rfl) rfl #[.pointer (some ⟨g395, 0, none⟩), .string t402] rfl MPz ?_; (with_reducible refine (spec_l01Src_spoil.calls k g395 t391 t404 t405 t406 t402 t407 t408 t409 t410 w _ ?side1 ?side2 A7.out).mono ?_); (case side1 => repeat (first | (with_reducible first | exact HI395.out | apply IsS129.alloc | apply IsS129.drewN | apply IsS129.drew | apply IsS129.set_1 | apply IsS129.set_2 | apply IsS129.set_3) | exact HI395.out)); (case side2 => repeat (first | (with_reducible first | exact HB.out | apply below_alloc | apply pw_below_drewN | apply below_drew1 | refine below_set ?_ (IsS129.ge HI395.out)) | exact HB.out)); rintro e w13 ⟨rfl, hi, hb, hk⟩; refine ⟨_, rfl, ?_⟩; have n0_ := Aside0.mk (Kd.R_mono (Kd.R_keep (IsS129.apart (show IsS129 w _ g395 t391 t404 t405 t406 from by repeat (first | (with_reducible first | exact HI395.out | apply IsS129.alloc | apply IsS129.drewN | apply IsS129.drew | apply IsS129.set_1 | apply IsS129.set_2 | apply IsS129.set_3) | exact HI395.out)) (by (with_reducible repeat (first | apply Kd.R_alloc | apply Kd.R_drewN | apply Kd.R_drew)); exact HO398.out) (by decide)) hk (fun _ h => h.2)) (fun _ h => h.1)); have n1_ := Aside0.mk (hb); have n2_ := Aside0.mk (hi); clear HO398; clear HB; clear HI395; have HO398 := n0_; have HB := n1_; have HI395 := n2_; clear n0_ n1_ n2_; (try clear hb); (try clear hb2); (try clear hk); (try clear hi)))
  go_ret
  exact ⟨EZa, by repeat (first | (with_reducible first | exact HB.out | apply below_alloc | apply pw_below_drewN | apply below_drew1 | refine below_set ?_ (IsS129.ge HI395.out)) | exact HB.out)⟩
 ·rw [if_neg c6] at H
  have c6b0 : (t403 == 0) = false := beq_eq_false_iff_ne.mpr c6
  have c6b1 : (t403 != 0) = true := bne_iff_ne.mpr c6
  by_cases c14 : t403 = 1
  ·rw [if_pos c14] at H
   have c14b0 : (t403 == 1) = true := beq_iff_eq.mpr c14
   have c14b1 : (t403 != 1) = false := bne_eq_false_iff_eq.mpr c14
   clear c14
   obtain ⟨y411, hy411⟩ : ∃ y_ : List ByteArray, y_ = (([(⟨#[]⟩ : ByteArray), (⟨#[99, 110, 61]⟩ : ByteArray), (⟨#[99, 110]⟩ : ByteArray), (⟨#[61, 97]⟩ : ByteArray), (⟨#[99, 110, 61, 97, 44]⟩ : ByteArray), (⟨#[99, 110, 61, 92, 97]⟩ : ByteArray), (⟨#[99, 110, 61, 97, 92]⟩ : ByteArray), (⟨#[99, 110, 61, 32, 97]⟩ : ByteArray), (⟨#[99, 110, 61, 97, 44, 111, 117, 61, 98]⟩ : ByteArray), (⟨#[99, 110, 61, 97, 92, 44, 98]⟩ : ByteArray)] : List ByteArray)) := ⟨_, rfl⟩
   replace H : ((spec_l01Src_pick.f t391 t404 t405 t406 y411).bind fun bt414 => (some bt414.1)) = some r := by first | (rw [hy411]; with_reducible exact H) | (have H2_ := (Option.bind_some _ _).symm.trans H; rw [hy411]; with_reducible exact H2_) | (have H2_ := (Option.bind_some _ _).symm.trans H; with_reducible exact H2_) | with_reducible exact H | (rw [hy411]; exact H) | exact H
   have Ny411 := Aside0.mk hy411
   clear hy411
   replace H := Option.bind_eq_some_iff.mp H
   obtain ⟨⟨t414, t415, t416, t417⟩, A150, H⟩ := H
   replace H : (some t414) = some r := H
   have A15 := Aside0.mk A150
   clear A150
   obtain rfl := Option.some.inj H
   go_enter Tryd.func61, Tryd.ntmps61
   go_wp2_with (first | ((with_reducible refine gate_callee (f := 76) rfl ?_); refine goesL_ (some 6) rfl rfl Tryd.func76 (by kernel_rfl) rfl #[.slice A0 l0.length c0] rfl MPz ?_; (with_reducible refine (spec_l01Source.calls k _ _ l0 t391 t392 t393 t394 w _ ?side1 ?side2 ?side3 A2.out).mono ?_); (case side1 => repeat (first | (with_reducible first | exact HB.out | apply below_alloc | apply pw_below_drewN | apply below_drew1) | exact HB.out)); (case side2 => exact HR0.out); (case side3 => exact HC0.out); rintro e w16 ⟨g395, rfl, hi, hb, hb2⟩; refine ⟨_, rfl, ?_⟩; have n0_ := Aside0.mk (hb); have n1_ := Aside0.mk (hi); clear HB; have HB := n0_; have HI395 := n1_; clear n0_ n1_; (try clear hb); (try clear hb2); (try clear hk); (try clear hi)) | ((with_reducible refine gate_callee (f := 77) rfl ?_); refine goesL_ (some 8) rfl rfl Tryd.func77 (by kernel_rfl) rfl #[.pointer (some ⟨g395, 0, none⟩)] rfl MPz ?_; (with_reducible refine (spec_l01Src_l02Dn.calls k g395 t391 t392 t393 t394 t396 t399 t400 t401 w _ ?side1 ?side2 A3.out).mono ?_); (case side1 => repeat (first | (with_reducible first | exact HI395.out | apply IsS129.alloc | apply IsS129.drewN | apply IsS129.drew | apply IsS129.set_1 | apply IsS129.set_2 | apply IsS129.set_3) | exact HI395.out)); (case side2 => repeat (first | (with_reducible first | exact HB.out | apply below_alloc | apply pw_below_drewN | apply below_drew1 | refine below_set ?_ (IsS129.ge HI395.out)) | exact HB.out)); rintro e w17 ⟨v397, rfl, ho0, hi, hb, hk⟩; refine ⟨_, rfl, ?_⟩; have n0_ := Aside0.mk (Kd.R_lower ho0 (below_size (by repeat (first | (with_reducible first | exact HB.out | apply below_alloc | apply pw_below_drewN | apply below_drew1 | refine below_set ?_ (IsS129.ge HI395.out)) | exact HB.out)))); have n1_ := Aside0.mk (hb); have n2_ := Aside0.mk (hi); clear HB; clear HI395; have HO398 := n0_; have HB := n1_; have HI395 := n2_; clear n0_ n1_ n2_; (try clear hb); (try clear hb2); (try clear hk); (try clear hi); (try clear ho0); obtain ⟨Ao18, co18, eo18⟩ := Kd.R_slice HO398.out; subst eo18) | ((with_reducible refine gate_callee (f := 21) rfl ?_); refine goesL_ (some 9) rfl rfl Tryd.func21 (by kernel_rfl) rfl #[.slice Ao18 t396.length co18] rfl MPz ?_; (with_reducible refine (spec_DnText.calls k _ _ t396 t402 _ ?side1 ?side2 A4.out).mono ?_); (case side1 => repeat (first | exact (Kd.R_reads' HO398.out).2.2 | (with_reducible refine Kd.C_alloc ?_ _) | (with_reducible refine Kd.C_drewN ?_ _) | (with_reducible refine Kd.C_drew ?_))); (case side2 => exact (Kd.R_reads' HO398.out).2.1); rintro e w19 ⟨rfl, hb⟩; refine ⟨_, rfl, ?_⟩; have n0_ := Aside0.mk (Kd.R_below (by (with_reducible repeat (first | apply Kd.R_alloc | apply Kd.R_drewN | apply Kd.R_drew)); exact HO398.out) hb); have n1_ := Aside0.mk (IsS129.below (by repeat (first | (with_reducible first | exact HI395.out | apply IsS129.alloc | apply IsS129.drewN | apply IsS129.drew | apply IsS129.set_1 | apply IsS129.set_2 | apply IsS129.set_3) | exact HI395.out)) hb); have n2_ := Aside0.mk (below_step (by repeat (first | (with_reducible first | exact HB.out | apply below_alloc | apply pw_below_drewN | apply below_drew1 | refine below_set ?_ (IsS129.ge HI395.out)) | exact HB.out)) hb); clear HO398; clear HI395; clear HB; have HO398 := n0_; have HI395 := n1_; have HB := n2_; clear n0_ n1_ n2_; (try clear hb); (try clear hb2); (try clear hk); (try clear hi)) | ((with_reducible refine gate_callee (f := 79) rfl ?_); refine goesL_ (some 11) rfl rfl Tryd.func79 (by kernel_rfl) rfl #[.pointer (some ⟨g395, 0, none⟩), .int .i64 4] rfl MPz ?_; (with_reducible refine (spec_l01Src_n.calls g395 t391 t399 t400 t401 4 t403 t404 t405 t406 w _ ?side1 ?side2 A5.out).mono ?_); (case side1 => repeat (first | (with_reducible first | exact HI395.out | apply IsS129.alloc | apply IsS129.drewN | apply IsS129.drew | apply IsS129.set_1 | apply IsS129.set_2 | apply IsS129.set_3) | exact HI395.out)); (case side2 => repeat (first | (with_reducible first | exact HB.out | apply below_alloc | apply pw_below_drewN | apply below_drew1 | refine below_set ?_ (IsS129.ge HI395.out)) | exact HB.out)); rintro e w20 ⟨rfl, hi, hb, hk⟩; refine ⟨_, rfl, ?_⟩; have n0_ := Aside0.mk (Kd.R_mono (Kd.R_keep (IsS129.apart (show IsS129 w _ g395 t391 t399 t400 t401 from by repeat (first | (with_reducible first | exact HI395.out | apply IsS129.alloc | apply IsS129.drewN | apply IsS129.drew | apply IsS129.set_1 | apply IsS129.set_2 | apply IsS129.set_3) | exact HI395.out)) (by (with_reducible repeat (first | apply Kd.R_alloc | apply Kd.R_drewN | apply Kd.R_drew)); exact HO398.out) (by decide)) hk (fun _ h => h.2)) (fun _ h => h.1)); have n1_ := Aside0.mk (hb); have n2_ := Aside0.mk (hi); clear HO398; clear HB; clear HI395; have HO398 := n0_; have HB := n1_; have HI395 := n2_; clear n0_ n1_ n2_; (try clear hb); (try clear hb2); (try clear hk); (try clear hi)) | ((with_reducible refine gate_dst (N := 20) rfl ?_); refine Kd.R_lit Kd.string _ 9 ?hg (N := 20) ?hd (xs := ([(⟨#[]⟩ : ByteArray), (⟨#[99, 110, 61]⟩ : ByteArray), (⟨#[99, 110]⟩ : ByteArray), (⟨#[61, 97]⟩ : ByteArray), (⟨#[99, 110, 61, 97, 44]⟩ : ByteArray), (⟨#[99, 110, 61, 92, 97]⟩ : ByteArray), (⟨#[99, 110, 61, 97, 92]⟩ : ByteArray), (⟨#[99, 110, 61, 32, 97]⟩ : ByteArray), (⟨#[99, 110, 61, 97, 44, 111, 117, 61, 98]⟩ : ByteArray), (⟨#[99, 110, 61, 97, 92, 44, 98]⟩ : ByteArray)] : List ByteArray)) (inner := [.string (⟨#[]⟩ : ByteArray), .string (⟨#[99, 110, 61]⟩ : ByteArray), .string (⟨#[99, 110]⟩ : ByteArray), .string (⟨#[61, 97]⟩ : ByteArray), .string (⟨#[99, 110, 61, 97, 44]⟩ : ByteArray), .string (⟨#[99, 110, 61, 92, 97]⟩ : ByteArray), .string (⟨#[99, 110, 61, 97, 92]⟩ : ByteArray), .string (⟨#[99, 110, 61, 32, 97]⟩ : ByteArray), .string (⟨#[99, 110, 61, 97, 44, 111, 117, 61, 98]⟩ : ByteArray), .string (⟨#[99, 110, 61, 97, 92, 44, 98]⟩ : ByteArray)]) (ok := fun _ => True) (okp := fun _ => True) ?hr ?hp (fun _ hk => hk) trivial (Below.refl _ _) (Nat.le_refl _) (by simp) ?_; (case hd => rfl); (case hg => rfl); (case hr => first | (go_simp; done) | (go_simp; rfl)); (case hp => exact (Reps.one (show Kd.M Kd.string _ _ _ (⟨#[]⟩ : ByteArray) [.string (⟨#[]⟩ : ByteArray)] from rfl) (Reps.one (show Kd.M Kd.string _ _ _ (⟨#[99, 110, 61]⟩ : ByteArray) [.string (⟨#[99, 110, 61]⟩ : ByteArray)] from rfl) (Reps.one (show Kd.M Kd.string _ _ _ (⟨#[99, 110]⟩ : ByteArray) [.string (⟨#[99, 110]⟩ : ByteArray)] from rfl) (Reps.one (show Kd.M Kd.string _ _ _ (⟨#[61, 97]⟩ : ByteArray) [.string (⟨#[61, 97]⟩ : ByteArray)] from rfl) (Reps.one (show Kd.M Kd.string _ _ _ (⟨#[99, 110, 61, 97, 44]⟩ : ByteArray) [.string (⟨#[99, 110, 61, 97, 44]⟩ : ByteArray)] from rfl) (Reps.one (show Kd.M Kd.string _ _ _ (⟨#[99, 110, 61, 92, 97]⟩ : ByteArray) [.string (⟨#[99, 110, 61, 92, 97]⟩ : ByteArray)] from rfl) (Reps.one (show Kd.M Kd.string _ _ _ (⟨#[99, 110, 61, 97, 92]⟩ : ByteArray) [.string (⟨#[99, 110, 61, 97, 92]⟩ : ByteArray)] from rfl) (Reps.one (show Kd.M Kd.string _ _ _ (⟨#[99, 110, 61, 32, 97]⟩ : ByteArray) [.string (⟨#[99, 110, 61, 32, 97]⟩ : ByteArray)] from rfl) (Reps.one (show Kd.M Kd.string _ _ _ (⟨#[99, 110, 61, 97, 44, 111, 117, 61, 98]⟩ : ByteArray) [.string (⟨#[99, 110, 61, 97, 44, 111, 117, 61, 98]⟩ : ByteArray)] from rfl) (Reps.one (show Kd.M Kd.string _ _ _ (⟨#[99, 110, 61, 97, 92, 44, 98]⟩ : ByteArray) [.string (⟨#[99, 110, 61, 97, 92, 44, 98]⟩ : ByteArray)] from rfl) (Reps.none _ _)))))))))))); intro v412 w21 ho22 hb hg_ hnew_; clear hg_ hnew_; (first | rw [← Ny411.out] at ho22 | (simp only [Int.reduceToNat] at ho22; rw [← Ny411.out] at ho22)); have n0_ := Aside0.mk (Kd.R_below (by (with_reducible repeat (first | apply Kd.R_alloc | apply Kd.R_drewN | apply Kd.R_drew)); exact HO398.out) hb); have n1_ := Aside0.mk (Kd.R_lower ho22 (below_size (by repeat (first | (with_reducible first | exact HB.out | apply below_alloc | apply pw_below_drewN | apply below_drew1 | refine below_set ?_ (IsS129.ge HI395.out)) | exact HB.out)))); have n2_ := Aside0.mk (IsS129.below (by repeat (first | (with_reducible first | exact HI395.out | apply IsS129.alloc | apply IsS129.drewN | apply IsS129.drew | apply IsS129.set_1 | apply IsS129.set_2 | apply IsS129.set_3) | exact HI395.out)) hb); have n3_ := Aside0.mk (below_step (by repeat (first | (with_reducible first | exact HB.out | apply below_alloc | apply pw_below_drewN | apply below_drew1 | refine below_set ?_ (IsS129.ge HI395.out)) | exact HB.out)) hb); clear HO398; clear HI395; clear HB; have HO398 := n0_; have HO413 := n1_; have HI395 := n2_; have HB := n3_; clear n0_ n1_ n2_ n3_; clear hb ho22; obtain ⟨Ao23, co23, eo23⟩ := Kd.R_slice HO413.out; subst eo23) | ((with_reducible refine gate_callee (f := 110) rfl ?_); refine goesL_ (some 21) rfl rfl Tryd.func110 (by kernel_rfl) rfl #[.pointer (some ⟨g395, 0, none⟩), .slice Ao23 y411.length co23] rfl MPz ?_; (with_reducible refine (spec_l01Src_pick.calls g395 t391 t404 t405 t406 _ _ y411 t414 t415 t416 t417 w _ ?side1 ?side2 ?side3 ?side4 ?side5 A15.out).mono ?_); (case side1 => repeat (first | (with_reducible first | exact HI395.out | apply IsS129.alloc | apply IsS129.drewN | apply IsS129.drew | apply IsS129.set_1 | apply IsS129.set_2 | apply IsS129.set_3) | exact HI395.out)); (case side2 => repeat (first | (with_reducible first | exact HB.out | apply below_alloc | apply pw_below_drewN | apply below_drew1 | refine below_set ?_ (IsS129.ge HI395.out)) | exact HB.out)); (case side3 => repeat (first | exact (Kd.R_reads' HO413.out).2.2 | (with_reducible refine Kd.C_alloc ?_ _) | (with_reducible refine Kd.C_drewN ?_ _) | (with_reducible refine Kd.C_drew ?_))); (case side4 => exact (Kd.R_reads' HO413.out).2.1); (case side5 => exact far_slice (IsS129.own_ne HI395.out HO413.out (by decide))); rintro e w24 ⟨rfl, hi, hb, hk⟩; refine ⟨_, rfl, ?_⟩; have n0_ := Aside0.mk (Kd.R_mono (Kd.R_keep (IsS129.apart (show IsS129 w _ g395 t391 t404 t405 t406 from by repeat (first | (with_reducible first | exact HI395.out | apply IsS129.alloc | apply IsS129.drewN | apply IsS129.drew | apply IsS129.set_1 | apply IsS129.set_2 | apply IsS129.set_3) | exact HI395.out)) (by (with_reducible repeat (first | apply Kd.R_alloc | apply Kd.R_drewN | apply Kd.R_drew)); exact HO398.out) (by decide)) hk (fun _ h => h.2)) (fun _ h => h.1)); have n1_ := Aside0.mk (Kd.R_mono (Kd.R_keep (IsS129.apart (show IsS129 w _ g395 t391 t404 t405 t406 from by repeat (first | (with_reducible first | exact HI395.out | apply IsS129.alloc | apply IsS129.drewN | apply IsS129.drew | apply IsS129.set_1 | apply IsS129.set_2 | apply IsS129.set_3) | exact HI395.out)) (by (with_reducible repeat (first | apply Kd.R_alloc | apply Kd.R_drewN | apply Kd.R_drew)); exact HO413.out) (by decide)) hk (fun _ h => h.2)) (fun _ h => h.1)); have n2_ := Aside0.mk (hb); have n3_ := Aside0.mk (hi); clear HO398; clear HO413; clear HB; clear HI395; have HO398 := n0_; have HO413 := n1_; have HB := n2_; have HI395 := n3_; clear n0_ n1_ n2_ n3_; (try clear hb); (try clear hb2); (try clear hk); (try clear hi)))
   go_ret
   exact ⟨EZa, by repeat (first | (with_reducible first | exact HB.out | apply below_alloc | apply pw_below_drewN | apply below_drew1 | refine below_set ?_ (IsS129.ge HI395.out)) | exact HB.out)⟩
  ·rw [if_neg c14] at H
   have c14b0 : (t403 == 1) = false := beq_eq_false_iff_ne.mpr c14
   have c14b1 : (t403 != 1) = true := bne_iff_ne.mpr c14
   obtain rfl := Option.some.inj H
   go_enter Tryd.func61, Tryd.ntmps61
   go_wp2_with (first | ((with_reducible refine gate_callee (f := 76) rfl ?_); refine goesL_ (some 6) rfl rfl Tryd.func76 (by kernel_rfl) rfl #[.slice A0 l0.length c0] rfl MPz ?_; (with_reducible refine (spec_l01Source.calls k _ _ l0 t391 t392 t393 t394 w _ ?side1 ?side2 ?side3 A2.out).mono ?_); (case side1 => repeat (first | (with_reducible first | exact HB.out | apply below_alloc | apply pw_below_drewN | apply below_drew1) | exact HB.out)); (case side2 => exact HR0.out); (case side3 => exact HC0.out); rintro e w25 ⟨g395, rfl, hi, hb, hb2⟩; refine ⟨_, rfl, ?_⟩; have n0_ := Aside0.mk (hb); have n1_ := Aside0.mk (hi); clear HB; have HB := n0_; have HI395 := n1_; clear n0_ n1_; (try clear hb); (try clear hb2); (try clear hk); (try clear hi)) | ((with_reducible refine gate_callee (f := 77) rfl ?_); refine goesL_ (some 8) rfl rfl Tryd.func77 (by kernel_rfl) rfl #[.pointer (some ⟨g395, 0, none⟩)] rfl MPz ?_; (with_reducible refine (spec_l01Src_l02Dn.calls k g395 t391 t392 t393 t394 t396 t399 t400 t401 w _ ?side1 ?side2 A3.out).mono ?_); (case side1 => repeat (first | (with_reducible first | exact HI395.out | apply IsS129.alloc | apply IsS129.drewN | apply IsS129.drew | apply IsS129.set_1 | apply IsS129.set_2 | apply IsS129.set_3) | exact HI395.out)); (case side2 => repeat (first | (with_reducible first | exact HB.out | apply below_alloc | apply pw_below_drewN | apply below_drew1 | refine below_set ?_ (IsS129.ge HI395.out)) | exact HB.out)); rintro e w26 ⟨v397, rfl, ho0, hi, hb, hk⟩; refine ⟨_, rfl, ?_⟩; have n0_ := Aside0.mk (Kd.R_lower ho0 (below_size (by repeat (first | (with_reducible first | exact HB.out | apply below_alloc | apply pw_below_drewN | apply below_drew1 | refine below_set ?_ (IsS129.ge HI395.out)) | exact HB.out)))); have n1_ := Aside0.mk (hb); have n2_ := Aside0.mk (hi); clear HB; clear HI395; have HO398 := n0_; have HB := n1_; have HI395 := n2_; clear n0_ n1_ n2_; (try clear hb); (try clear hb2); (try clear hk); (try clear hi); (try clear ho0); obtain ⟨Ao27, co27, eo27⟩ := Kd.R_slice HO398.out; subst eo27) | ((with_reducible refine gate_callee (f := 21) rfl ?_); refine goesL_ (some 9) rfl rfl Tryd.func21 (by kernel_rfl) rfl #[.slice Ao27 t396.length co27] rfl MPz ?_; (with_reducible refine (spec_DnText.calls k _ _ t396 t402 _ ?side1 ?side2 A4.out).mono ?_); (case side1 => repeat (first | exact (Kd.R_reads' HO398.out).2.2 | (with_reducible refine Kd.C_alloc ?_ _) | (with_reducible refine Kd.C_drewN ?_ _) | (with_reducible refine Kd.C_drew ?_))); (case side2 => exact (Kd.R_reads' HO398.out).2.1); rintro e w28 ⟨rfl, hb⟩; refine ⟨_, rfl, ?_⟩; have n0_ := Aside0.mk (Kd.R_below (by (with_reducible repeat (first | apply Kd.R_alloc | apply Kd.R_drewN | apply Kd.R_drew)); exact HO398.out) hb); have n1_ := Aside0.mk (IsS129.below (by repeat (first | (with_reducible first | exact HI395.out | apply IsS129.alloc | apply IsS129.drewN | apply IsS129.drew | apply IsS129.set_1 | apply IsS129.set_2 | apply IsS129.set_3) | exact HI395.out)) hb); have n2_ := Aside0.mk (below_step (by repeat (first | (with_reducible first | exact HB.out | apply below_alloc | apply pw_below_drewN | apply below_drew1 | refine below_set ?_ (IsS129.ge HI395.out)) | exact HB.out)) hb); clear HO398; clear HI395; clear HB; have HO398 := n0_; have HI395 := n1_; have HB := n2_; clear n0_ n1_ n2_; (try clear hb); (try clear hb2); (try clear hk); (try clear hi)) | ((with_reducible refine gate_callee (f := 79) rfl ?_); refine goesL_ (some 11) rfl rfl Tryd.func79 (by kernel_rfl) rfl #[.pointer (some ⟨g395, 0, none⟩), .int .i64 4] rfl MPz ?_; (with_reducible refine (spec_l01Src_n.calls g395 t391 t399 t400 t401 4 t403 t404 t405 t406 w _ ?side1 ?side2 A5.out).mono ?_); (case side1 => repeat (first | (with_reducible first | exact HI395.out | apply IsS129.alloc | apply IsS129.drewN | apply IsS129.drew | apply IsS129.set_1 | apply IsS129.set_2 | apply IsS129.set_3) | exact HI395.out)); (case side2 => repeat (first | (with_reducible first | exact HB.out | apply below_alloc | apply pw_below_drewN | apply below_drew1 | refine below_set ?_ (IsS129.ge HI395.out)) | exact HB.out)); rintro e w29 ⟨rfl, hi, hb, hk⟩; refine ⟨_, rfl, ?_⟩; have n0_ := Aside0.mk (Kd.R_mono (Kd.R_keep (IsS129.apart (show IsS129 w _ g395 t391 t399 t400 t401 from by repeat (first | (with_reducible first | exact HI395.out | apply IsS129.alloc | apply IsS129.drewN | apply IsS129.drew | apply IsS129.set_1 | apply IsS129.set_2 | apply IsS129.set_3) | exact HI395.out)) (by (with_reducible repeat (first | apply Kd.R_alloc | apply Kd.R_drewN | apply Kd.R_drew)); exact HO398.out) (by decide)) hk (fun _ h => h.2)) (fun _ h => h.1)); have n1_ := Aside0.mk (hb); have n2_ := Aside0.mk (hi); clear HO398; clear HB; clear HI395; have HO398 := n0_; have HB := n1_; have HI395 := n2_; clear n0_ n1_ n2_; (try clear hb); (try clear hb2); (try clear hk); (try clear hi)))
   go_ret
   exact ⟨EZa, by repeat (first | (with_reducible first | exact HB.out | apply below_alloc | apply pw_below_drewN | apply below_drew1 | refine below_set ?_ (IsS129.ge HI395.out)) | exact HB.out)⟩
end Go.Proofs.YtdbboelacgehoaaDoor.PFnDn
