import Derived.Test.YtmkeigielncpjaaGreatDoorQFnAclx0
import Derived.Test.YtmkeigielncpjaaGreatDoorQFnAclx1
import Derived.Test.YtmkeigielncpjaaGreatDoorQFnAclx2
import Derived.Test.YtmkeigielncpjaaGreatDoorQFnAclx3
import Derived.Test.YtmkeigielncpjaaGreatDoorQFnAclx4
import Derived.Test.YtmkeigielncpjaaGreatDoorLayTrim
namespace Go.Proofs.YtmkeigielncpjaaGreatDoor.PFnAcl
open Go.RowKit Go.Proofs.YtmkeigielncpjaaGreatDoorW.PrintWords Go.Proofs.YtmkeigielncpjaaGreatDoorW.PrintLast Go.Proofs.YtmkeigielncpjaaGreatDoorW.PrintMore
set_option maxRecDepth 100000
set_option maxHeartbeats 16000000
attribute [local go_sem] max2_int min2_int max_two min_two max_three min_three max_four min_four
set_option linter.unusedVariables false
set_option linter.unusedSimpArgs false
def Qs.l0 : Nat → Int → Bool → ByteArray → Option (ByteArray)
 | 0, _, _, _ => none
 | k + 1, x0, x3, x4 => if x0 = 0 then (if x3 = true then (if 1 + x4.size ≤ 9223372036854775807 then (some ((⟨#[45]⟩ : ByteArray) ++ x4)) else (none)) else (some x4)) else (if (Int.tmod x0 10) < 0 then ((some (([(wrap64 (48 + (wrap64 (-(Int.tmod x0 10))))) % 256] : List Int) : List Int)).bind fun y182 => (if (strOfNums y182).size + x4.size ≤ 9223372036854775807 then (Qs.l0 k (wrap64 (Int.tdiv x0 10)) x3 ((strOfNums y182) ++ x4)) else (none))) else ((some (([(wrap64 (48 + (Int.tmod x0 10))) % 256] : List Int) : List Int)).bind fun y185 => (if (strOfNums y185).size + x4.size ≤ 9223372036854775807 then (Qs.l0 k (wrap64 (Int.tdiv x0 10)) x3 ((strOfNums y185) ++ x4)) else (none))))
def Qs.f (k : Nat) (a0 : Int) : Option (ByteArray) := if a0 = 0 then (some (⟨#[48]⟩ : ByteArray)) else (Qs.l0 k a0 (decide (a0 < 0)) (⟨#[]⟩ : ByteArray))
theorem Qs.mono_l : ∀ k, (∀ y0 y1 y2, LeO (Qs.l0 k y0 y1 y2) (Qs.l0 (k + 1) y0 y1 y2))
 | 0 => fun _ _ _ r h => by simp [Qs.l0] at h
 | k + 1 => by
  have ih0 := Qs.mono_l k
  ·intro y0 y1 y2
   unfold Qs.l0
   with_reducible repeat' first | exact ih0 _ _ _ | exact LeO.refl _ | exact LeO.none _ | refine LeO.ite ?_ ?_ | refine LeO.bind ?_ (fun _ => ?_)
theorem Qs.mono : ∀ a0 k, LeO (Qs.f k a0) (Qs.f (k + 1) a0) := by
 intro a0 k
 have ih0 := Qs.mono_l k
 unfold Qs.f
 with_reducible repeat' first | exact ih0 _ _ _ | exact LeO.refl _ | exact LeO.none _ | refine LeO.ite ?_ ?_ | refine LeO.bind ?_ (fun _ => ?_)
theorem Qs.calls (k : Nat) (a0 : Int) (r : ByteArray) (w : World) (h : Qs.f k a0 = some r) :
  Calls Tryz.prog 131 #[.int .i64 a0] w fun e w' => e = .returned (.string r) ∧ Below w.heap.size w w' := by
 have HB := Aside0.mk (Below.refl w.heap.size w)
 have H : (if a0 = 0 then (some (⟨#[48]⟩ : ByteArray)) else (Qs.l0 k a0 (decide (a0 < 0)) (⟨#[]⟩ : ByteArray))) = some r := h
 clear h
 by_cases c2 : a0 = 0
 ·rw [if_pos c2] at H
  obtain ⟨c2b0, c2b1⟩ := QTz c2
  clear c2
  obtain rfl := Option.some.inj H
  clear H
  go_enter Tryz.func131, Tryz.ntmps131
  go_wp2
  go_ret
  exact ⟨EZa, HBa⟩
 rw [if_neg c2] at H
 obtain ⟨c2b0, c2b1⟩ := QFz c2
 have H' := Aside0.mk H
 clear H
 go_enter Tryz.func131, Tryz.ntmps131
 go_wp2
 go_loopg [0, 4] k (fun kq v0 v4 w' => ∃ (x0_1 : Int) (x4_1 : ByteArray), v0 = .int .i64 x0_1 ∧ v4 = .string x4_1 ∧ Aside0 (Qs.l0 kq x0_1 (decide (a0 < 0)) x4_1 = some r) ∧ Aside0 (kq ≤ k) ∧ Aside0 (Below w.heap.size w w'))
 case atStart => exact ⟨(a0), ((⟨#[]⟩ : ByteArray)), EZc, EZc, H', ⟨Nat.le_refl _⟩, ⟨HBa⟩⟩
 case round =>
  clear H'
  try clear c2
  try clear c2b0
  try clear c2b1
  obtain ⟨x0_1, x4_1, rfl, rfl, HA, HK1, HB⟩ := hrel
  cases gk with
  | zero => exact absurd HA.out (by simp [Qs.l0])
  | succ k1 =>
   have H := HA.out
   clear HA
   simp only [Qs.l0] at H
   by_cases c3 : x0_1 = 0
   ·rw [if_pos c3] at H
    obtain ⟨c3b0, c3b1⟩ := QTz c3
    clear c3
    by_cases c4 : (decide (a0 < 0)) = true
    ·rw [if_pos c4] at H
     have c4b0 : (decide (a0 < 0)) = true := c4
     have c4b1 : a0 < 0 := of_decide_eq_true c4
     have c4b2 : (a0 < 0) = True := eq_true c4b1
     clear c4
     by_cases c5 : 1 + x4_1.size ≤ 9223372036854775807
     ·rw [if_pos c5] at H
      have c5b0 := eq_true c5
      have c5b1 := decide_eq_true c5
      try have c5b2 : (9223372036854775807 < 1 + x4_1.size) = False := eq_false (Nat.not_lt.2 c5)
      obtain rfl := Option.some.inj H
      clear H
      go_wp2
      go_ret
      exact ⟨EZa, HBa⟩
     rw [if_neg c5] at H
     exact absurd H (by simp)
    rw [if_neg c4] at H
    have c4b0 : (decide (a0 < 0)) = false := by simpa using c4
    have c4b1 : ¬ a0 < 0 := of_decide_eq_false c4b0
    have c4b2 : (a0 < 0) = False := eq_false c4b1
    clear c4
    obtain rfl := Option.some.inj H
    clear H
    go_wp2
    go_ret
    exact ⟨EZa, HBa⟩
   rw [if_neg c3] at H
   obtain ⟨c3b0, c3b1⟩ := QFz c3
   by_cases c6 : (Int.tmod x0_1 10) < 0
   rotate_left
   ·rw [if_neg c6] at H
    have c6b0 := decide_eq_false c6
    clear c6
    obtain ⟨y185, hy185⟩ : ∃ y_ : List Int, y_ = (([(wrap64 (48 + (Int.tmod x0_1 10))) % 256] : List Int)) := ⟨_, rfl⟩
    replace H : (if (strOfNums y185).size + x4_1.size ≤ 9223372036854775807 then (Qs.l0 k1 (wrap64 (Int.tdiv x0_1 10)) (decide (a0 < 0)) ((strOfNums y185) ++ x4_1)) else (none)) = some r := by first | (rw [hy185]; with_reducible exact H) | (have H2_ := (Option.bind_some _ _).symm.trans H; rw [hy185]; with_reducible exact H2_) | (have H2_ := (Option.bind_some _ _).symm.trans H; with_reducible exact H2_) | with_reducible exact H | (rw [hy185]; exact H) | exact H
    have Ny185 := Aside0.mk hy185
    clear hy185
    by_cases c11 : (strOfNums y185).size + x4_1.size ≤ 9223372036854775807
    ·rw [if_pos c11] at H
     have c11b0 := eq_true c11
     have c11b1 := decide_eq_true c11
     try have c11b2 : (9223372036854775807 < (strOfNums y185).size + x4_1.size) = False := eq_false (Nat.not_lt.2 c11)
     have H' := Aside0.mk H
     clear H
     go_wp2_with (first | ((with_reducible refine gate_dst (N := 21) rfl ?_); refine Kd.R_lit (Kd.int .u8) _ 5 ?hg (N := 21) ?hd (xs := ([(wrap64 (48 + (Int.tmod x0_1 10))) % 256] : List Int)) (inner := [.int .u8 ((wrap64 (48 + (Int.tmod x0_1 10))) % 256)]) (ok := fun _ => True) (okp := fun _ => True) ?hr ?hp (fun _ hk => hk) trivial (Below.refl _ _) (Nat.le_refl _) (by simp) ?_; (case hd => rfl); (case hg => rfl); (case hr => first | (go_simp; done) | (go_simp; rfl)); (case hp => exact (Reps.one (show Kd.M (Kd.int .u8) _ _ _ ((wrap64 (48 + (Int.tmod x0_1 10))) % 256) [.int .u8 ((wrap64 (48 + (Int.tmod x0_1 10))) % 256)] from rfl) (Reps.none _ _))); intro v186 w12 ho13 hb hg_ hnew_; clear hg_ hnew_; (first | rw [← Ny185.out] at ho13 | (simp only [Int.reduceToNat] at ho13; rw [← Ny185.out] at ho13)); have n0_ := Aside0.mk (Kd.R_lower ho13 (below_size HBa)); have n1_ := Aside0.mk (below_step HBa hb); clear HB; have HO187 := n0_; have HB := n1_; clear n0_ n1_; clear hb ho13; have hcv14 := own_string (P := Tryz.prog) Tryz.underlying35 Tryz.underlying5 Tryz.underlying9 (Kd.own_of_R HO187.out)))
     go_roundg k1
     case measure => have := HK1.out; omega
     case rel => exact ⟨(wrap64 (Int.tdiv x0_1 10)), ((strOfNums y185) ++ x4_1), EZc, EZc, H', ⟨by have := HK1.out; omega⟩, ⟨HBa⟩⟩
    rw [if_neg c11] at H
    exact absurd H (by simp)
   rw [if_pos c6] at H
   have c6b0 := decide_eq_true c6
   clear c6
   obtain ⟨y182, hy182⟩ : ∃ y_ : List Int, y_ = (([(wrap64 (48 + (wrap64 (-(Int.tmod x0_1 10))))) % 256] : List Int)) := ⟨_, rfl⟩
   replace H : (if (strOfNums y182).size + x4_1.size ≤ 9223372036854775807 then (Qs.l0 k1 (wrap64 (Int.tdiv x0_1 10)) (decide (a0 < 0)) ((strOfNums y182) ++ x4_1)) else (none)) = some r := by first | (rw [hy182]; with_reducible exact H) | (have H2_ := (Option.bind_some _ _).symm.trans H; rw [hy182]; with_reducible exact H2_) | (have H2_ := (Option.bind_some _ _).symm.trans H; with_reducible exact H2_) | with_reducible exact H | (rw [hy182]; exact H) | exact H
   have Ny182 := Aside0.mk hy182
   clear hy182
   by_cases c7 : (strOfNums y182).size + x4_1.size ≤ 9223372036854775807
   ·rw [if_pos c7] at H
    have c7b0 := eq_true c7
    have c7b1 := decide_eq_true c7
    try have c7b2 : (9223372036854775807 < (strOfNums y182).size + x4_1.size) = False := eq_false (Nat.not_lt.2 c7)
    have H' := Aside0.mk H
    clear H
    go_wp2_with (first | ((with_reducible refine gate_dst (N := 21) rfl ?_); refine Kd.R_lit (Kd.int .u8) _ 5 ?hg (N := 21) ?hd (xs := ([(wrap64 (48 + (wrap64 (-(Int.tmod x0_1 10))))) % 256] : List Int)) (inner := [.int .u8 ((wrap64 (48 + (wrap64 (-(Int.tmod x0_1 10))))) % 256)]) (ok := fun _ => True) (okp := fun _ => True) ?hr ?hp (fun _ hk => hk) trivial (Below.refl _ _) (Nat.le_refl _) (by simp) ?_; (case hd => rfl); (case hg => rfl); (case hr => first | (go_simp; done) | (go_simp; rfl)); (case hp => exact (Reps.one (show Kd.M (Kd.int .u8) _ _ _ ((wrap64 (48 + (wrap64 (-(Int.tmod x0_1 10))))) % 256) [.int .u8 ((wrap64 (48 + (wrap64 (-(Int.tmod x0_1 10))))) % 256)] from rfl) (Reps.none _ _))); intro v183 w8 ho9 hb hg_ hnew_; clear hg_ hnew_; (first | rw [← Ny182.out] at ho9 | (simp only [Int.reduceToNat] at ho9; rw [← Ny182.out] at ho9)); have n0_ := Aside0.mk (Kd.R_lower ho9 (below_size HBa)); have n1_ := Aside0.mk (below_step HBa hb); clear HB; have HO184 := n0_; have HB := n1_; clear n0_ n1_; clear hb ho9; have hcv10 := own_string (P := Tryz.prog) Tryz.underlying35 Tryz.underlying5 Tryz.underlying9 (Kd.own_of_R HO184.out)))
    go_roundg k1
    case measure => have := HK1.out; omega
    case rel => exact ⟨(wrap64 (Int.tdiv x0_1 10)), ((strOfNums y182) ++ x4_1), EZc, EZc, H', ⟨by have := HK1.out; omega⟩, ⟨HBa⟩⟩
   rw [if_neg c7] at H
   exact absurd H (by simp)
def Y.RU (l : List S57) : Prop := l.length ≤ 1000 ∧ ∀ x ∈ l, x.f1.length ≤ 1000 ∧ x.f2.length ≤ 1000
def Y.TOT2 : Prop := Y.TOT ∧
 (∀ (dn : List S96) (at_ : List S117), dn.length ≤ 1000 → at_.length ≤ 1000 → (∀ a ∈ at_, Y.AV a) → ∃ k r, Qn.f k dn at_ = some r) ∧
 (∀ a : ByteArray, a.size ≤ 8000 → ∃ k r, Qq.f k a = some r) ∧
 (∀ a : ByteArray, a.size ≤ 8000 → ∃ k r, Va.f k a = some r) ∧
 (∀ i : Int, 0 ≤ i → i ≤ 20 → ∃ k r, Qs.f k i = some r ∧ r.size ≤ 1000)
section
variable {w0 W W1 : World} {g : Nat}
def Y.FT (g : Nat) (l : List ByteArray) (v : Value) (W : World) : Prop := ∃ ad : Addr, v = .slice (some ad) l.length l.length ∧ ad.block ≠ g ∧ Kd.C Kd.string W (some ad) l.length l
theorem Y.FT.keep {l : List ByteArray} {v : Value} (h : Y.FT g l v W) (hk : KeepBut W W1 g none) : Y.FT g l v W1 := by
 obtain ⟨ad, e, hn, hC⟩ := h
 exact ⟨ad, e, hn, Kd.C_keep ByteArray.empty hC hk (fun a e _ => by injection e with e; subst e; exact hn)⟩
theorem Y.FT.new (h : g < W.heap.size) (l : List ByteArray) (h1 : l.length ≤ 1000) : Y.FT g l (.slice (some ⟨W.heap.size, 0, none⟩) l.length l.length) (W.alloc (.cells (l.map Value.string).toArray 9)) :=
 ⟨_, rfl, Nat.ne_of_gt h, Y.litC W l h1⟩
theorem Y.DS.pickC (h : Y.DS w0 W g) {l : List ByteArray} {v : Value} (hv : Y.FT g l v W) (h0 : 0 < l.length) (h1 : l.length ≤ 1000) : Calls Tryz.prog 53 #[.pointer (some ⟨g, 0, none⟩), v] W fun e w' => ∃ t : ByteArray, e = .returned (.string t) ∧ t ∈ l ∧ Y.DS w0 w' g ∧ KeepBut W w' g none := by
 obtain ⟨ad, rfl, hn, hC⟩ := hv
 obtain ⟨⟨b, a, m, z, hs, hI⟩, hB⟩ := h
 obtain ⟨v, a', m', e, hv, hs'⟩ := Y.draw_pick b a m z l hs h0 h1
 refine (Qw.calls g b a m z (some ad) l.length l v a' m' z w0 _ hI hB hC (Nat.le_refl _) (fun ad e _ => by injection e with e; subst e; exact hn) e).mono ?_
 rintro e w' ⟨rfl, hi, hb, hk⟩
 exact ⟨v, rfl, hv, ⟨⟨_, _, _, _, hs', hi⟩, hb⟩, hk⟩
theorem Y.EO.keep {m : Nat} {v0 v1 : Value} (h : Y.EO w0 W m v0 v1) {u0 : World} (hs : Y.DS u0 W g) (hk : KeepBut W W1 g none) : Y.EO w0 W1 m v0 v1 := by
 obtain ⟨cs, hb⟩ := Y.DS.blk hs
 obtain ⟨⟨dn, h1, h2⟩, at2, h3, h4⟩ := h
 exact ⟨⟨dn, Kd.R_mono (Kd.R_keep (Kd.R_types h1 hb (by decide)) hk (fun _ hk => hk.2)) (fun _ _ => trivial), h2⟩, at2, Kd.R_mono (Kd.R_keep (Kd.R_types h3 hb (by decide)) hk (fun _ hk => hk.2)) (fun _ _ => trivial), h4⟩
theorem Y.EO.le {m m1 : Nat} {v0 v1 : Value} (h : Y.EO w0 W m v0 v1) (hm : m ≤ m1) : Y.EO w0 W m1 v0 v1 := by
 obtain ⟨h1, at2, h3, h4, h5⟩ := h
 exact ⟨h1, at2, h3, by omega, h5⟩
theorem Y.EO.lower {u0 : World} {m : Nat} {v0 v1 : Value} (h : Y.EO u0 W m v0 v1) (hb : w0.heap.size ≤ u0.heap.size) : Y.EO w0 W m v0 v1 := by
 obtain ⟨⟨dn, h1, h2⟩, at2, h3, h4⟩ := h
 exact ⟨⟨dn, Kd.R_lower h1 hb, h2⟩, at2, Kd.R_lower h3 hb, h4⟩
end
section
variable {w0 w : World} {g : Nat}
theorem Y.DS.name (h : Y.DS w0 w g) : Calls Tryz.prog 129 #[.pointer (some ⟨g, 0, none⟩)] w fun e w' => ∃ t : ByteArray, e = .returned (.string t) ∧ t.size ≤ 8000 ∧ Y.DS w0 w' g ∧ KeepBut w w' g none := by
 have HD := Aside0.mk h
 clear h
 go_enter Tryz.func129, Tryz.ntmps129
 go_wp2_with (go_at_call 53; refine (Y.DS.pick HD.out [(⟨#[99, 110]⟩ : ByteArray), (⟨#[109, 97, 105, 108]⟩ : ByteArray), (⟨#[112, 104, 111, 110, 101]⟩ : ByteArray), (⟨#[117, 105, 100]⟩ : ByteArray)] (by decide) (by decide)).mono ?_; rintro e w' ⟨t, rfl, ht, hs, hk⟩; have HT := Aside0.mk (show t.size ≤ 8000 from by simp only [List.mem_cons, List.not_mem_nil, or_false] at ht; rcases ht with rfl | rfl | rfl | rfl <;> decide); have HK := Aside0.mk (And.intro hs hk); clear ht hs hk)
 go_ret
 exact ⟨t, rfl, HT.out, HK.out⟩
theorem Y.DS.value (h : Y.DS w0 w g) : Calls Tryz.prog 92 #[.pointer (some ⟨g, 0, none⟩)] w fun e w' => ∃ t : ByteArray, e = .returned (.string t) ∧ t.size ≤ 8000 ∧ Y.DS w0 w' g ∧ KeepBut w w' g none := by
 have HD := Aside0.mk h
 clear h
 go_enter Tryz.func92, Tryz.ntmps92
 go_wp2_with (go_at_call 53; refine (Y.DS.pick HD.out [(⟨#[97, 110, 110]⟩ : ByteArray), (⟨#[65, 110, 110]⟩ : ByteArray), (⟨#[98, 111, 98]⟩ : ByteArray), (⟨#[97, 64, 120]⟩ : ByteArray), (⟨#[53]⟩ : ByteArray), (⟨#[66, 32, 32, 98]⟩ : ByteArray), (⟨#[122, 101, 100]⟩ : ByteArray)] (by decide) (by decide)).mono ?_; rintro e w' ⟨t, rfl, ht, hs, hk⟩; have HT := Aside0.mk (show t.size ≤ 8000 from by simp only [List.mem_cons, List.not_mem_nil, or_false] at ht; rcases ht with rfl | rfl | rfl | rfl | rfl | rfl | rfl <;> decide); have HK := Aside0.mk (And.intro hs hk); clear ht hs hk)
 go_ret
 exact ⟨t, rfl, HT.out, HK.out⟩
theorem Y.DS.who (h : Y.DS w0 w g) : Calls Tryz.prog 57 #[.pointer (some ⟨g, 0, none⟩)] w fun e w' => ∃ t : ByteArray, e = .returned (.string t) ∧ t.size ≤ 8000 ∧ Y.DS w0 w' g ∧ KeepBut w w' g none := by
 have HD := Aside0.mk h
 clear h
 go_enter Tryz.func57, Tryz.ntmps57
 go_upto_if 4 with (go_at_call 87; refine (Y.DS.one HD.out 20 (by decide)).mono ?_; rintro e w1 ⟨r, rfl, hs, hk1⟩; have HD1 := Aside0.mk hs; have HK1 := Aside0.mk hk1; clear hs hk1 HD)
 cases r
 case true =>
  go_wp2_with (go_at_call 53; refine (Y.DS.pick HD1.out [(⟨#[]⟩ : ByteArray), (⟨#[42]⟩ : ByteArray)] (by decide) (by decide)).mono ?_; rintro e w' ⟨t, rfl, ht, hs, hk⟩; have HT := Aside0.mk (show t.size ≤ 8000 from by simp only [List.mem_cons, List.not_mem_nil, or_false] at ht; rcases ht with rfl | rfl <;> decide); have HK := Aside0.mk (And.intro hs hk); clear ht hs hk)
  go_ret
  exact ⟨t, rfl, HT.out, HK.out.1, HK1.out.trans HK.out.2 (.inl rfl)⟩
 go_wp2_with (go_at_call 53; refine (Y.DS.pick HD1.out [(⟨#[97, 110, 110]⟩ : ByteArray), (⟨#[98, 111, 98]⟩ : ByteArray), (⟨#[99, 97, 116]⟩ : ByteArray)] (by decide) (by decide)).mono ?_; rintro e w' ⟨t, rfl, ht, hs, hk⟩; have HT := Aside0.mk (show t.size ≤ 8000 from by simp only [List.mem_cons, List.not_mem_nil, or_false] at ht; rcases ht with rfl | rfl | rfl <;> decide); have HK := Aside0.mk (And.intro hs hk); clear ht hs hk)
 go_ret
 exact ⟨t, rfl, HT.out, HK.out.1, HK1.out.trans HK.out.2 (.inl rfl)⟩
end
theorem Y.RK.keep {α : Type} {d : Kd α} {e : Nat} {w0 w W W1 : World} {g : Nat} {v : Value} {xs : List α} (h : d.R e W w.heap.size (fun _ => True) v xs) (hs : Y.DS w0 W g) (ht : ∀ q, q ∈ e :: d.E → q ≠ 112) (hk : KeepBut W W1 g none) : d.R e W1 w.heap.size (fun _ => True) v xs := by
 obtain ⟨cs, hb⟩ := Y.DS.blk hs
 exact Kd.R_mono (Kd.R_keep (Kd.R_types h hb ht) hk (fun _ hk => hk.2)) (fun _ _ => trivial)
def Y.RB (w0 w W : World) (g b2 b3 : Nat) (s1 s2 : ByteArray) : Prop :=
 (Y.DS w0 W g ∧ KeepBut w W g none) ∧ (W.heap[b2]? = some (.cells #[.string (⟨#[]⟩ : ByteArray), .string (⟨#[]⟩ : ByteArray)] 96 (0, 0)) ∧ W.heap[b3]? = some (.cells #[.string s1, .string s2] 96 (0, 0))) ∧ (w.heap.size ≤ b2 ∧ w.heap.size ≤ b3 ∧ b2 ≠ b3 ∧ g < w.heap.size ∧ w0.heap.size ≤ w.heap.size)
section
variable {w0 w W W1 : World} {g b2 b3 : Nat} {s1 s2 : ByteArray}
theorem Y.RB.keep (h : Y.RB w0 w W g b2 b3 s1 s2) (hs : Y.DS w0 W1 g) (hk : KeepBut W W1 g none) : Y.RB w0 w W1 g b2 b3 s1 s2 :=
 ⟨⟨hs, h.1.2.trans hk (.inl rfl)⟩, ⟨hk.blk h.2.1.1 (by have := h.2.2; omega) (by simp), hk.blk h.2.1.2 (by have := h.2.2; omega) (by simp)⟩, h.2.2⟩
theorem Y.RB.below (h : Y.RB w0 w W g b2 b3 s1 s2) (hb : Below W.heap.size W W1) : Y.RB w0 w W1 g b2 b3 s1 s2 := Y.RB.keep h (Y.DS.below h.1.1 hb) (KeepBut.of_below hb g none)
theorem Y.RB.store (h : Y.RB w0 w W g b2 b3 s1 s2) (t1 t2 : ByteArray) : Y.RB w0 w ((W.setCell ⟨b3, 0, none⟩ (.string t1)).setCell ⟨b3, 1, none⟩ (.string t2)) g b2 b3 t1 t2 := by
 have hne : g ≠ b3 := by have := h.2.2; omega
 have hb : w0.heap.size ≤ b3 := by have := h.2.2; omega
 exact ⟨⟨Y.DS.far (Y.DS.far h.1.1 hne hb _) hne hb _, keep_far (keep_far h.1.2 (p := ⟨b3, 0, none⟩) h.2.2.2.1 _) (p := ⟨b3, 1, none⟩) h.2.2.2.1 _⟩, ⟨blk_far (p := ⟨b3, 1, none⟩) (blk_far (p := ⟨b3, 0, none⟩) h.2.1.1 h.2.2.2.2.1 _) h.2.2.2.2.1 _, blk_put (blk_put h.2.1.2 0 (.string t1) rfl) 1 (.string t2) rfl⟩, h.2.2⟩
def Y.DN {α : Type} (d : Kd α) (e : Nat) (w0 w W : World) (g : Nat) (v : Value) (l : List α) : Prop := Y.DS w0 W g ∧ KeepBut w W g none ∧ d.R e W w.heap.size (fun _ => True) v l
theorem Y.DN.keep {α : Type} {d : Kd α} {e : Nat} {v : Value} {l : List α} (h : Y.DN d e w0 w W g v l) (hs : Y.DS w0 W1 g) (hk : KeepBut W W1 g none) (ht : ∀ q, q ∈ e :: d.E → q ≠ 112) : Y.DN d e w0 w W1 g v l := ⟨hs, h.2.1.trans hk (.inl rfl), Y.RK.keep h.2.2 h.1 ht hk⟩
theorem Y.DN.app {α : Type} {d : Kd α} {e : Nat} {v v' : Value} {l l' : List α} (h : Y.DN d e w0 w W g v l) (he : e ≠ 112) (h0 : w0.heap.size ≤ w.heap.size) (hr : d.R e W1 w.heap.size (fun _ => True) v' l') (hB : Below w.heap.size W W1) (hg : W.grownBy W1 v.ownBlock) : Y.DN d e w0 w W1 g v' l' := by
 obtain ⟨h2, h3, h4⟩ := h
 refine ⟨?_, h3.trans (KeepBut.of_grown hg g) ?_, hr⟩
 ·obtain ⟨⟨_, _, _, _, s0, s1⟩, s2⟩ := h2
  exact ⟨⟨_, _, _, _, s0, IsS112.grown s1 hg (IsS112.own_ne s1 h4 he)⟩, Below.trans s2 (Below.mono hB h0)⟩
 ·rcases Kd.R_base2 h4 with e | ⟨k, e, hk⟩
  ·exact .inl e
  ·exact .inr ⟨k, e, hk⟩
end
theorem Y.rdn (g : Nat) (w0 w : World) (h : Y.DS w0 w g) :
  Calls Tryz.prog 163 #[.pointer (some ⟨g, 0, none⟩)] w fun e w' => ∃ s1 s2 : ByteArray, e = .returned (.agg #[.string s1, .string s2]) ∧ Y.DS w0 w' g ∧ KeepBut w w' g none := by
 have hu96 := Tryz.underlying96
 have HG := Aside0.mk (Y.DS.lt h)
 have HG0 := Aside0.mk (show w0.heap.size ≤ w.heap.size from below_size h.2)
 have HD := Aside0.mk h
 clear h
 go_enter Tryz.func163, Tryz.ntmps163
 go_upto_region 2 with (first | ((with_reducible refine gate_dst (N := 2) rfl ?_); refine box_event ?hg (N := 2) ?hd (cs := #[.string (⟨#[]⟩ : ByteArray), .string (⟨#[]⟩ : ByteArray)]) (t := 96) ?hr ?_; (case hd => rfl); (case hg => rfl); (case hr => first | (go_simp; done) | (go_simp; rfl)); intro b2 hg2 w3 hbox2 hb3; have HK3 := Aside0.mk (And.intro (Y.DS.below HD.out hb3) (And.intro (KeepBut.of_below hb3 g none) (And.intro hbox2 hg2))); clear hg2 hbox2 hb3 HD) | (go_at_call 53; refine (Y.DS.pick HK3.out.1 [(⟨#[99, 110]⟩ : ByteArray), (⟨#[111, 117]⟩ : ByteArray), (⟨#[100, 99]⟩ : ByteArray)] (by decide) (by decide)).mono ?_; rintro e w4 ⟨t1, rfl, ht, hs, hk⟩; have HK4 := Aside0.mk (And.intro hs (And.intro (HK3.out.2.1.trans hk (.inl rfl)) (And.intro (hk.blk HK3.out.2.2.1 (by have := HK3.out.2.2.2; have := HG.out; omega) (by simp)) HK3.out.2.2.2))); clear ht hs hk HK3) | (go_at_call 53; refine (Y.DS.pick HK4.out.1 [(⟨#[97, 110, 110]⟩ : ByteArray), (⟨#[65, 110, 110]⟩ : ByteArray), (⟨#[98, 111, 98, 32, 32, 98]⟩ : ByteArray), (⟨#[120]⟩ : ByteArray), (⟨#[97, 44, 98]⟩ : ByteArray), (⟨#[35, 49]⟩ : ByteArray), (⟨#[32, 121, 32]⟩ : ByteArray), (⟨#[61]⟩ : ByteArray), (⟨#[92]⟩ : ByteArray)] (by decide) (by decide)).mono ?_; rintro e w5 ⟨t2, rfl, ht, hs, hk⟩; have HK5 := Aside0.mk (And.intro hs (And.intro (HK4.out.2.1.trans hk (.inl rfl)) (And.intro (hk.blk HK4.out.2.2.1 (by have := HK4.out.2.2.2; have := HG.out; omega) (by simp)) HK4.out.2.2.2))); clear ht hs hk HK4) | ((with_reducible refine gate_dst (N := 3) rfl ?_); refine box_event ?hg (N := 3) ?hd (cs := #[.string (⟨#[]⟩ : ByteArray), .string (⟨#[]⟩ : ByteArray)]) (t := 96) ?hr ?_; (case hd => rfl); (case hg => rfl); (case hr => first | (go_simp; done) | (go_simp; rfl)); intro b3 hg3 w7 hbox3 hb7; have HF7 := Aside0.mk (show Y.RB w0 w w7 g b2 b3 ⟨#[]⟩ ⟨#[]⟩ from ⟨⟨Y.DS.below HK5.out.1 hb7, HK5.out.2.1.trans (KeepBut.of_below hb7 g none) (.inl rfl)⟩, ⟨blk_below HK5.out.2.2.1 hb7, hbox3⟩, ⟨by have := HK5.out.2.2.2; omega, by have := keep_size HK5.out.2.1; omega, by have := blk_lt HK5.out.2.2.1; omega, HG.out, HG0.out⟩⟩); have c30 : w7.cell? ⟨b3, 0, none⟩ = some (.string (⟨#[]⟩ : ByteArray)) := (blk_cell hbox3 0).trans rfl; have c31 : w7.cell? ⟨b3, 1, none⟩ = some (.string (⟨#[]⟩ : ByteArray)) := (blk_cell hbox3 1).trans rfl; have f30 := blk_frozen hbox3 0; have f31 := blk_frozen hbox3 1; clear hg3 hbox3 hb7 HK5))
 have HS := Aside0.mk (Y.RB.store HF7.out t1 t2)
 clear HF7 c30 c31 f30 f31
 generalize (w7.setCell ⟨b3, 0, none⟩ (.string t1)).setCell ⟨b3, 1, none⟩ (.string t2) = W8 at HS ⊢
 go_upto_if 12 with (go_at_call 87; refine (Y.DS.one HS.out.1.1 30 (by decide)).mono ?_; rintro e w9 ⟨r, rfl, hs, hk⟩; have HS1 := Aside0.mk (Y.RB.keep HS.out hs hk); clear hs hk HS)
 go_cut [] (fun wc => ∃ s1 s2 : ByteArray, Aside0 (Y.RB w0 w wc g b2 b3 s1 s2))
 case first =>
  cases r with
  | false =>
   go_wp2
   go_meet
   case rel => exact ⟨t1, t2, HS1⟩
  | true =>
   go_upto_region 3 with fail
   refine Y.three_rule (by kernel_rfl) (fun j => j == 0 || j == 3) [9] (fun W W' => Y.DS w0 W g ∧ KeepBut W W' g none) (fun W => Y.RB w0 w W g b2 b3 t1 t2)
    (fun j v W => match j with
     | 1 => Y.FT g [(⟨#[99, 110]⟩ : ByteArray), (⟨#[65]⟩ : ByteArray), (⟨#[]⟩ : ByteArray)] v W
     | 2 | 5 | 7 => ∃ t : ByteArray, v = .string t
     | 4 => ∃ xs : List Int, Kd.R (Kd.int .u8) 5 W w.heap.size (fun _ => True) v xs
     | 6 => ∃ t : ByteArray, Y.FT g [(⟨#[]⟩ : ByteArray), (⟨#[32]⟩ : ByteArray), (⟨#[10]⟩ : ByteArray), t] v W
     | 8 => ∃ s1 s2 : ByteArray, v = .agg #[.string s1, .string s2]
     | _ => True)
    (fun j v => v = .pointer (some ⟨g, 0, none⟩))
    (fun q val W => match q with
     | 0 => Y.RB w0 w W g b2 b3 t1 t2 ∧ ∃ s1 s2 : ByteArray, val 8 = .agg #[.string s1, .string s2]
     | _ => ∃ s1 s2 : ByteArray, Y.RB w0 w W g b2 b3 s1 s2)
    (by kernel_rfl) (by kernel_rfl) ?hF ?h0 ?hpure ?hstep ?hmid ?htail ?hfin
   case hF =>
    rintro j v W W' hj ⟨hs, hk⟩
    rcases j with _ | _ | _ | _ | _ | _ | _ | _ | _ | j
    ·trivial
    ·exact Y.FT.keep hj hk
    ·exact hj
    ·trivial
    ·obtain ⟨xs, h⟩ := hj
     exact ⟨xs, Y.RK.keep h hs (by decide) hk⟩
    ·exact hj
    ·obtain ⟨t, h⟩ := hj
     exact ⟨t, Y.FT.keep h hk⟩
    ·exact hj
    ·exact hj
    ·trivial
   case h0 => exact Y.RB.below HS1.out (below_drew (Below.refl _ _))
   case hpure =>
    intro p val W a i oi hpl hi hG hdep hA K hK
    have hi1 : i = 0 ∨ i = 3 := by simpa [or_assoc] using hpl
    rcases hi1 with rfl | rfl
    ·obtain rfl := Option.some.inj hi
     have e0 : a.tmps[0]?.getD undef = .pointer (some ⟨g, 0, none⟩) := Y.AI_oldT hA 0 (by kernel_rfl)
     have hK' := hK _ rfl
     refine Y.stp rfl ?_
     go_simp
     exact hK'
    ·obtain rfl := Option.some.inj hi
     have e0 : a.tmps[0]?.getD undef = .pointer (some ⟨g, 0, none⟩) := Y.AI_oldT hA 0 (by kernel_rfl)
     have hK' := hK _ rfl
     refine Y.stp rfl ?_
     go_simp
     exact hK'
   case hstep =>
    intro p val W a i oi hpl hit hi hR hG hFF hdep hA K hK
    rcases i with _ | _ | _ | _ | _ | _ | _ | _ | _ | _ | i
    ·exact absurd hpl (by decide)
    ·obtain rfl := Option.some.inj hi
     have hb := below_alloc (Below.refl W.heap.size W) (.cells ([(⟨#[99, 110]⟩ : ByteArray), (⟨#[65]⟩ : ByteArray), (⟨#[]⟩ : ByteArray)].map Value.string).toArray 9)
     have hK' := hK _ _ ⟨hR.1.1, KeepBut.of_below hb g none⟩ (Y.RB.below hR hb) (Y.FT.new (Y.DS.lt hR.1.1) [(⟨#[99, 110]⟩ : ByteArray), (⟨#[65]⟩ : ByteArray), (⟨#[]⟩ : ByteArray)] (by decide))
     refine Y.stp rfl ?_
     go_simp
     exact hK'
    ·obtain rfl := Option.some.inj hi
     have p0 : p 0 = true := hdep ⟨0, .data⟩ (by simp) rfl
     have p1 : p 1 = true := hdep ⟨1, .data⟩ (by simp) rfl
     have hft := hFF 1 rfl (by decide) p1
     have x0 : a.tmps[13]?.getD undef = .pointer (some ⟨g, 0, none⟩) := (Y.AI_newT (n := 23) (by kernel_rfl) hA 0 13 rfl rfl p0).trans (hG 0 rfl p0)
     have x1 := Y.AI_newT (n := 23) (by kernel_rfl) hA 1 14 rfl rfl p1
     refine call_ 53 #[.pointer (some ⟨g, 0, none⟩), val 1] rfl rfl ?hrun ((Y.DS.pickC hR.1.1 hft (by decide) (by decide)).mono ?hpost)
     case hrun => go_simp
     case hpost =>
      rintro e w2 ⟨t, rfl, ht, hs, hk⟩
      exact ⟨_, rfl, hK _ w2 ⟨hR.1.1, hk⟩ (Y.RB.keep hR hs hk) ⟨t, rfl⟩⟩
    ·exact absurd hpl (by decide)
    ·obtain rfl := Option.some.inj hi
     have hsz : w.heap.size ≤ W.heap.size := keep_size hR.1.2
     refine Kd.R_make_step (Kd.int .u8) w.heap.size 5 rfl (w0 := W) (N := 17) rfl 35 _ _ rfl 41 rfl rfl Tryz.underlying35 (.int .u8 0) 1 info5 rfl (by decide) (by omega) 0 (ok := fun _ => True) (okp := fun _ => True) rfl (fun _ hk => hk) trivial (by omega) (by omega) (Below.refl _ _) hsz ?_
     intro v1 w1 ho _ hg _
     have hb := Y.below_none hg
     exact hK v1 w1 ⟨hR.1.1, KeepBut.of_below hb g none⟩ (Y.RB.below hR hb) ⟨_, ho⟩
    ·obtain rfl := Option.some.inj hi
     have p4 : p 4 = true := hdep ⟨4, .data⟩ (by simp) rfl
     obtain ⟨xs, h4⟩ := hFF 4 rfl (by decide) p4
     have hcv := own_string (P := Tryz.prog) Tryz.underlying35 Tryz.underlying5 Tryz.underlying9 (Kd.own_of_R h4)
     have x4 := Y.AI_newT (n := 23) (by kernel_rfl) hA 4 17 rfl rfl p4
     have hK' := hK (.string (strOfNums xs)) W ⟨hR.1.1, KeepBut.refl _ _ _⟩ hR ⟨_, rfl⟩
     refine Y.stp rfl ?_
     go_simp
     exact hK'
    ·obtain rfl := Option.some.inj hi
     have p5 : p 5 = true := hdep ⟨5, .data⟩ (by simp) rfl
     obtain ⟨t, e5⟩ := hFF 5 rfl (by decide) p5
     have x5 : a.tmps[18]?.getD undef = .string t := (Y.AI_newT (n := 23) (by kernel_rfl) hA 5 18 rfl rfl p5).trans (e5)
     have hb := below_alloc (Below.refl W.heap.size W) (.cells ([(⟨#[]⟩ : ByteArray), (⟨#[32]⟩ : ByteArray), (⟨#[10]⟩ : ByteArray), t].map Value.string).toArray 9)
     have hK' := hK _ _ ⟨hR.1.1, KeepBut.of_below hb g none⟩ (Y.RB.below hR hb) ⟨t, Y.FT.new (Y.DS.lt hR.1.1) [(⟨#[]⟩ : ByteArray), (⟨#[32]⟩ : ByteArray), (⟨#[10]⟩ : ByteArray), t] (by simp)⟩
     refine Y.stp rfl ?_
     go_simp
     exact hK'
    ·obtain rfl := Option.some.inj hi
     have p3 : p 3 = true := hdep ⟨3, .data⟩ (by simp) rfl
     have p6 : p 6 = true := hdep ⟨6, .data⟩ (by simp) rfl
     obtain ⟨t6, hft⟩ := hFF 6 rfl (by decide) p6
     have x3 : a.tmps[16]?.getD undef = .pointer (some ⟨g, 0, none⟩) := (Y.AI_newT (n := 23) (by kernel_rfl) hA 3 16 rfl rfl p3).trans (hG 3 rfl p3)
     have x6 := Y.AI_newT (n := 23) (by kernel_rfl) hA 6 19 rfl rfl p6
     refine call_ 53 #[.pointer (some ⟨g, 0, none⟩), val 6] rfl rfl ?hrun ((Y.DS.pickC hR.1.1 hft (by simp) (by simp)).mono ?hpost)
     case hrun => go_simp
     case hpost =>
      rintro e w2 ⟨t, rfl, ht, hs, hk⟩
      exact ⟨_, rfl, hK _ w2 ⟨hR.1.1, hk⟩ (Y.RB.keep hR hs hk) ⟨t, rfl⟩⟩
    ·obtain rfl := Option.some.inj hi
     have p2 : p 2 = true := hdep ⟨2, .data⟩ (by simp) rfl
     have p7 : p 7 = true := hdep ⟨7, .data⟩ (by simp) rfl
     obtain ⟨t2, e2⟩ := hFF 2 rfl (by decide) p2
     obtain ⟨t7, e7⟩ := hFF 7 rfl (by decide) p7
     have x2 : a.tmps[15]?.getD undef = .string t2 := (Y.AI_newT (n := 23) (by kernel_rfl) hA 2 15 rfl rfl p2).trans (e2)
     have x7 : a.tmps[20]?.getD undef = .string t7 := (Y.AI_newT (n := 23) (by kernel_rfl) hA 7 20 rfl rfl p7).trans (e7)
     have hK' := hK _ W ⟨hR.1.1, KeepBut.refl _ _ _⟩ hR ⟨t2, t7, rfl⟩
     refine Y.stp rfl ?_
     go_simp
     exact hK'
    ·exact absurd (by decide) hit
    ·exact absurd hi (by simp)
   case hmid =>
    intro val W hR hFF
    exact ⟨hR, hFF 8 (by decide) rfl (by decide)⟩
   case htail =>
    intro p val W a q i oi hq hi hT hG hal htl hdep hA K hK
    rcases q with _ | q
    ·have hi7 := (Option.some.inj hq).symm
     subst hi7
     obtain rfl := Option.some.inj hi
     obtain ⟨hR, s1, s2, e8⟩ := hT
     have e3 : a.tmps[3]?.getD undef = .pointer (some ⟨b3, 0, none⟩) := Y.AI_oldT hA 3 (by kernel_rfl)
     have x21 : a.tmps[21]?.getD undef = .agg #[.string s1, .string s2] := (Y.AI_newT (n := 23) (by kernel_rfl) hA 8 21 rfl rfl (hal 8 (by decide) rfl (by decide))).trans e8
     have c30 : W.cell? ⟨b3, 0, none⟩ = some (.string t1) := (blk_cell hR.2.1.2 0).trans rfl
     have c31 : W.cell? ⟨b3, 1, none⟩ = some (.string t2) := (blk_cell hR.2.1.2 1).trans rfl
     have f30 := blk_frozen hR.2.1.2 0
     have f31 := blk_frozen hR.2.1.2 1
     have hK' := hK undef _ ⟨s1, s2, Y.RB.store hR s1 s2⟩
     refine Y.stp rfl ?_
     go_simp
     exact hK'
    ·exact absurd hq (by simp)
   case hfin =>
    intro p val W a hT hG hall hA
    obtain ⟨s1, s2, hR⟩ := hT
    go_wp2
    refine Met.intro ?_
    go_step
    (repeat apply Exists.intro)
    refine ⟨?rel, Y.AI_frame hA⟩
    case rel => exact ⟨s1, s2, ⟨hR⟩⟩
 case rest =>
  obtain ⟨s1, s2, HS2⟩ := hcut
  clear HS1
  have c30 : wc.cell? ⟨b3, 0, none⟩ = some (.string s1) := (blk_cell HS2.out.2.1.2 0).trans rfl
  have c31 : wc.cell? ⟨b3, 1, none⟩ = some (.string s2) := (blk_cell HS2.out.2.1.2 1).trans rfl
  have f30 := blk_frozen HS2.out.2.1.2 0
  have f31 := blk_frozen HS2.out.2.1.2 1
  have c20 : wc.cell? ⟨b2, 0, none⟩ = some (.string (⟨#[]⟩ : ByteArray)) := (blk_cell HS2.out.2.1.1 0).trans rfl
  have c21 : wc.cell? ⟨b2, 1, none⟩ = some (.string (⟨#[]⟩ : ByteArray)) := (blk_cell HS2.out.2.1.1 1).trans rfl
  have f20 := blk_frozen HS2.out.2.1.1 0
  have f21 := blk_frozen HS2.out.2.1.1 1
  go_wp2
  have z1 := blk_put (blk_put HS2.out.2.1.1 0 (.string s1) rfl) 1 (.string s2) rfl
  have hne : g ≠ b2 := by have := HS2.out.2.2; omega
  have hb : w0.heap.size ≤ b2 := by have := HS2.out.2.2; omega
  refine bodyPost_ret (results_cell_row rfl _ _ b2 96 #[.string s1, .string s2] (0, 0) _ rfl z1 Tryz.underlying96 rfl (by kernel_rfl)) rfl ?_
  exact ⟨s1, s2, rfl, Y.DS.far (Y.DS.far HS2.out.1.1 hne hb _) hne hb _, keep_far (keep_far HS2.out.1.2 (p := ⟨b2, 0, none⟩) HS2.out.2.2.1 _) (p := ⟨b2, 1, none⟩) HS2.out.2.2.1 _⟩
theorem Y.dn_ (g : Nat) (w0 w : World) (h : Y.DS w0 w g) :
  Calls Tryz.prog 130 #[.pointer (some ⟨g, 0, none⟩)] w fun e w' => ∃ (v : Value) (r : List S96), e = .returned v ∧ Kd.R k96 96 w' w.heap.size (fun _ => True) v r ∧ r.length ≤ 1000 ∧ Y.DS w0 w' g ∧ KeepBut w w' g none := by
 have HG := Aside0.mk (Y.DS.lt h)
 have HG0 := Aside0.mk (show w0.heap.size ≤ w.heap.size from below_size h.2)
 have HD := Aside0.mk h
 clear h
 go_enter Tryz.func130, Tryz.ntmps130
 go_upto_region 2 with ((with_reducible refine gate_dst (N := 5) rfl ?_); refine Kd.R_lit k96 (w0 := w) w.heap.size 96 ?hg (N := 5) ?hd (xs := ([] : List S96)) (inner := []) (ok := fun _ => True) (okp := fun _ => False) ?hr ?hp (fun _ hk => hk.elim) trivial (Below.refl _ _) (Nat.le_refl _) (by simp) ?_; (case hd => rfl); (case hg => rfl); (case hr => first | (go_simp; done) | (go_simp; rfl)); (case hp => exact (Reps.none _ _)); intro v5 w1 ho hb hg hnew; generalize hn0 : ([] : List S96) = l at ho; obtain ⟨A, c, e5⟩ := Kd.R_slice ho; subst e5; have HL0 := Aside0.mk (show l.length = 0 from by rw [← hn0]; rfl); have hbn := Y.below_none hg; have HN := Aside0.mk (show Y.DN k96 96 w0 w w1 g (.slice A l.length c) l from ⟨Y.DS.below HD.out hbn, KeepBut.of_below hbn g none, ho⟩); clear ho hb hg hnew hbn hn0 HD)
 go_wp2_with (go_at_call 51; refine (Y.DS.n HN.out.1 4 (by decide)).mono ?_; rintro e w2 ⟨q0, rfl, n0, n1, hs, hk⟩; have HXq0 := Aside0.mk (And.intro n0 (n1 (by decide))); have HN1 := Aside0.mk (Y.DN.keep HN.out hs hk (by decide)); clear hs hk n0 n1 HN)
 go_loopg [3, 4] 4 (fun kq v3 v4 w' => ∃ (q : Int) (l : List S96) (A : Option Addr) (c : Nat), v3 = .slice A l.length c ∧ v4 = .int .i64 q ∧ Aside0 (0 ≤ q ∧ q ≤ 3 ∧ q.toNat ≤ kq ∧ l.length + q.toNat ≤ 3) ∧ Aside0 (Y.DN k96 96 w0 w w' g (.slice A l.length c) l))
 case atStart => exact ⟨q0, l, A, c, rfl, rfl, ⟨by have := HXq0.out; have := HL0.out; omega⟩, HN1⟩
 case round =>
  clear HN1 HXq0 HL0
  obtain ⟨q, l, A, c, rfl, rfl, HI, HN⟩ := hrel
  cases hcb : decide (0 < q)
  case true =>
   have HQ := Aside0.mk (of_decide_eq_true hcb)
   obtain ⟨gk, rfl⟩ : ∃ z, gk = z + 1 := ⟨gk - 1, by have := HI.out; have := HQ.out; omega⟩
   have HW := Aside0.mk (show wrap64 (q - 1) = q - 1 from by have := HI.out; have := HQ.out; unfold wrap64; omega)
   go_wp2_with (first | (go_at_call 163; refine (Y.rdn g w0 _ HN.out.1).mono ?_; rintro e w3 ⟨s1, s2, rfl, hs, hk⟩; have HN2 := Aside0.mk (Y.DN.keep HN.out hs hk (by decide)); clear hs hk HN) | (at_builtin; refine Kd.R_append k96 (w0 := w3) w.heap.size rfl (.tmp 12) (.tmp 15) 44 96 (.agg #[(.string ⟨#[]⟩), (.string ⟨#[]⟩)]) 32 rfl Tryz.underlying44 info96 rfl (by decide) (by omega) (.slice A l.length c) l (⟨s1, s2⟩ : S96) [.string s1, .string s2] (fun _ => True) (fun _ => False) rfl rfl (k96_mkM _ _ _ (⟨s1, s2⟩ : S96)) (fun _ h => h.elim) (fun _ _ => trivial) HN2.out.2.2 (Below.refl _ _) (keep_size HN2.out.2.1) (by have := HI.out; omega) ?_; intro vA w4 ho hb hg hat; generalize hl2 : l ++ [(⟨s1, s2⟩ : S96)] = l2 at ho; obtain ⟨A2, c2, e2⟩ := Kd.R_slice ho; subst e2; have HL2 := Aside0.mk (show l2.length = l.length + 1 from by rw [← hl2]; simp); have HN3 := Aside0.mk (Y.DN.app HN2.out (by decide) HG0.out ho hb hg); clear ho hb hg hat hl2 HN2))
   go_roundg gk
   case measure => omega
   case rel => exact ⟨q - 1, l2, A2, c2, rfl, by rw [HW.out], ⟨by have := HI.out; have := HQ.out; have := HL2.out; omega⟩, HN3⟩
  case false =>
   go_upto_if 18 with (go_at_call 87; refine (Y.DS.one HN.out.1 30 (by decide)).mono ?_; rintro e w4 ⟨r, rfl, hs, hk⟩; have HN2 := Aside0.mk (Y.DN.keep HN.out hs hk (by decide)); clear hs hk HN)
   clear hcb
   go_cut [3] (fun v3 wc => ∃ (l : List S96) (A : Option Addr) (c : Nat), v3 = .slice A l.length c ∧ Aside0 (l.length ≤ 20) ∧ Aside0 (Y.DN k96 96 w0 w wc g (.slice A l.length c) l))
   case first =>
    cases r with
    | false =>
     go_wp2
     go_meet
     case rel => exact ⟨l, A, c, rfl, ⟨by have := HI.out; omega⟩, HN2⟩
    | true =>
     have HI2 := Aside0.mk (show l.length ≤ 3 from by have := HI.out; omega)
     clear HI
     go_wp2
     go_loopg [3] 10 (fun kq v3 w' => ∃ (l : List S96) (A : Option Addr) (c : Nat), v3 = .slice A l.length c ∧ Aside0 (l.length ≤ 8 ∧ 8 ≤ l.length + kq) ∧ Aside0 (Y.DN k96 96 w0 w w' g (.slice A l.length c) l))
     case atStart => exact ⟨l, A, c, rfl, ⟨by have := HI2.out; omega⟩, HN2⟩
     case round =>
      clear HN2 HI2
      obtain ⟨l, A, c, rfl, HI, HN⟩ := hrel
      go_upto_if 24 with (go_at_call 51; refine (Y.DS.n HN.out.1 3 (by decide)).mono ?_; rintro e w5 ⟨r1, rfl, n0, n1, hs, hk⟩; have HX := Aside0.mk (And.intro n0 (n1 (by decide))); have hw1 : wrap64 (5 + r1) = 5 + r1 := Y.w64 (by omega) (by have := n1 (by decide); omega); have HN1 := Aside0.mk (Y.DN.keep HN.out hs hk (by decide)); clear hs hk n0 n1 HN)
      clear hw1
      cases hcb : decide ((l.length : Int) < 5 + r1)
      case true =>
       have HQ := Aside0.mk (of_decide_eq_true hcb)
       obtain ⟨gk, rfl⟩ : ∃ z, gk = z + 1 := ⟨gk - 1, by have := HI.out; have := HQ.out; have := HX.out; omega⟩
       go_wp2_with (at_builtin; refine Kd.R_append k96 (w0 := w5) w.heap.size rfl (.tmp 25) (.tmp 27) 44 96 (.agg #[(.string ⟨#[]⟩), (.string ⟨#[]⟩)]) 32 rfl Tryz.underlying44 info96 rfl (by decide) (by omega) (.slice A l.length c) l (⟨(⟨#[99, 110]⟩ : ByteArray), (⟨#[120]⟩ : ByteArray)⟩ : S96) [.string (⟨#[99, 110]⟩ : ByteArray), .string (⟨#[120]⟩ : ByteArray)] (fun _ => True) (fun _ => False) rfl rfl (k96_mkM _ _ _ (⟨(⟨#[99, 110]⟩ : ByteArray), (⟨#[120]⟩ : ByteArray)⟩ : S96)) (fun _ h => h.elim) (fun _ _ => trivial) HN1.out.2.2 (Below.refl _ _) (keep_size HN1.out.2.1) (by have := HI.out; omega) ?_; intro vA w6 ho hb hg hat; generalize hl2 : l ++ [(⟨(⟨#[99, 110]⟩ : ByteArray), (⟨#[120]⟩ : ByteArray)⟩ : S96)] = l2 at ho; obtain ⟨A2, c2, e2⟩ := Kd.R_slice ho; subst e2; have HL2 := Aside0.mk (show l2.length = l.length + 1 from by rw [← hl2]; simp); have HN3 := Aside0.mk (Y.DN.app HN1.out (by decide) HG0.out ho hb hg); clear ho hb hg hat hl2 HN1)
       go_roundg gk
       case measure => omega
       case rel => exact ⟨l2, A2, c2, rfl, ⟨by have := HI.out; have := HQ.out; have := HX.out; have := HL2.out; omega⟩, HN3⟩
      case false =>
       go_wp2
       go_meet
       case rel => exact ⟨l, A, c, rfl, ⟨by have := HI.out; omega⟩, HN1⟩
   case rest =>
    obtain ⟨l, A, c, rfl, HM, HN⟩ := hcut
    go_wp2
    go_ret
    exact ⟨_, l, rfl, HN.out.2.2, by have := HM.out; omega, HN.out.1, HN.out.2.1⟩
theorem Y.i57 : (Tryz.prog.info? 57).map (fun i => (i.zero, i.size, i.bytes)) = some (some (.agg #[(.string ⟨#[]⟩), (.slice none 0 0), (.slice none 0 0), (.int .i64 0), (.bool false)]), 5, 80) := by kernel_rfl
theorem Y.R_blk {α : Type} {d : Kd α} {e t base b : Nat} {W : World} {v : Value} {xs : List α} {cs : Array Value} (h : d.R e W base (fun _ => True) v xs) (hb : W.heap[b]? = some (.cells cs t (0, 0))) (ht : ∀ q, q ∈ d.E → q ≠ t) (hn : some b ≠ v.ownBlock) : d.R e W base (fun k => True ∧ k ≠ b) v xs := by
 obtain ⟨_, inner, hown, hr⟩ := h
 refine ⟨fun k hk => ⟨trivial, fun e => hn (by rw [← e, hk])⟩, inner, hown, hr.imp_ (fun p c hp => d.M_mono (fun k hk => ⟨⟨trivial, fun e => ?_⟩, hk.1.2⟩) (d.M_bound hp))⟩
 obtain ⟨_, _, _, q, hq, cells, hc⟩ := hk
 rw [e, hb] at hc
 injection hc with hc
 injection hc with _ hc
 exact ht q hq hc.symm
def Y.BR (w0 w W : World) (g b5 : Nat) (v : Value) (l : List S57) (who : ByteArray) (v1 v2 : Value) (right : Int) (allow : Bool) : Prop :=
 Y.DN k57 57 w0 w W g v l ∧ W.heap[b5]? = some (.cells #[.string who, v1, v2, .int .i64 right, .bool allow] 57 (0, 0)) ∧ (w.heap.size ≤ b5 ∧ g < w.heap.size ∧ w0.heap.size ≤ w.heap.size ∧ some b5 ≠ v.ownBlock) ∧ (∃ xs : List S96, Kd.R k96 96 W w.heap.size (fun _ => True) v1 xs ∧ xs.length ≤ 1000) ∧ ∃ ys : List ByteArray, Kd.R Kd.string 9 W w.heap.size (fun _ => True) v2 ys ∧ ys.length ≤ 1000
section
variable {w0 w W W1 : World} {g b5 : Nat} {v v1 v2 : Value} {l : List S57} {who : ByteArray} {right : Int} {allow : Bool}
theorem Y.BR.keep (h : Y.BR w0 w W g b5 v l who v1 v2 right allow) (hs : Y.DS w0 W1 g) (hk : KeepBut W W1 g none) : Y.BR w0 w W1 g b5 v l who v1 v2 right allow := by
 obtain ⟨h1, h2, h3, ⟨xs, h4, h5⟩, ys, h6, h7⟩ := h
 exact ⟨Y.DN.keep h1 hs hk (by decide), hk.blk h2 (by omega) (by simp), h3, ⟨xs, Y.RK.keep h4 h1.1 (by decide) hk, h5⟩, ys, Y.RK.keep h6 h1.1 (by decide) hk, h7⟩
theorem Y.BR.cells (h : Y.BR w0 w W g b5 v l who v1 v2 right allow) : (W.cell? ⟨b5, 0, none⟩ = some (.string who) ∧ W.cell? ⟨b5, 1, none⟩ = some v1 ∧ W.cell? ⟨b5, 2, none⟩ = some v2 ∧ W.cell? ⟨b5, 3, none⟩ = some (.int .i64 right) ∧ W.cell? ⟨b5, 4, none⟩ = some (.bool allow)) ∧ ∀ i, W.frozen? ⟨b5, i, none⟩ = false :=
 ⟨⟨(blk_cell h.2.1 0).trans rfl, (blk_cell h.2.1 1).trans rfl, (blk_cell h.2.1 2).trans rfl, (blk_cell h.2.1 3).trans rfl, (blk_cell h.2.1 4).trans rfl⟩, fun i => blk_frozen h.2.1 i⟩
theorem Y.BR.put (h : Y.BR w0 w W g b5 v l who v1 v2 right allow) (j : Nat) (u : Value) {who' : ByteArray} {v1' v2' : Value} {right' : Int} {allow' : Bool} (e : (#[.string who, v1, v2, .int .i64 right, .bool allow] : Array Value).setIfInBounds j u = #[.string who', v1', v2', .int .i64 right', .bool allow']) 
  (h1 : ∃ xs : List S96, Kd.R k96 96 W w.heap.size (fun _ => True) v1' xs ∧ xs.length ≤ 1000) (h2 : ∃ ys : List ByteArray, Kd.R Kd.string 9 W w.heap.size (fun _ => True) v2' ys ∧ ys.length ≤ 1000) : Y.BR w0 w (W.setCell ⟨b5, j, none⟩ u) g b5 v l who' v1' v2' right' allow' := by
 obtain ⟨⟨a1, a2, a3⟩, b1, b2, _⟩ := h
 obtain ⟨xs, c1, c2⟩ := h1
 obtain ⟨ys, c3, c4⟩ := h2
 exact ⟨⟨Y.DS.far a1 (by omega) (by omega) u, keep_far a2 (p := ⟨b5, j, none⟩) b2.1 u, Kd.R_mono (Kd.R_far (p := ⟨b5, j, none⟩) (Y.R_blk a3 b1 (by decide) b2.2.2.2) (fun k hk => hk.2) u) (fun _ _ => trivial)⟩, blk_put b1 j u e, b2, ⟨xs, Kd.R_set c1 b1 (by decide) j u, c2⟩, ys, Kd.R_set c3 b1 (by decide) j u, c4⟩
end
theorem Y.acl_ (g : Nat) (w0 w : World) (h : Y.DS w0 w g) :
  Calls Tryz.prog 56 #[.pointer (some ⟨g, 0, none⟩)] w fun e w' => ∃ (v : Value) (r : List S57), e = .returned v ∧ Kd.R k57 57 w' w.heap.size (fun _ => True) v r ∧ Y.RU r ∧ Y.DS w0 w' g ∧ KeepBut w w' g none := by
 have hu57 := Tryz.underlying57
 have hu96 := Tryz.underlying96
 have HG := Aside0.mk (Y.DS.lt h)
 have HG0 := Aside0.mk (show w0.heap.size ≤ w.heap.size from below_size h.2)
 have HD := Aside0.mk h
 clear h
 go_enter Tryz.func56, Tryz.ntmps56
 go_upto_region 2 with ((with_reducible refine gate_dst (N := 6) rfl ?_); refine Kd.R_lit k57 (w0 := w) w.heap.size 57 ?hg (N := 6) ?hd (xs := ([] : List S57)) (inner := []) (ok := fun _ => True) (okp := fun _ => False) ?hr ?hp (fun _ hk => hk.elim) trivial (Below.refl _ _) (Nat.le_refl _) (by simp) ?_; (case hd => rfl); (case hg => rfl); (case hr => first | (go_simp; done) | (go_simp; rfl)); (case hp => exact (Reps.none _ _)); intro v6 w1 ho hb hg hnew; generalize hn0 : ([] : List S57) = l at ho; obtain ⟨A, c, e5⟩ := Kd.R_slice ho; subst e5; have HL0 := Aside0.mk (show l.length = 0 from by rw [← hn0]; rfl); have hbn := Y.below_none hg; have HN := Aside0.mk (show Y.DN k57 57 w0 w w1 g (.slice A l.length c) l from ⟨Y.DS.below HD.out hbn, KeepBut.of_below hbn g none, ho⟩); clear ho hb hg hnew hbn hn0 HD)
 go_wp2_with (go_at_call 51; refine (Y.DS.n HN.out.1 6 (by decide)).mono ?_; rintro e w2 ⟨q0, rfl, n0, n1, hs, hk⟩; have HXq0 := Aside0.mk (And.intro n0 (n1 (by decide))); have HN1 := Aside0.mk (Y.DN.keep HN.out hs hk (by decide)); clear hs hk n0 n1 HN)
 go_loopg [3, 4] 6 (fun kq v3 v4 w' => ∃ (q : Int) (l : List S57) (A : Option Addr) (c : Nat), v3 = .slice A l.length c ∧ v4 = .int .i64 q ∧ Aside0 (0 ≤ q ∧ q ≤ 5 ∧ q.toNat ≤ kq ∧ l.length + q.toNat ≤ 5) ∧ Aside0 (Y.RU l) ∧ Aside0 (Y.DN k57 57 w0 w w' g (.slice A l.length c) l))
 case atStart => exact ⟨q0, l, A, c, rfl, rfl, ⟨by have := HXq0.out; have := HL0.out; omega⟩, ⟨by have := HL0.out; omega, fun x hx => by rw [List.length_eq_zero_iff.1 HL0.out] at hx; cases hx⟩, HN1⟩
 case round =>
  clear HN1 HXq0 HL0
  obtain ⟨q, l, A, c, rfl, rfl, HI, HU, HN⟩ := hrel
  cases hcb : decide (0 < q)
  case false =>
   go_wp2
   go_ret
   exact ⟨_, l, rfl, HN.out.2.2, HU.out, HN.out.1, HN.out.2.1⟩
  have HQ := Aside0.mk (of_decide_eq_true hcb)
  obtain ⟨gk, rfl⟩ : ∃ z, gk = z + 1 := ⟨gk - 1, by have := HI.out; have := HQ.out; omega⟩
  have HW := Aside0.mk (show wrap64 (q - 1) = q - 1 from by have := HI.out; have := HQ.out; unfold wrap64; omega)
  go_upto_region 6 with (first | (go_at_call 53; refine (Y.DS.pick HN.out.1 [(⟨#[42]⟩ : ByteArray), (⟨#[97, 110, 110]⟩ : ByteArray), (⟨#[98, 111, 98]⟩ : ByteArray)] (by decide) (by decide)).mono ?_; rintro e w3 ⟨t1, rfl, ht, hs, hk⟩; clear ht; have HN1 := Aside0.mk (Y.DN.keep HN.out hs hk (by decide)); clear hs hk HN) | (go_at_call 51; refine (Y.DS.n HN1.out.1 4 (by decide)).mono ?_; rintro e w4 ⟨r1, rfl, n0, n1, hs, hk⟩; have hw1 : wrap64 (1 + r1) = 1 + r1 := Y.w64 (by omega) (by have := n1 (by decide); omega); clear n0 n1; have HN2 := Aside0.mk (Y.DN.keep HN1.out hs hk (by decide)); clear hs hk HN1) | (go_at_call 87; refine (Y.DS.one HN2.out.1 3 (by decide)).mono ?_; rintro e w5 ⟨r2, rfl, hs, hk⟩; have HN3 := Aside0.mk (Y.DN.keep HN2.out hs hk (by decide)); clear hs hk HN2) | ((with_reducible refine gate_dst (N := 5) rfl ?_); refine box_event ?hg (N := 5) ?hd (cs := #[.string (⟨#[]⟩ : ByteArray), .slice none 0 0, .slice none 0 0, .int .i64 0, .bool false]) (t := 57) ?hr ?_; (case hd => rfl); (case hg => rfl); (case hr => first | (go_simp; done) | (go_simp; rfl)); intro b5 hg5 w7 hbox5 hb7; have HB7 := Aside0.mk (show Y.BR w0 w w7 g b5 (.slice A l.length c) l ⟨#[]⟩ (.slice none 0 0) (.slice none 0 0) 0 false from ⟨Y.DN.keep HN3.out (Y.DS.below HN3.out.1 hb7) (KeepBut.of_below hb7 g none) (by decide), hbox5, ⟨by have := keep_size HN3.out.2.1; omega, HG.out, HG0.out, fun e => by have := Kd.R_lt HN3.out.2.2 b5 e.symm; omega⟩, ⟨[], Kd.R_nil _ _ _ _ _, by simp⟩, ⟨[], Kd.R_nil _ _ _ _ _, by simp⟩⟩); obtain ⟨⟨k0, k1, k2, k3, k4⟩, fz⟩ := Y.BR.cells HB7.out; have f0 := fz 0; have f1 := fz 1; have f2 := fz 2; have f3 := fz 3; have f4 := fz 4; clear fz hg5 hbox5 hb7 HN3))
  have HS := Aside0.mk (Y.BR.put (Y.BR.put (Y.BR.put (Y.BR.put (Y.BR.put (HB7.out) 0 (.string t1) rfl ⟨[], Kd.R_nil _ _ _ _ _, by simp⟩ ⟨[], Kd.R_nil _ _ _ _ _, by simp⟩) 1 (.slice none 0 0) rfl ⟨[], Kd.R_nil _ _ _ _ _, by simp⟩ ⟨[], Kd.R_nil _ _ _ _ _, by simp⟩) 2 (.slice none 0 0) rfl ⟨[], Kd.R_nil _ _ _ _ _, by simp⟩ ⟨[], Kd.R_nil _ _ _ _ _, by simp⟩) 3 (.int .i64 (1 + r1)) rfl ⟨[], Kd.R_nil _ _ _ _ _, by simp⟩ ⟨[], Kd.R_nil _ _ _ _ _, by simp⟩) 4 (.bool (!r2)) rfl ⟨[], Kd.R_nil _ _ _ _ _, by simp⟩ ⟨[], Kd.R_nil _ _ _ _ _, by simp⟩)
  clear HB7 hw1 hcb k0 k1 k2 k3 k4 f0 f1 f2 f3 f4
  generalize ((((w7.setCell ⟨b5, 0, none⟩ (.string t1)).setCell ⟨b5, 1, none⟩ (.slice none 0 0)).setCell ⟨b5, 2, none⟩ (.slice none 0 0)).setCell ⟨b5, 3, none⟩ (.int .i64 (1 + r1))).setCell ⟨b5, 4, none⟩ (.bool (!r2)) = W8 at HS ⊢
  generalize (1 + r1) = right at HS
  generalize (!r2) = allow at HS
  go_upto_if 24 with (go_at_call 87; refine (Y.DS.one HS.out.1.1 2 (by decide)).mono ?_; rintro e w9 ⟨r3, rfl, hs, hk⟩; have HS1 := Aside0.mk (Y.BR.keep HS.out hs hk); clear hs hk HS)
  go_cut [] (fun wc => ∃ v1 : Value, Aside0 (Y.BR w0 w wc g b5 (.slice A l.length c) l t1 v1 (.slice none 0 0) right allow))
  case first =>
   cases r3 with
   | false =>
    go_wp2
    go_meet
    case rel => exact ⟨_, HS1⟩
   | true =>
    go_wp2_with ((with_reducible refine gate_dst (N := 26) rfl ?_); refine Kd.R_lit k96 (w0 := w9) w.heap.size 96 ?hg (N := 26) ?hd (xs := ([(⟨(⟨#[111, 117]⟩ : ByteArray), (⟨#[120]⟩ : ByteArray)⟩ : S96)] : List S96)) (inner := [.string (⟨#[111, 117]⟩ : ByteArray), .string (⟨#[120]⟩ : ByteArray)]) (ok := fun _ => True) (okp := fun _ => False) ?hr ?hp (fun _ hk => hk.elim) trivial (Below.refl _ _) (keep_size HS1.out.1.2.1) (by simp) ?_; (case hd => rfl); (case hg => rfl); (case hr => first | (go_simp; done) | (go_simp; rfl)); (case hp => exact (Reps.c2 (k96_mkM _ _ _ (⟨(⟨#[111, 117]⟩ : ByteArray), (⟨#[120]⟩ : ByteArray)⟩ : S96)) (Reps.none _ _))); intro v26 w10 ho hb hg hnew; obtain ⟨A1, c1, e26⟩ := Kd.R_slice ho; subst e26; have hbn := Y.below_none hg; have HR := Aside0.mk ho; have HS2 := Aside0.mk (Y.BR.keep HS1.out (Y.DS.below HS1.out.1.1 hbn) (KeepBut.of_below hbn g none)); obtain ⟨⟨k0, k1, k2, k3, k4⟩, fz⟩ := Y.BR.cells HS2.out; have f1 := fz 1; clear ho hb hg hnew hbn HS1 fz)
    go_meet
    case rel => exact ⟨_, ⟨Y.BR.put HS2.out 1 _ rfl ⟨_, HR.out, by simp⟩ HS2.out.2.2.2.2⟩⟩
  case rest =>
  obtain ⟨v1, HS⟩ := hcut
  clear HS1
  go_upto_if 29 with (go_at_call 87; refine (Y.DS.one HS.out.1.1 3 (by decide)).mono ?_; rintro e w11 ⟨r4, rfl, hs, hk⟩; have HS3 := Aside0.mk (Y.BR.keep HS.out hs hk); clear hs hk HS)
  go_cut [] (fun wd => ∃ v2 : Value, Aside0 (Y.BR w0 w wd g b5 (.slice A l.length c) l t1 v1 v2 right allow))
  case first =>
   cases r4 with
   | false =>
    go_wp2
    go_meet
    case rel => exact ⟨_, HS3⟩
   | true =>
    go_wp2_with ((with_reducible refine gate_dst (N := 30) rfl ?_); refine Kd.R_lit Kd.string (w0 := w11) w.heap.size 9 ?hg (N := 30) ?hd (xs := ([(⟨#[99, 110]⟩ : ByteArray), (⟨#[117, 105, 100]⟩ : ByteArray)] : List ByteArray)) (inner := [.string (⟨#[99, 110]⟩ : ByteArray), .string (⟨#[117, 105, 100]⟩ : ByteArray)]) (ok := fun _ => True) (okp := fun _ => False) ?hr ?hp (fun _ hk => hk.elim) trivial (Below.refl _ _) (keep_size HS3.out.1.2.1) (by simp) ?_; (case hd => rfl); (case hg => rfl); (case hr => first | (go_simp; done) | (go_simp; rfl)); (case hp => exact (Reps.one (show Kd.M Kd.string _ _ _ (⟨#[99, 110]⟩ : ByteArray) [.string (⟨#[99, 110]⟩ : ByteArray)] from rfl) (Reps.one (show Kd.M Kd.string _ _ _ (⟨#[117, 105, 100]⟩ : ByteArray) [.string (⟨#[117, 105, 100]⟩ : ByteArray)] from rfl) (Reps.none _ _)))); intro v30 w12 ho hb hg hnew; obtain ⟨A1, c1, e30⟩ := Kd.R_slice ho; subst e30; have hbn := Y.below_none hg; have HR := Aside0.mk ho; have HS4 := Aside0.mk (Y.BR.keep HS3.out (Y.DS.below HS3.out.1.1 hbn) (KeepBut.of_below hbn g none)); obtain ⟨⟨k0, k1, k2, k3, k4⟩, fz⟩ := Y.BR.cells HS4.out; have f2 := fz 2; clear ho hb hg hnew hbn HS3 fz)
    go_meet
    case rel => exact ⟨_, ⟨Y.BR.put HS4.out 2 _ rfl HS4.out.2.2.2.1 ⟨_, HR.out, by simp⟩⟩⟩
  case rest =>
  obtain ⟨v2, HS⟩ := hcut
  clear HS3
  go_upto_if 33 with (go_at_call 87; refine (Y.DS.one HS.out.1.1 30 (by decide)).mono ?_; rintro e w13 ⟨r5, rfl, hs, hk⟩; have HS5 := Aside0.mk (Y.BR.keep HS.out hs hk); clear hs hk HS)
  go_cut [] (fun wd => ∃ (who : ByteArray) (right : Int), Aside0 (Y.BR w0 w wd g b5 (.slice A l.length c) l who v1 v2 right allow))
  case first =>
   cases r5 with
   | false =>
    go_wp2
    go_meet
    case rel => exact ⟨_, _, HS5⟩
   | true =>
    go_upto_region 12 with (go_at_call 51; refine (Y.DS.n HS5.out.1.1 6 (by decide)).mono ?_; rintro e w14 ⟨r6, rfl, n0, n1, hs, hk⟩; clear n0 n1; have HS6 := Aside0.mk (Y.BR.keep HS5.out hs hk); clear hs hk HS5; obtain ⟨⟨k0, k1, k2, k3, k4⟩, fz⟩ := Y.BR.cells HS6.out; have f3 := fz 3; clear fz)
    have HS7 := Aside0.mk (Y.BR.put HS6.out 3 (.int .i64 r6) rfl HS6.out.2.2.2.1 HS6.out.2.2.2.2)
    clear HS6 k0 k1 k2 k3 k4 f3
    generalize World.setCell _ ⟨b5, 3, none⟩ (.int .i64 r6) = W9 at HS7 ⊢
    go_wp2_with (go_at_call 53; refine (Y.DS.pick HS7.out.1.1 [(⟨#[97, 110, 110]⟩ : ByteArray), (⟨#[]⟩ : ByteArray)] (by decide) (by decide)).mono ?_; rintro e w16 ⟨t9, rfl, ht, hs, hk⟩; clear ht; have HS8 := Aside0.mk (Y.BR.keep HS7.out hs hk); clear hs hk HS7; obtain ⟨⟨k0, k1, k2, k3, k4⟩, fz⟩ := Y.BR.cells HS8.out; have f0 := fz 0; clear fz)
    go_meet
    case rel => exact ⟨_, _, ⟨Y.BR.put HS8.out 0 _ rfl HS8.out.2.2.2.1 HS8.out.2.2.2.2⟩⟩
  case rest =>
  obtain ⟨who, right, HS6⟩ := hcut
  clear HS5
  obtain ⟨⟨xs, h1, h2⟩, ys, h3, h4⟩ := HS6.out.2.2.2
  obtain ⟨A1, c1, rfl⟩ := Kd.R_slice h1
  obtain ⟨A2, c2, rfl⟩ := Kd.R_slice h3
  have HR1 := Aside0.mk (And.intro h1 h2)
  have HR2 := Aside0.mk (And.intro h3 h4)
  clear h1 h2 h3 h4
  obtain ⟨⟨k0, k1, k2, k3, k4⟩, _⟩ := Y.BR.cells HS6.out
  go_wp2_with (at_builtin; refine Kd.R_append k57 (w0 := wc) w.heap.size rfl (.tmp 41) (.tmp 43) 43 57 (.agg #[(.string ⟨#[]⟩), (.slice none 0 0), (.slice none 0 0), (.int .i64 0), (.bool false)]) 80 rfl Tryz.underlying43 Y.i57 rfl (by decide) (by omega) (.slice A l.length c) l (⟨who, xs, ys, right, allow⟩ : S57) [.string who, .slice A1 xs.length c1, .slice A2 ys.length c2, .int .i64 right, .bool allow] (fun _ => True) (fun k => True ∧ some k ≠ (Value.slice A l.length c).ownBlock) rfl rfl (k57_mkM _ _ _ (⟨who, xs, ys, right, allow⟩ : S57) (Kd.R_apart' HR1.out.1 (Kd.R_typed HS6.out.1.2.2) (by decide)) (Kd.R_apart' HR2.out.1 (Kd.R_typed HS6.out.1.2.2) (by decide))) (fun _ h => h) (fun _ _ => trivial) HS6.out.1.2.2 (Below.refl _ _) (keep_size HS6.out.1.2.1) (by have := HI.out; omega) ?_; intro vA w20 ho hb hg hat; generalize hl2 : l ++ [(⟨who, xs, ys, right, allow⟩ : S57)] = l2 at ho; obtain ⟨A3, c3, e3⟩ := Kd.R_slice ho; subst e3; have HL2 := Aside0.mk hl2; have HLN := Aside0.mk (show l2.length = l.length + 1 from by rw [← hl2]; simp); have HN9 := Aside0.mk (Y.DN.app HS6.out.1 (by decide) HG0.out ho hb hg); clear ho hb hg hat hl2 HS6 k0 k1 k2 k3 k4)
  go_roundg gk
  case measure => omega
  case rel => exact ⟨q - 1, l2, A3, c3, rfl, by rw [HW.out], ⟨by have := HI.out; have := HQ.out; have := HLN.out; omega⟩, ⟨by have := HI.out; rw [← HL2.out, List.length_append]; simp; omega, fun x hx => by rw [← HL2.out] at hx; rcases List.mem_append.1 hx with h | h; exact HU.out.2 x h; rw [List.mem_singleton.1 h]; exact ⟨HR1.out.2, HR2.out.2⟩⟩, HN9⟩
def Y.VS (w W : World) (g3 g6 : Nat) (cs3 : Array Value) : Prop := Below w.heap.size w W ∧ W.heap[g3]? = some (.cells cs3 51 (0, 0)) ∧ W.heap[g6]? = some (.cells #[.slice none 0 0, .slice none 0 0, .int .i64 0] 119 (0, 0)) ∧ w.heap.size ≤ g6
theorem Y.VS.below {w W W1 : World} {g3 g6 : Nat} {cs3 : Array Value} (h : Y.VS w W g3 g6 cs3) (hb : Below W.heap.size W W1) : Y.VS w W1 g3 g6 cs3 := ⟨below_step h.1 hb, blk_below h.2.1 hb, blk_below h.2.2.1 hb, h.2.2.2⟩
theorem Y.vadd (HT : Y.TOT2) (A0 : Option Addr) (c0 : Nat) (dn : List S96) (A1 : Option Addr) (c1 : Nat) (at_ : List S117) (name value : ByteArray) (w : World)
  (hr0 : Kd.C k96 w A0 dn.length dn) (hc0 : dn.length ≤ c0) (hr1 : Kd.C k117 w A1 at_.length at_) (hc1 : at_.length ≤ c1) (hn0 : dn.length ≤ 1000) (hn1 : at_.length ≤ 500) (hn2 : ∀ a ∈ at_, Y.AV a) (hnm : name.size ≤ 8000) (hv : value.size ≤ 8000) :
  Calls Tryz.prog 91 #[.agg #[.slice A0 dn.length c0, .slice A1 at_.length c1], .string name, .string value] w fun e w' => ∃ (v0 v1 : Value) (code : Int), e = .returned (.agg #[v0, v1, .int .i64 code]) ∧ Y.EO w w' (at_.length + 1) v0 v1 ∧ Below w.heap.size w w' := by
 obtain ⟨ke, re, hke⟩ := HT.2.1 dn at_ hn0 (by omega) hn2
 obtain ⟨kn, rn, hkn⟩ := HT.2.2.1 name hnm
 obtain ⟨kv, rv, hkv⟩ := HT.2.2.2.1 value hv
 have HLG := Aside0.mk (show Vg.f name value = some false from by unfold Vg.f; rw [if_neg (by omega), decide_eq_false (by omega)])
 have hu51 := Tryz.underlying51
 have hu119 := Tryz.underlying119
 have HR := Aside0.mk (And.intro hr0 hr1)
 have HC := Aside0.mk (And.intro hc0 hc1)
 have HN := Aside0.mk (And.intro hn0 (And.intro hn1 hn2))
 have HKE := Aside0.mk hke
 have HKN := Aside0.mk hkn
 have HKV := Aside0.mk hkv
 have HV := Aside0.mk hv
 have HTT := Aside0.mk HT.1
 clear hr0 hr1 hc0 hc1 hn0 hn1 hn2 hke hkn hkv hnm hv HT
 go_enter Tryz.func91, Tryz.ntmps91
 go_upto_region 3 with (first | ((with_reducible refine gate_dst (N := 3) rfl ?_); refine box_event ?hg (N := 3) ?hd (cs := #[.slice A0 dn.length c0, .slice A1 at_.length c1]) (t := 51) ?hr ?_; (case hd => rfl); (case hg => rfl); (case hr => first | (go_simp; done) | (go_simp; rfl)); intro g3 hg3 w3 hbox3 hb3; have HB3 := Aside0.mk hb3; have HG3 := Aside0.mk hbox3; clear hg3 hb3 hbox3) | ((with_reducible refine gate_dst (N := 6) rfl ?_); refine box_event ?hg (N := 6) ?hd (cs := #[.slice none 0 0, .slice none 0 0, .int .i64 0]) (t := 119) ?hr ?_; (case hd => rfl); (case hg => rfl); (case hr => first | (go_simp; done) | (go_simp; rfl)); intro g6 hg6 w6 hbox6 hb6; have HV6 := Aside0.mk (show Y.VS w w6 g3 g6 #[.slice A0 dn.length c0, .slice A1 at_.length c1] from ⟨below_step HB3.out hb6, blk_below HG3.out hb6, hbox6, by rw [hg6]; exact below_size HB3.out⟩); clear hg6 hb6 hbox6 HB3 HG3) | (go_at_call 126; refine (Vg.calls name value false w6 HLG.out).mono ?_; rintro e w7 ⟨rfl, hb⟩; have hb := Drawn0.below hb; have HV7 := Aside0.mk (Y.VS.below HV6.out hb); clear hb HV6))
 have c30 : w7.cell? ⟨g3, 0, none⟩ = some (.slice A0 dn.length c0) := (blk_cell HV7.out.2.1 0).trans rfl
 have c31 : w7.cell? ⟨g3, 1, none⟩ = some (.slice A1 at_.length c1) := (blk_cell HV7.out.2.1 1).trans rfl
 go_cut [23] (fun v23 wc => ∃ b : Bool, v23 = .bool b ∧ Aside0 (Y.VS w wc g3 g6 #[.slice A0 dn.length c0, .slice A1 at_.length c1]))
 case first =>
  cases re with
  | false =>
   go_wp2_with (go_at_call 74; refine (Qn.calls ke A0 c0 dn A1 c1 at_ false w7 (Kd.C_below HR.out.1 HV7.out.1) HC.out.1 (Kd.C_below HR.out.2 HV7.out.1) HC.out.2 HKE.out).mono ?_; rintro e w8 ⟨rfl, hb⟩; have HV8 := Aside0.mk (Y.VS.below HV7.out hb); clear hb HV7 c30 c31)
   go_meet
   case rel => exact ⟨_, rfl, HV8⟩
  | true =>
   cases rn with
   | false =>
    go_wp2_with (first | (go_at_call 74; refine (Qn.calls ke A0 c0 dn A1 c1 at_ true w7 (Kd.C_below HR.out.1 HV7.out.1) HC.out.1 (Kd.C_below HR.out.2 HV7.out.1) HC.out.2 HKE.out).mono ?_; rintro e w8 ⟨rfl, hb⟩; have HV8 := Aside0.mk (Y.VS.below HV7.out hb); clear hb HV7 c30 c31) | (go_at_call 36; refine (Qq.calls kn name false w8 HKN.out).mono ?_; rintro e w9 ⟨rfl, hb⟩; have hb := Drawn0.below hb; have HV9 := Aside0.mk (Y.VS.below HV8.out hb); clear hb HV8))
    go_meet
    case rel => exact ⟨_, rfl, HV9⟩
   | true =>
    cases rv with
    | false =>
     go_wp2_with (first | (go_at_call 74; refine (Qn.calls ke A0 c0 dn A1 c1 at_ true w7 (Kd.C_below HR.out.1 HV7.out.1) HC.out.1 (Kd.C_below HR.out.2 HV7.out.1) HC.out.2 HKE.out).mono ?_; rintro e w8 ⟨rfl, hb⟩; have HV8 := Aside0.mk (Y.VS.below HV7.out hb); clear hb HV7 c30 c31) | (go_at_call 36; refine (Qq.calls kn name true w8 HKN.out).mono ?_; rintro e w9 ⟨rfl, hb⟩; have hb := Drawn0.below hb; have HV9 := Aside0.mk (Y.VS.below HV8.out hb); clear hb HV8) | (go_at_call 75; refine (Va.calls kv value false w9 HKV.out).mono ?_; rintro e w10 ⟨rfl, hb⟩; have HV10 := Aside0.mk (Y.VS.below HV9.out hb); clear hb HV9))
     go_meet
     case rel => exact ⟨_, rfl, HV10⟩
    | true =>
     go_wp2_with (first | (go_at_call 74; refine (Qn.calls ke A0 c0 dn A1 c1 at_ true w7 (Kd.C_below HR.out.1 HV7.out.1) HC.out.1 (Kd.C_below HR.out.2 HV7.out.1) HC.out.2 HKE.out).mono ?_; rintro e w8 ⟨rfl, hb⟩; have HV8 := Aside0.mk (Y.VS.below HV7.out hb); clear hb HV7 c30 c31) | (go_at_call 36; refine (Qq.calls kn name true w8 HKN.out).mono ?_; rintro e w9 ⟨rfl, hb⟩; have hb := Drawn0.below hb; have HV9 := Aside0.mk (Y.VS.below HV8.out hb); clear hb HV8) | (go_at_call 75; refine (Va.calls kv value true w9 HKV.out).mono ?_; rintro e w10 ⟨rfl, hb⟩; have HV10 := Aside0.mk (Y.VS.below HV9.out hb); clear hb HV9))
     go_meet
     case rel => exact ⟨_, rfl, HV10⟩
 case rest =>
  obtain ⟨b, rfl, HV9⟩ := hcut
  clear HV7 c30 c31
  cases b
  case true =>
   go_wp2_with (go_at_call 127; refine (Ve.calls 1 [] [] 1 wc rfl).mono ?_; rintro e w20 ⟨v0, v1, rfl, hR0, hS1, hb⟩; have HV10 := Aside0.mk (Y.VS.below HV9.out hb); have hE : Y.EO w w20 (at_.length + 1) v0 v1 := ⟨⟨[], Kd.R_lower hR0 (below_size HV9.out.1), by simp⟩, [], Kd.R_lower (Kd.S_R hS1) (below_size HV9.out.1), by simp, by simp⟩; obtain ⟨⟨dn2, q1, q2⟩, at2, q3, q4⟩ := hE; obtain ⟨A8, c8, rfl⟩ := Kd.R_slice q1; obtain ⟨A9, c9, rfl⟩ := Kd.R_slice q3; have HE := Aside0.mk (show Y.EO w w20 (at_.length + 1) (.slice A8 dn2.length c8) (.slice A9 at2.length c9) from ⟨⟨dn2, q1, q2⟩, at2, q3, q4⟩); have g0 : w20.cell? ⟨g6, 0, none⟩ = some (.slice none 0 0) := (blk_cell HV10.out.2.2.1 0).trans rfl; have g1 : w20.cell? ⟨g6, 1, none⟩ = some (.slice none 0 0) := (blk_cell HV10.out.2.2.1 1).trans rfl; have g2 : w20.cell? ⟨g6, 2, none⟩ = some (.int .i64 0) := (blk_cell HV10.out.2.2.1 2).trans rfl; have f0 := blk_frozen HV10.out.2.2.1 0; have f1 := blk_frozen HV10.out.2.2.1 1; have f2 := blk_frozen HV10.out.2.2.1 2; clear q1 q2 q3 q4; clear hR0 hS1 hb HV9)
   refine bodyPost_ret (results_cell_row rfl _ _ g6 119 #[(.slice A8 dn2.length c8), (.slice A9 at2.length c9), .int .i64 1] (0, 0) _ rfl (blk_put (blk_put (blk_put HV10.out.2.2.1 0 (.slice A8 dn2.length c8) rfl) 1 (.slice A9 at2.length c9) rfl) 2 (.int .i64 1) rfl) Tryz.underlying119 rfl (by kernel_rfl)) rfl ?_
   have h1 := blk_put HV10.out.2.2.1 0 (.slice A8 dn2.length c8) rfl
   have h2 := blk_put h1 1 (.slice A9 at2.length c9) rfl
   exact ⟨_, _, _, rfl, Y.EO.set (Y.EO.set (Y.EO.set HE.out HV10.out.2.2.1 0 _) h1 1 _) h2 2 _, below_set (below_set (below_set HV10.out.1 HV10.out.2.2.2) HV10.out.2.2.2) HV10.out.2.2.2⟩
  have c30 : wc.cell? ⟨g3, 0, none⟩ = some (.slice A0 dn.length c0) := (blk_cell HV9.out.2.1 0).trans rfl
  have c31 : wc.cell? ⟨g3, 1, none⟩ = some (.slice A1 at_.length c1) := (blk_cell HV9.out.2.1 1).trans rfl
  go_wp2_with (go_at_call 128; refine (Y.add HTT.out A0 c0 dn A1 c1 at_ name value wc (Kd.C_below HR.out.1 HV9.out.1) HC.out.1 (Kd.C_below HR.out.2 HV9.out.1) HC.out.2 HN.out.1 HN.out.2.1 HN.out.2.2 HV.out).mono ?_; rintro e w20 ⟨v0, v1, code, rfl, hE0, hb⟩; have HV10 := Aside0.mk (Y.VS.below HV9.out hb); have hE := Y.EO.lower hE0 (below_size HV9.out.1); obtain ⟨⟨dn2, q1, q2⟩, at2, q3, q4⟩ := hE; obtain ⟨A8, c8, rfl⟩ := Kd.R_slice q1; obtain ⟨A9, c9, rfl⟩ := Kd.R_slice q3; have HE := Aside0.mk (show Y.EO w w20 (at_.length + 1) (.slice A8 dn2.length c8) (.slice A9 at2.length c9) from ⟨⟨dn2, q1, q2⟩, at2, q3, q4⟩); have g0 : w20.cell? ⟨g6, 0, none⟩ = some (.slice none 0 0) := (blk_cell HV10.out.2.2.1 0).trans rfl; have g1 : w20.cell? ⟨g6, 1, none⟩ = some (.slice none 0 0) := (blk_cell HV10.out.2.2.1 1).trans rfl; have g2 : w20.cell? ⟨g6, 2, none⟩ = some (.int .i64 0) := (blk_cell HV10.out.2.2.1 2).trans rfl; have f0 := blk_frozen HV10.out.2.2.1 0; have f1 := blk_frozen HV10.out.2.2.1 1; have f2 := blk_frozen HV10.out.2.2.1 2; clear q1 q2 q3 q4; clear hE0 hb HV9 c30 c31)
  refine bodyPost_ret (results_cell_row rfl _ _ g6 119 #[(.slice A8 dn2.length c8), (.slice A9 at2.length c9), .int .i64 code] (0, 0) _ rfl (blk_put (blk_put (blk_put HV10.out.2.2.1 0 (.slice A8 dn2.length c8) rfl) 1 (.slice A9 at2.length c9) rfl) 2 (.int .i64 code) rfl) Tryz.underlying119 rfl (by kernel_rfl)) rfl ?_
  have h1 := blk_put HV10.out.2.2.1 0 (.slice A8 dn2.length c8) rfl
  have h2 := blk_put h1 1 (.slice A9 at2.length c9) rfl
  exact ⟨_, _, _, rfl, Y.EO.set (Y.EO.set (Y.EO.set HE.out HV10.out.2.2.1 0 _) h1 1 _) h2 2 _, below_set (below_set (below_set HV10.out.1 HV10.out.2.2.2) HV10.out.2.2.2) HV10.out.2.2.2⟩
def Y.FS (w0 w W : World) (g b2 b3 : Nat) (v0 v1 : Value) : Prop :=
 (Y.DS w0 W g ∧ KeepBut w W g none) ∧ (W.heap[b2]? = some (.cells #[.slice none 0 0, .slice none 0 0] 51 (0, 0)) ∧ W.heap[b3]? = some (.cells #[v0, v1] 51 (0, 0))) ∧ (w.heap.size ≤ b2 ∧ w.heap.size ≤ b3 ∧ b2 ≠ b3 ∧ g < w.heap.size ∧ w0.heap.size ≤ w.heap.size)
section
variable {w0 w W W1 : World} {g b2 b3 m m1 : Nat} {v0 v1 u0 u1 : Value}
theorem Y.FS.keep (h : Y.FS w0 w W g b2 b3 v0 v1) (hs : Y.DS w0 W1 g) (hk : KeepBut W W1 g none) : Y.FS w0 w W1 g b2 b3 v0 v1 :=
 ⟨⟨hs, h.1.2.trans hk (.inl rfl)⟩, ⟨hk.blk h.2.1.1 (by have := h.2.2; omega) (by simp), hk.blk h.2.1.2 (by have := h.2.2; omega) (by simp)⟩, h.2.2⟩
theorem Y.FS.below (h : Y.FS w0 w W g b2 b3 v0 v1) (hb : Below W.heap.size W W1) : Y.FS w0 w W1 g b2 b3 v0 v1 := Y.FS.keep h (Y.DS.below h.1.1 hb) (KeepBut.of_below hb g none)
theorem Y.FS.drew (h : Y.FS w0 w W g b2 b3 v0 v1) : Y.FS w0 w W.drew g b2 b3 v0 v1 := Y.FS.below h (below_drew (Below.refl _ _))
theorem Y.FS.cells (h : Y.FS w0 w W g b2 b3 v0 v1) : W.cell? ⟨b3, 0, none⟩ = some v0 ∧ W.cell? ⟨b3, 1, none⟩ = some v1 ∧ W.frozen? ⟨b3, 0, none⟩ = false ∧ W.frozen? ⟨b3, 1, none⟩ = false :=
 ⟨(blk_cell h.2.1.2 0).trans rfl, (blk_cell h.2.1.2 1).trans rfl, blk_frozen h.2.1.2 0, blk_frozen h.2.1.2 1⟩
theorem Y.FS.cells2 (h : Y.FS w0 w W g b2 b3 v0 v1) : W.cell? ⟨b2, 0, none⟩ = some (.slice none 0 0) ∧ W.cell? ⟨b2, 1, none⟩ = some (.slice none 0 0) ∧ W.frozen? ⟨b2, 0, none⟩ = false ∧ W.frozen? ⟨b2, 1, none⟩ = false :=
 ⟨(blk_cell h.2.1.1 0).trans rfl, (blk_cell h.2.1.1 1).trans rfl, blk_frozen h.2.1.1 0, blk_frozen h.2.1.1 1⟩
theorem Y.FS.put0 (h : Y.FS w0 w W g b2 b3 v0 v1) (u : Value) : Y.FS w0 w (W.setCell ⟨b3, 0, none⟩ u) g b2 b3 u v1 :=
 ⟨⟨Y.DS.far h.1.1 (by have := h.2.2; omega) (by have := h.2.2; omega) u, keep_far h.1.2 (p := ⟨b3, 0, none⟩) h.2.2.2.1 u⟩, ⟨blk_far (p := ⟨b3, 0, none⟩) h.2.1.1 h.2.2.2.2.1 u, blk_put h.2.1.2 0 u rfl⟩, h.2.2⟩
theorem Y.FS.put1 (h : Y.FS w0 w W g b2 b3 v0 v1) (u : Value) : Y.FS w0 w (W.setCell ⟨b3, 1, none⟩ u) g b2 b3 v0 u :=
 ⟨⟨Y.DS.far h.1.1 (by have := h.2.2; omega) (by have := h.2.2; omega) u, keep_far h.1.2 (p := ⟨b3, 1, none⟩) h.2.2.2.1 u⟩, ⟨blk_far (p := ⟨b3, 1, none⟩) h.2.1.1 h.2.2.2.2.1 u, blk_put h.2.1.2 1 u rfl⟩, h.2.2⟩
theorem Y.FS.other (h : Y.FS w0 w W g b2 b3 v0 v1) {b j : Nat} (hb : w.heap.size ≤ b) (h2 : b2 ≠ b) (h3 : b3 ≠ b) (u : Value) : Y.FS w0 w (W.setCell ⟨b, j, none⟩ u) g b2 b3 v0 v1 :=
 ⟨⟨Y.DS.far h.1.1 (by have := h.2.2; omega) (by have := h.2.2; omega) u, keep_far h.1.2 (p := ⟨b, j, none⟩) hb u⟩, ⟨blk_far (p := ⟨b, j, none⟩) h.2.1.1 h2 u, blk_far (p := ⟨b, j, none⟩) h.2.1.2 h3 u⟩, h.2.2⟩
theorem Y.EO.set51 (h : Y.EO w W m v0 v1) {b : Nat} {cs : Array Value} (hb : W.heap[b]? = some (.cells cs 51 (0, 0))) (j : Nat) (u : Value) : Y.EO w (W.setCell ⟨b, j, none⟩ u) m v0 v1 := by
 obtain ⟨⟨dn, h1, h2⟩, at2, h3, h4⟩ := h
 exact ⟨⟨dn, Kd.R_set h1 hb (by decide) j u, h2⟩, at2, Kd.R_set h3 hb (by decide) j u, h4⟩
theorem Y.FS.store (h : Y.FS w0 w W g b2 b3 v0 v1) (he : Y.EO w W m u0 u1) : Y.FS w0 w ((W.setCell ⟨b3, 0, none⟩ u0).setCell ⟨b3, 1, none⟩ u1) g b2 b3 u0 u1 ∧ Y.EO w ((W.setCell ⟨b3, 0, none⟩ u0).setCell ⟨b3, 1, none⟩ u1) m u0 u1 :=
 ⟨Y.FS.put1 (Y.FS.put0 h u0) u1, Y.EO.set51 (Y.EO.set51 he h.2.1.2 0 u0) (Y.FS.put0 h u0).2.1.2 1 u1⟩
theorem Y.FS.ret (h : Y.FS w0 w W g b2 b3 v0 v1) (he : Y.EO w W m u0 u1) : ((W.setCell ⟨b2, 0, none⟩ u0).setCell ⟨b2, 1, none⟩ u1).heap[b2]? = some (.cells #[u0, u1] 51 (0, 0)) ∧ Y.EO w ((W.setCell ⟨b2, 0, none⟩ u0).setCell ⟨b2, 1, none⟩ u1) m u0 u1 ∧ Y.DS w0 ((W.setCell ⟨b2, 0, none⟩ u0).setCell ⟨b2, 1, none⟩ u1) g ∧ KeepBut w ((W.setCell ⟨b2, 0, none⟩ u0).setCell ⟨b2, 1, none⟩ u1) g none := by
 have h1 := blk_put h.2.1.1 0 u0 rfl
 have hne : g ≠ b2 := by have := h.2.2; omega
 have hb : w0.heap.size ≤ b2 := by have := h.2.2; omega
 exact ⟨blk_put h1 1 u1 rfl, Y.EO.set51 (Y.EO.set51 he h.2.1.1 0 u0) h1 1 u1, Y.DS.far (Y.DS.far h.1.1 hne hb u0) hne hb u1, keep_far (keep_far h.1.2 (p := ⟨b2, 0, none⟩) h.2.2.1 u0) (p := ⟨b2, 1, none⟩) h.2.2.1 u1⟩
theorem Y.FS.app (h : Y.FS w0 w W g b2 b3 v0 v1) {at2 at3 : List S117} {v v' : Value} (hv : Kd.R k117 117 W w.heap.size (fun _ => True) v at2) (he0 : ∃ dn : List S96, Kd.R k96 96 W w.heap.size (fun _ => True) u0 dn ∧ dn.length ≤ 1000) (hr : Kd.R k117 117 W1 w.heap.size (fun _ => True) v' at3) (hm : at3.length ≤ m ∧ ∀ a ∈ at3, Y.AV a) (hB : Below w.heap.size W W1) (hg : W.grownBy W1 v.ownBlock) :
  Y.FS w0 w W1 g b2 b3 v0 v1 ∧ Y.EO w W1 m u0 v' := by
 obtain ⟨⟨hD, hK⟩, ⟨h2, h3⟩, h4⟩ := h
 have hbz := hD.2
 obtain ⟨dn, h5, h6⟩ := he0
 refine ⟨⟨⟨?_, hK.trans (KeepBut.of_grown hg g) ?_⟩, ⟨blk_grown h2 hg (Kd.R_ne hv h2 (by decide)), blk_grown h3 hg (Kd.R_ne hv h3 (by decide))⟩, h4⟩, ⟨dn, Kd.R_over' h5 (Kd.R_typed hv) (by decide) hg, h6⟩, at3, hr, hm⟩
 ·obtain ⟨⟨_, _, _, _, s0, s1⟩, s2⟩ := hD
  exact ⟨⟨_, _, _, _, s0, IsS112.grown s1 hg (IsS112.own_ne s1 hv (by decide))⟩, Below.trans s2 (Below.mono hB (by omega))⟩
 ·rcases Kd.R_base2 hv with e | ⟨k, e, hk⟩
  ·exact .inl e
  ·exact .inr ⟨k, e, hk⟩
theorem Y.RS.keep {v : Value} {vs : List ByteArray} (h : Kd.R Kd.string 9 W w.heap.size (fun _ => True) v vs) (hs : Y.DS w0 W g) (hk : KeepBut W W1 g none) : Kd.R Kd.string 9 W1 w.heap.size (fun _ => True) v vs := by
 obtain ⟨cs, hb⟩ := Y.DS.blk hs
 exact Kd.R_mono (Kd.R_keep (Kd.R_types h hb (by decide)) hk (fun _ hk => hk.2)) (fun _ _ => trivial)
def Y.OneA (w W : World) (g : Nat) (v : Value) : Prop := ∃ (b : Nat) (nm : ByteArray) (rv : Value) (vs : List ByteArray), v = .slice (some ⟨b, 0, none⟩) 1 1 ∧ b ≠ g ∧ W.heap[b]? = some (.cells #[.string nm, rv] 117 (0, 0)) ∧ Kd.R Kd.string 9 W w.heap.size (fun _ => True) rv vs ∧ Y.AV ⟨nm, vs⟩
theorem Y.OneA.keep {v : Value} (h : Y.OneA w W g v) (hs : Y.DS w0 W g) (hk : KeepBut W W1 g none) : Y.OneA w W1 g v := by
 obtain ⟨cs, hb⟩ := Y.DS.blk hs
 obtain ⟨b, nm, rv, vs, e, h1, h2, h3, h4⟩ := h
 exact ⟨b, nm, rv, vs, e, h1, hk.blk h2 h1 (by simp), Kd.R_mono (Kd.R_keep (Kd.R_types h3 hb (by decide)) hk (fun _ hk => hk.2)) (fun _ _ => trivial), h4⟩
theorem Y.OneA.reads {v : Value} (h : Y.OneA w W g v) {at2 : List S117} {u : Value} (hu : Kd.R k117 117 W w.heap.size (fun _ => True) u at2) : ∃ (ad : Addr) (x : S117), v = .slice (some ad) 1 1 ∧ Y.AV x ∧ ReadsRow (k117.M W w.heap.size (fun k => True ∧ some k ≠ u.ownBlock)) k117.sz W (some ad) 1 [x] := by
 obtain ⟨b, nm, rv, vs, e, h1, h2, h3, h4⟩ := h
 refine ⟨⟨b, 0, none⟩, ⟨nm, vs⟩, e, h4, rfl, by omega, fun _ => ⟨_, rfl, fun j p hp => ?_⟩⟩
 cases j with
 | succ j => simp at hp
 | zero =>
  simp at hp
  subst hp
  refine ⟨[.string nm, rv], rfl, k117_mkM W _ _ ⟨nm, vs⟩ (Kd.R_apart' h3 (Kd.R_typed hu) (by decide)), fun i x hx => ?_⟩
  have e1 : (⟨b, 0, none⟩ : Addr).add (0 * k117.sz + i) = ⟨b, i, none⟩ := by simp [Addr.add, eq_comm]
  rw [e1, blk_cell h2 i]
  rcases i with _ | _ | i
  ·simpa using hx
  ·simpa using hx
  ·simp at hx
theorem Y.app_step {ops : Array Oper} {o : Oper} {a : Act} {Q : Exit → Act → World → Prop} {Kc : Act → World → Prop} (hw : Region.wanted o (yielded ops a.tmps) = true) (s x : Tmp) (ho : o.op = .call { callee := .builtin .append, args := #[.tmp s, .tmp x], argTypes := #[49, 49] }) {vx : Value} (hs : a.eval (.tmp s) = u1) (hx : a.eval (.tmp x) = vx)
  (hF : Y.FS w0 w W g b2 b3 v0 v1) (hE : Y.EO w W m u0 u1) (hm : m ≤ 1000) (hone : Y.OneA w W g vx)
  (h : ∀ v' W1, Y.FS w0 w W1 g b2 b3 v0 v1 → Y.EO w W1 (m + 1) u0 v' → (∀ A n c, u1 = .slice A n c → ∃ A' c', v' = .slice A' (n + 1) c') → Kc (a.put o.dst v') W1) :
  if Region.wanted o (yielded ops a.tmps) = true then Oper.wp Tryz.prog o a W Kc Q else Kc (a.put o.dst undef) W := by
 obtain ⟨he0, at2, h3, h4, h5⟩ := hE
 obtain ⟨ad, xa, rfl, hav, hrd⟩ := Y.OneA.reads hone h3
 have hsz : w.heap.size ≤ W.heap.size := keep_size hF.1.2
 refine Kd.R_append_rows_step k117 (w0 := W) w.heap.size hw (.tmp s) (.tmp x) 49 117 (.agg #[(.string ⟨#[]⟩), (.slice none 0 0)]) 40 ho Tryz.underlying49 info117 rfl (by decide) (by omega) u1 at2 [xa] (some ad) 1 1 (fun _ => True) (fun k => True ∧ some k ≠ u1.ownBlock) hs hx h3 hrd (fun _ _ h => h) (fun _ h => h) (fun _ _ => trivial) (Below.refl _ _) hsz (by omega) ?_
 intro v' W1 hr hB hg _
 obtain ⟨f1, f2⟩ := Y.FS.app (m := m + 1) hF h3 he0 hr (by
  refine ⟨by rw [List.length_append]; simp; omega, fun y hy => ?_⟩
  rcases List.mem_append.1 hy with h | h
  ·exact h5 y h
  ·rw [List.mem_singleton.1 h]; exact hav) hB hg
 refine h v' W1 f1 f2 fun A n c e => ?_
 obtain ⟨A2, c2, e2⟩ := Kd.R_slice h3
 obtain ⟨A3, c3, e3⟩ := Kd.R_slice hr
 rw [e] at e2
 injection e2 with _ e4 _
 exact ⟨A3, c3, by rw [e3, e4, List.length_append]; rfl⟩
end
theorem Y.entry3 (HT : Y.TOT2) (g : Nat) (w0 w : World) (h : Y.DS w0 w g) :
  Calls Tryz.prog 93 #[.pointer (some ⟨g, 0, none⟩)] w fun e w' => ∃ v0 v1 : Value, e = .returned (.agg #[v0, v1]) ∧ Y.EO w w' 30 v0 v1 ∧ Y.DS w0 w' g ∧ KeepBut w w' g none := by
 have hu51 := Tryz.underlying51
 have hu119 := Tryz.underlying119
 have hu117 := Tryz.underlying117
 have hu96 := Tryz.underlying96
 have HTT := Aside0.mk HT
 have HG := Aside0.mk (Y.DS.lt h)
 have HG0 := Aside0.mk (show w0.heap.size ≤ w.heap.size from below_size h.2)
 have HD := Aside0.mk h
 clear h HT
 go_enter Tryz.func93, Tryz.ntmps93
 go_upto_region 2 with (first | ((with_reducible refine gate_dst (N := 2) rfl ?_); refine box_event ?hg (N := 2) ?hd (cs := #[.slice none 0 0, .slice none 0 0]) (t := 51) ?hr ?_; (case hd => rfl); (case hg => rfl); (case hr => first | (go_simp; done) | (go_simp; rfl)); intro b2 hg2 w3 hbox2 hb3; have HD3 := Aside0.mk (Y.DS.below HD.out hb3); have HK3 := Aside0.mk (KeepBut.of_below hb3 g none); have HX2 := Aside0.mk hbox2; have HL2 := Aside0.mk (show w.heap.size = b2 from hg2.symm); clear hg2 hbox2 hb3 HD) | (go_at_call 53; refine (Y.DS.pick HD3.out [(⟨#[97, 110, 110]⟩ : ByteArray), (⟨#[98, 111, 98]⟩ : ByteArray), (⟨#[99, 97, 116]⟩ : ByteArray)] (by decide) (by decide)).mono ?_; rintro e w5 ⟨t, rfl, ht, hs, hk⟩; have HT5 := Aside0.mk ht; have HD5 := Aside0.mk hs; have HK5 := Aside0.mk (HK3.out.trans hk (.inl rfl)); have HX5 := Aside0.mk (hk.blk HX2.out (by have := HL2.out; have := HG.out; omega) (by simp)); clear ht hs hk HD3 HK3 HX2) | ((with_reducible refine gate_dst (N := 12) rfl ?_); refine Kd.R_lit k96 (w0 := w5) w.heap.size 96 ?hg (N := 12) ?hd (xs := ([(⟨(⟨#[99, 110]⟩ : ByteArray), t⟩ : S96), (⟨(⟨#[100, 99]⟩ : ByteArray), (⟨#[120]⟩ : ByteArray)⟩ : S96)] : List S96)) (inner := [.string (⟨#[99, 110]⟩ : ByteArray), .string t, .string (⟨#[100, 99]⟩ : ByteArray), .string (⟨#[120]⟩ : ByteArray)]) (ok := fun _ => True) (okp := fun _ => False) ?hr ?hp (fun _ hk => hk.elim) trivial (Below.refl _ _) (keep_size HK5.out) (by simp) ?_; (case hd => rfl); (case hg => rfl); (case hr => first | (go_simp; done) | (go_simp; rfl)); (case hp => exact (Reps.c2 (k96_mkM _ _ _ (⟨(⟨#[99, 110]⟩ : ByteArray), t⟩ : S96)) (Reps.c2 (k96_mkM _ _ _ (⟨(⟨#[100, 99]⟩ : ByteArray), (⟨#[120]⟩ : ByteArray)⟩ : S96)) (Reps.none _ _)))); intro v12 w6 ho hb hg hnew; obtain ⟨A0, cA, e12⟩ := Kd.R_slice ho; subst e12; have hbn := Y.below_none hg; have HR6 := Aside0.mk ho; have HD6 := Aside0.mk (Y.DS.below HD5.out hbn); have HK6 := Aside0.mk (HK5.out.trans (KeepBut.of_below hbn g none) (.inl rfl)); have HX6 := Aside0.mk (blk_below HX5.out hbn); clear ho hb hg hnew hbn HD5 HK5 HX5) | ((with_reducible refine gate_dst (N := 3) rfl ?_); refine box_event ?hg (N := 3) ?hd (cs := #[.slice none 0 0, .slice none 0 0]) (t := 51) ?hr ?_; (case hd => rfl); (case hg => rfl); (case hr => first | (go_simp; done) | (go_simp; rfl)); intro b3 hg3 w7 hbox3 hb7; have HF7 := Aside0.mk (show Y.FS w0 w w7 g b2 b3 (.slice none 0 0) (.slice none 0 0) from ⟨⟨Y.DS.below HD6.out hb7, HK6.out.trans (KeepBut.of_below hb7 g none) (.inl rfl)⟩, ⟨blk_below HX6.out hb7, hbox3⟩, ⟨by have := HL2.out; omega, by have := keep_size HK6.out; omega, by have := blk_lt HX6.out; omega, HG.out, HG0.out⟩⟩); have HR7 := Aside0.mk (Kd.R_below HR6.out hb7); obtain ⟨c30, c31, f30, f31⟩ := Y.FS.cells HF7.out; clear hg3 hbox3 hb7 HD6 HK6 HX6 HR6))
 have HS := Aside0.mk (show Y.FS w0 w ((w7.setCell ⟨b3, 0, none⟩ (.slice A0 2 cA)).setCell ⟨b3, 1, none⟩ (.slice none 0 0)) g b2 b3 (.slice A0 2 cA) (.slice none 0 0) ∧ Y.EO w ((w7.setCell ⟨b3, 0, none⟩ (.slice A0 2 cA)).setCell ⟨b3, 1, none⟩ (.slice none 0 0)) 0 (.slice A0 2 cA) (.slice none 0 0) from Y.FS.store HF7.out ⟨⟨_, HR7.out, by simp⟩, [], Kd.R_nil _ _ _ _ _, by simp, by simp⟩)
 clear HF7 HR7 c30 c31 f30 f31
 generalize (w7.setCell ⟨b3, 0, none⟩ (.slice A0 2 cA)).setCell ⟨b3, 1, none⟩ (.slice none 0 0) = W8 at HS ⊢
 generalize (.slice A0 2 cA : Value) = e0 at HS ⊢
 go_wp2_with (go_at_call 51; refine (Y.DS.n HS.out.1.1.1 6 (by decide)).mono ?_; rintro e w9 ⟨q0, rfl, n0, n1, hs, hk⟩; have HNq0 := Aside0.mk (And.intro n0 (n1 (by decide))); have HS1 := Aside0.mk (And.intro (Y.FS.keep HS.out.1 hs hk) (Y.EO.keep HS.out.2 HS.out.1.1.1 hk)); clear hs hk n0 n1 HS)
 clear HT5
 go_loopg [4] 6 (fun kq v4 w' => ∃ (q : Int) (m : Nat) (v0 v1 : Value), v4 = .int .i64 q ∧ Aside0 (0 ≤ q ∧ q ≤ 5 ∧ q.toNat ≤ kq ∧ m + q.toNat ≤ 5) ∧ Aside0 (Y.FS w0 w w' g b2 b3 v0 v1 ∧ Y.EO w w' m v0 v1))
 case atStart => exact ⟨q0, 0, e0, .slice none 0 0, rfl, ⟨by have := HNq0.out; omega⟩, HS1⟩
 case round =>
  clear HS1 HNq0
  obtain ⟨q, m, v0, v1, rfl, HI, HS⟩ := hrel
  cases hcb : decide (0 < q)
  case true =>
   have HQ := Aside0.mk (of_decide_eq_true hcb)
   obtain ⟨gk, rfl⟩ : ∃ z, gk = z + 1 := ⟨gk - 1, by have := HI.out; have := HQ.out; omega⟩
   have HW := Aside0.mk (show wrap64 (q - 1) = q - 1 from by have := HI.out; have := HQ.out; unfold wrap64; omega)
   go_upto_region 5 with fail
   clear hcb
   go_cut [5] (fun v5 wc => ∃ (b5 : Nat) (u0 u1 : Value) (code : Int), v5 = .pointer (some ⟨b5, 0, none⟩) ∧ Aside0 (wc.heap[b5]? = some (.cells #[u0, u1, .int .i64 code] 119 (0, 0)) ∧ b5 ≠ b2 ∧ b5 ≠ b3 ∧ w.heap.size ≤ b5) ∧ Aside0 (Y.EO w wc (m + 1) u0 u1) ∧ Aside0 (Y.FS w0 w wc g b2 b3 v0 v1 ∧ Y.EO w wc m v0 v1))
   case first =>
    refine Y.three_rule (by kernel_rfl) (fun j => j == 1 || j == 3) [7] (fun W W' => Y.DS w0 W g ∧ KeepBut W W' g none) (fun W => Y.FS w0 w W g b2 b3 v0 v1 ∧ Y.EO w W m v0 v1)
     (fun j v W => match j with
      | 0 => v = .agg #[v0, v1]
      | 2 | 4 => ∃ t : ByteArray, v = .string t ∧ t.size ≤ 8000
      | 5 => ∃ (u0 u1 : Value) (code : Int), v = .agg #[u0, u1, .int .i64 code] ∧ Y.EO w W (m + 1) u0 u1
      | 6 => ∃ b5 : Nat, v = .pointer (some ⟨b5, 0, none⟩) ∧ W.heap[b5]? = some (.cells #[.slice none 0 0, .slice none 0 0, .int .i64 0] 119 (0, 0)) ∧ b5 ≠ b2 ∧ b5 ≠ b3 ∧ b5 ≠ g ∧ w.heap.size ≤ b5
      | _ => True) (fun _ v => v = .pointer (some ⟨g, 0, none⟩))
     (fun q val W => (Y.FS w0 w W g b2 b3 v0 v1 ∧ Y.EO w W m v0 v1) ∧ match q with
      | 0 => (∃ (u0 u1 : Value) (code : Int), val 5 = .agg #[u0, u1, .int .i64 code] ∧ Y.EO w W (m + 1) u0 u1) ∧ ∃ b5 : Nat, val 6 = .pointer (some ⟨b5, 0, none⟩) ∧ W.heap[b5]? = some (.cells #[.slice none 0 0, .slice none 0 0, .int .i64 0] 119 (0, 0)) ∧ b5 ≠ b2 ∧ b5 ≠ b3 ∧ b5 ≠ g ∧ w.heap.size ≤ b5
      | _ => ∃ (b5 : Nat) (u0 u1 : Value) (code : Int), val 6 = .pointer (some ⟨b5, 0, none⟩) ∧ (W.heap[b5]? = some (.cells #[u0, u1, .int .i64 code] 119 (0, 0)) ∧ b5 ≠ b2 ∧ b5 ≠ b3 ∧ w.heap.size ≤ b5) ∧ Y.EO w W (m + 1) u0 u1)
     (by kernel_rfl) (by kernel_rfl) ?hF ?h0 ?hpure ?hstep ?hmid ?htail ?hfin
    case hF =>
     rintro j v W W' hj ⟨hs, hk⟩
     rcases j with _ | _ | _ | _ | _ | _ | _ | j
     ·exact hj
     ·trivial
     ·exact hj
     ·trivial
     ·exact hj
     ·obtain ⟨u0, u1, code, e, h⟩ := hj
      exact ⟨u0, u1, code, e, Y.EO.keep h hs hk⟩
     ·obtain ⟨b5, e, h1, h2, h3, h4, h5⟩ := hj
      exact ⟨b5, e, hk.blk h1 h4 (by simp), h2, h3, h4, h5⟩
     ·trivial
    case h0 => exact ⟨Y.FS.drew HS.out.1, Y.EO.below HS.out.2 (below_drew (Below.refl _ _))⟩
    case hpure =>
     intro p val W a i oi hpl hi hG hdep hA K hK
     have hi1 : i = 1 ∨ i = 3 := by simpa using hpl
     rcases hi1 with rfl | rfl
     ·obtain rfl := Option.some.inj hi
      have e0 : a.tmps[0]?.getD undef = .pointer (some ⟨g, 0, none⟩) := Y.AI_oldT hA 0 (by kernel_rfl)
      have hK' := hK _ rfl
      refine Y.stp rfl ?_
      go_simp
      exact hK'
     ·obtain rfl := Option.some.inj hi
      have e0 : a.tmps[0]?.getD undef = .pointer (some ⟨g, 0, none⟩) := Y.AI_oldT hA 0 (by kernel_rfl)
      have hK' := hK _ rfl
      refine Y.stp rfl ?_
      go_simp
      exact hK'
    case hstep =>
     intro p val W a i oi hpl hit hi hR hG hFF hdep hA K hK
     rcases i with _ | _ | _ | _ | _ | _ | _ | _ | i
     ·obtain rfl := Option.some.inj hi
      have e3 : a.tmps[3]?.getD undef = .pointer (some ⟨b3, 0, none⟩) := Y.AI_oldT hA 3 (by kernel_rfl)
      obtain ⟨c0, c1, _, _⟩ := Y.FS.cells hR.1
      have hK' := hK (.agg #[v0, v1]) W ⟨hR.1.1.1, KeepBut.refl _ _ _⟩ hR rfl
      refine Y.stp rfl ?_
      go_simp
      exact hK'
     ·exact absurd hpl (by decide)
     ·obtain rfl := Option.some.inj hi
      have p1 : p 1 = true := hdep ⟨1, .data⟩ (by simp) rfl
      have x1 : a.tmps[21]?.getD undef = .pointer (some ⟨g, 0, none⟩) := (Y.AI_newT (n := 80) (by kernel_rfl) hA 1 21 rfl rfl p1).trans (hG 1 rfl p1)
      refine call_ 129 #[.pointer (some ⟨g, 0, none⟩)] rfl rfl ?hrun ((Y.DS.name hR.1.1.1).mono ?hpost)
      case hrun => go_simp
      case hpost =>
       rintro e w2 ⟨t, rfl, ht, hs, hk⟩
       exact ⟨_, rfl, hK _ w2 ⟨hR.1.1.1, hk⟩ ⟨Y.FS.keep hR.1 hs hk, Y.EO.keep hR.2 hR.1.1.1 hk⟩ ⟨t, rfl, ht⟩⟩
     ·exact absurd hpl (by decide)
     ·obtain rfl := Option.some.inj hi
      have p3 : p 3 = true := hdep ⟨3, .data⟩ (by simp) rfl
      have x3 : a.tmps[23]?.getD undef = .pointer (some ⟨g, 0, none⟩) := (Y.AI_newT (n := 80) (by kernel_rfl) hA 3 23 rfl rfl p3).trans (hG 3 rfl p3)
      refine call_ 92 #[.pointer (some ⟨g, 0, none⟩)] rfl rfl ?hrun ((Y.DS.value hR.1.1.1).mono ?hpost)
      case hrun => go_simp
      case hpost =>
       rintro e w2 ⟨t, rfl, ht, hs, hk⟩
       exact ⟨_, rfl, hK _ w2 ⟨hR.1.1.1, hk⟩ ⟨Y.FS.keep hR.1 hs hk, Y.EO.keep hR.2 hR.1.1.1 hk⟩ ⟨t, rfl, ht⟩⟩
     ·obtain rfl := Option.some.inj hi
      have p0 : p 0 = true := hdep ⟨0, .data⟩ (by simp) rfl
      have p2 : p 2 = true := hdep ⟨2, .data⟩ (by simp) rfl
      have p4 : p 4 = true := hdep ⟨4, .data⟩ (by simp) rfl
      obtain ⟨t2, e2, ht2⟩ := hFF 2 rfl (by decide) p2
      obtain ⟨t4, e4, ht4⟩ := hFF 4 rfl (by decide) p4
      obtain ⟨⟨dn, h1, h2⟩, at2, h3, h4, h5⟩ := hR.2
      have x0 : a.tmps[20]?.getD undef = .agg #[v0, v1] := (Y.AI_newT (n := 80) (by kernel_rfl) hA 0 20 rfl rfl p0).trans (hFF 0 rfl (by decide) p0)
      have x2 : a.tmps[22]?.getD undef = .string t2 := (Y.AI_newT (n := 80) (by kernel_rfl) hA 2 22 rfl rfl p2).trans e2
      have x4 : a.tmps[24]?.getD undef = .string t4 := (Y.AI_newT (n := 80) (by kernel_rfl) hA 4 24 rfl rfl p4).trans e4
      obtain ⟨A0, c0, y0⟩ := Kd.R_slice h1
      obtain ⟨A1, c1, y1⟩ := Kd.R_slice h3
      rw [y0, y1] at x0
      have q0 := h1
      have q1 := h3
      rw [y0] at q0
      rw [y1] at q1
      have hsz : w.heap.size ≤ W.heap.size := keep_size hR.1.1.2
      refine call_ 91 #[.agg #[.slice A0 dn.length c0, .slice A1 at2.length c1], .string t2, .string t4] rfl rfl ?hrun ((Y.vadd HTT.out A0 c0 dn A1 c1 at2 t2 t4 W (Kd.R_reads' q0).2.2 (Kd.R_reads' q0).2.1 (Kd.R_reads' q1).2.2 (Kd.R_reads' q1).2.1 h2 (by have := HI.out; omega) h5 ht2 ht4).mono ?hpost)
      case hrun => go_simp
      case hpost =>
       rintro e w2 ⟨u0, u1, code, rfl, hE, hb⟩
       exact ⟨_, rfl, hK _ w2 ⟨hR.1.1.1, KeepBut.of_below hb g none⟩ ⟨Y.FS.below hR.1 hb, Y.EO.below hR.2 hb⟩ ⟨u0, u1, code, rfl, Y.EO.le (Y.EO.lower hE hsz) (by omega)⟩⟩
     ·obtain rfl := Option.some.inj hi
      have hb := below_alloc (Below.refl W.heap.size W) (.cells #[.slice none 0 0, .slice none 0 0, .int .i64 0] 119 (0, 0))
      have hsz : w.heap.size ≤ W.heap.size := keep_size hR.1.1.2
      have hK' := hK (.pointer (some ⟨W.heap.size, 0, none⟩)) _ ⟨hR.1.1.1, KeepBut.of_below hb g none⟩ ⟨Y.FS.below hR.1 hb, Y.EO.below hR.2 hb⟩ ⟨W.heap.size, rfl, blk_new W _, by have := blk_lt hR.1.2.1.1; omega, by have := blk_lt hR.1.2.1.2; omega, by have := hR.1.2.2; omega, hsz⟩
      refine Y.stp rfl ?_
      go_simp
      exact hK'
     ·exact absurd (by decide) hit
     ·exact absurd hi (by simp)
    case hmid =>
     intro val W hR hFF
     exact ⟨hR, hFF 5 (by decide) rfl (by decide), hFF 6 (by decide) rfl (by decide)⟩
    case htail =>
     intro p val W a q i oi hq hi hT hG hal htl hdep hA K hK
     rcases q with _ | q
     ·have hi7 := (Option.some.inj hq).symm
      subst hi7
      obtain rfl := Option.some.inj hi
      obtain ⟨hR, ⟨u0, u1, code, e5, hE⟩, b5, e6, hb, n2, n3, ng, hb5⟩ := hT
      have x5 : a.tmps[5]?.getD undef = .pointer (some ⟨b5, 0, none⟩) := (Y.AI_newT (n := 80) (by kernel_rfl) hA 6 5 rfl rfl (hal 6 (by decide) rfl (by decide))).trans e6
      have x25 : a.tmps[25]?.getD undef = .agg #[u0, u1, .int .i64 code] := (Y.AI_newT (n := 80) (by kernel_rfl) hA 5 25 rfl rfl (hal 5 (by decide) rfl (by decide))).trans e5
      obtain ⟨⟨dn, h1, h2⟩, at2, h3, h4, h5⟩ := hE
      obtain ⟨A0, c0, y0⟩ := Kd.R_slice h1
      obtain ⟨A1, c1, y1⟩ := Kd.R_slice h3
      have hE : Y.EO w W (m + 1) u0 u1 := ⟨⟨dn, h1, h2⟩, at2, h3, h4, h5⟩
      subst y0 y1
      have k0 : W.cell? ⟨b5, 0, none⟩ = some (.slice none 0 0) := (blk_cell hb 0).trans rfl
      have k1 : W.cell? ⟨b5, 1, none⟩ = some (.slice none 0 0) := (blk_cell hb 1).trans rfl
      have k2 : W.cell? ⟨b5, 2, none⟩ = some (.int .i64 0) := (blk_cell hb 2).trans rfl
      have f0 := blk_frozen hb 0
      have f1 := blk_frozen hb 1
      have f2 := blk_frozen hb 2
      have d1 := blk_put hb 0 (.slice A0 dn.length c0) rfl
      have d2 := blk_put d1 1 (.slice A1 at2.length c1) rfl
      have d3 := blk_put d2 2 (.int .i64 code) rfl
      have eo : ∀ {mm : Nat} {x0 x1 : Value}, Y.EO w W mm x0 x1 → Y.EO w (((W.setCell ⟨b5, 0, none⟩ (.slice A0 dn.length c0)).setCell ⟨b5, 1, none⟩ (.slice A1 at2.length c1)).setCell ⟨b5, 2, none⟩ (.int .i64 code)) mm x0 x1 := fun x => Y.EO.set (Y.EO.set (Y.EO.set x hb 0 _) d1 1 _) d2 2 _
      have hK' := hK undef _ ⟨⟨Y.FS.other (Y.FS.other (Y.FS.other hR.1 hb5 (Ne.symm n2) (Ne.symm n3) _) hb5 (Ne.symm n2) (Ne.symm n3) _) hb5 (Ne.symm n2) (Ne.symm n3) _, eo hR.2⟩, b5, _, _, code, e6, ⟨d3, n2, n3, hb5⟩, eo hE⟩
      refine Y.stp rfl ?_
      go_simp
      exact hK'
     ·exact absurd hq (by simp)
    case hfin =>
     intro p val W a hT hG hall hA
     obtain ⟨hR, b5, u0, u1, code, e6, h5, hE⟩ := hT
     have x5 : a.tmps[5]?.getD undef = .pointer (some ⟨b5, 0, none⟩) := (Y.AI_newT (n := 80) (by kernel_rfl) hA 6 5 rfl rfl (hall 6 (by decide))).trans e6
     go_wp2
     refine Met.intro ?_
     go_step
     (repeat apply Exists.intro)
     refine ⟨?rel, Y.AI_frame hA⟩
     case rel => exact ⟨b5, u0, u1, code, (Y.AI_at 5 (by kernel_rfl)).trans x5, ⟨h5⟩, ⟨hE⟩, ⟨hR⟩⟩
   case rest =>
    obtain ⟨b5, u0, u1, code, rfl, HY, HE, HS1⟩ := hcut
    clear HS
    obtain ⟨⟨dn, h1, h2⟩, at2, h3, h4⟩ := HE.out
    obtain ⟨A5, c5, rfl⟩ := Kd.R_slice h1
    obtain ⟨A6, c6, rfl⟩ := Kd.R_slice h3
    clear h1 h2 h3 h4
    have k0 : wc.cell? ⟨b5, 0, none⟩ = some (.slice A5 dn.length c5) := (blk_cell HY.out.1 0).trans rfl
    have k1 : wc.cell? ⟨b5, 1, none⟩ = some (.slice A6 at2.length c6) := (blk_cell HY.out.1 1).trans rfl
    have k2 : wc.cell? ⟨b5, 2, none⟩ = some (.int .i64 code) := (blk_cell HY.out.1 2).trans rfl
    by_cases hc : code = 0
    case pos =>
     subst hc
     obtain ⟨c30, c31, f30, f31⟩ := Y.FS.cells HS1.out.1
     go_wp2
     go_roundg gk
     case measure => omega
     case rel => exact ⟨q - 1, m + 1, _, _, by rw [HW.out], ⟨by have := HI.out; have := HQ.out; omega⟩, ⟨Y.FS.store HS1.out.1 HE.out⟩⟩
    have cb : (code == 0) = false := beq_eq_false_iff_ne.2 hc
    clear hc
    go_wp2
    go_roundg gk
    case measure => omega
    case rel => exact ⟨q - 1, m, v0, v1, by rw [HW.out], ⟨by have := HI.out; have := HQ.out; omega⟩, HS1⟩
  case false =>
   go_upto_if 32 with (go_at_call 87; refine (Y.DS.one HS.out.1.1.1 20 (by decide)).mono ?_; rintro e w10 ⟨r, rfl, hs, hk⟩; have HS1 := Aside0.mk (And.intro (Y.FS.keep HS.out.1 hs hk) (Y.EO.keep HS.out.2 HS.out.1.1.1 hk)); clear hs hk HS)
   clear hcb
   go_cut [] (fun wc => ∃ (m : Nat) (v0 v1 : Value), Aside0 (m ≤ 30) ∧ Aside0 (Y.FS w0 w wc g b2 b3 v0 v1 ∧ Y.EO w wc m v0 v1))
   case first =>
    cases r with
    | false =>
     go_wp2
     go_meet
     case rel => exact ⟨m, v0, v1, ⟨by have := HI.out; omega⟩, HS1⟩
    | true =>
     go_upto_block 2 with (go_at_call 51; refine (Y.DS.n HS1.out.1.1.1 4 (by decide)).mono ?_; rintro e w11 ⟨r1, rfl, n0, n1, hs, hk⟩; have HNr1 := Aside0.mk (And.intro n0 (n1 (by decide))); have HS2 := Aside0.mk (And.intro (Y.FS.keep HS1.out.1 hs hk) (Y.EO.keep HS1.out.2 HS1.out.1.1.1 hk)); clear hs hk n0 n1 HS1)
     by_cases r0 : r1 = 0
     case pos =>
      have r0b : (r1 == 0) = true := beq_iff_eq.mpr r0
      clear r0
      go_wp2_with (go_at_call 130; refine (Y.dn_ g w0 _ HS2.out.1.1.1).mono ?_; rintro e w12 ⟨vd, rdn, rfl, hR, hr, hs, hk⟩; obtain ⟨A7, c7, rfl⟩ := Kd.R_slice hR; have HR7 := Aside0.mk (And.intro (Kd.R_lower hR (keep_size HS2.out.1.1.2)) hr); have HS3 := Aside0.mk (And.intro (Y.FS.keep HS2.out.1 hs hk) (Y.EO.keep HS2.out.2 HS2.out.1.1.1 hk)); clear hR hr hs hk HS2; obtain ⟨c30, c31, f30, f31⟩ := Y.FS.cells HS3.out.1)
      go_meet
      case rel => exact ⟨m, _, v1, ⟨by have := HI.out; omega⟩, ⟨Y.FS.put0 HS3.out.1 _, Y.EO.set51 ⟨⟨rdn, HR7.out⟩, HS3.out.2.2⟩ HS3.out.1.2.1.2 0 _⟩⟩
     have r0b : (r1 == 0) = false := beq_false_of_ne r0
     clear r0
     by_cases q1 : r1 = 1
     case pos =>
      have q1b : (r1 == 1) = true := beq_iff_eq.mpr q1
      clear q1
      go_upto_region 14 with fail
      refine Y.three_rule (by kernel_rfl) (fun j => j == 0 || j == 2 || j == 9) [8, 10] (fun W W' => Y.DS w0 W g ∧ KeepBut W W' g none) (fun W => Y.FS w0 w W g b2 b3 v0 v1 ∧ Y.EO w W m v0 v1)
       (fun j v W => match j with
        | 1 => v = v1
        | 3 => Y.FT g [(⟨#[97]⟩ : ByteArray), (⟨#[122, 122]⟩ : ByteArray)] v W
        | 4 => ∃ t : ByteArray, v = .string t ∧ t.size ≤ 8000
        | 5 => ∃ vs : List ByteArray, Kd.R Kd.string 9 W w.heap.size (fun _ => True) v vs ∧ vs.length ≤ 1000 ∧ ∀ s ∈ vs, s.size ≤ 8000
        | 6 => ∃ (nm : ByteArray) (rv : Value) (vs : List ByteArray), v = .agg #[.string nm, rv] ∧ Kd.R Kd.string 9 W w.heap.size (fun _ => True) rv vs ∧ Y.AV ⟨nm, vs⟩
        | 7 => Y.OneA w W g v
        | _ => True)
       (fun j v => v = if j = 2 then .pointer (some ⟨g, 0, none⟩) else .pointer (some ⟨b3, 1, none⟩))
       (fun q val W => match q with
        | 0 => (Y.FS w0 w W g b2 b3 v0 v1 ∧ Y.EO w W m v0 v1) ∧ val 1 = v1 ∧ Y.OneA w W g (val 7)
        | 1 => ∃ v' : Value, val 8 = v' ∧ Y.FS w0 w W g b2 b3 v0 v1 ∧ Y.EO w W (m + 1) v0 v' ∧ (∀ A_ n_ c_, v1 = Value.slice A_ n_ c_ → ∃ A' c', v' = Value.slice A' (n_ + 1) c')
        | _ => ∃ v' : Value, Y.FS w0 w W g b2 b3 v0 v' ∧ Y.EO w W (m + 1) v0 v' ∧ (∀ A_ n_ c_, v1 = Value.slice A_ n_ c_ → ∃ A' c', v' = Value.slice A' (n_ + 1) c'))
       (by kernel_rfl) (by kernel_rfl) ?hF ?h0 ?hpure ?hstep ?hmid ?htail ?hfin
      case hF =>
       rintro j v W W' hj ⟨hs, hk⟩
       rcases j with _ | _ | _ | _ | _ | _ | _ | _ | j
       ·trivial
       ·exact hj
       ·trivial
       ·exact Y.FT.keep hj hk
       ·exact hj
       ·obtain ⟨vs, h1, h2, h3⟩ := hj
        exact ⟨vs, Y.RS.keep h1 hs hk, h2, h3⟩
       ·obtain ⟨nm, rv, vs, e, h1, h2⟩ := hj
        exact ⟨nm, rv, vs, e, Y.RS.keep h1 hs hk, h2⟩
       ·exact Y.OneA.keep hj hs hk
       ·trivial
      case h0 => exact ⟨Y.FS.drew HS2.out.1, Y.EO.below HS2.out.2 (below_drew (Below.refl _ _))⟩
      case hpure =>
       intro p val W a i oi hpl hi hG hdep hA K hK
       have hi1 : i = 0 ∨ i = 2 ∨ i = 9 := by simpa [or_assoc] using hpl
       rcases hi1 with rfl | rfl | rfl
       ·obtain rfl := Option.some.inj hi
        have e0 : a.tmps[3]?.getD undef = .pointer (some ⟨b3, 0, none⟩) := Y.AI_oldT hA 3 (by kernel_rfl)
        have hK' := hK _ rfl
        refine Y.stp rfl ?_
        go_simp
        exact hK'
       ·obtain rfl := Option.some.inj hi
        have e0 : a.tmps[0]?.getD undef = .pointer (some ⟨g, 0, none⟩) := Y.AI_oldT hA 0 (by kernel_rfl)
        have hK' := hK _ rfl
        refine Y.stp rfl ?_
        go_simp
        exact hK'
       ·obtain rfl := Option.some.inj hi
        have e0 : a.tmps[3]?.getD undef = .pointer (some ⟨b3, 0, none⟩) := Y.AI_oldT hA 3 (by kernel_rfl)
        have hK' := hK _ rfl
        refine Y.stp rfl ?_
        go_simp
        exact hK'
      case hstep =>
       intro p val W a i oi hpl hit hi hR hG hFF hdep hA K hK
       rcases i with _ | _ | _ | _ | _ | _ | _ | _ | _ | _ | _ | i
       ·exact absurd hpl (by decide)
       ·obtain rfl := Option.some.inj hi
        have p0 : p 0 = true := hdep ⟨0, .data⟩ (by simp) rfl
        have x0 : a.tmps[48]?.getD undef = .pointer (some ⟨b3, 1, none⟩) := (Y.AI_newT (n := 80) (by kernel_rfl) hA 0 48 rfl rfl p0).trans (hG 0 rfl p0)
        obtain ⟨_, cc1, _, _⟩ := Y.FS.cells hR.1
        have hK' := hK v1 W ⟨hR.1.1.1, KeepBut.refl _ _ _⟩ hR rfl
        refine Y.stp rfl ?_
        go_simp
        exact hK'
       ·exact absurd hpl (by decide)
       ·obtain rfl := Option.some.inj hi
        have hb := below_alloc (Below.refl W.heap.size W) (.cells ([(⟨#[97]⟩ : ByteArray), (⟨#[122, 122]⟩ : ByteArray)].map Value.string).toArray 9)
        have hK' := hK _ _ ⟨hR.1.1.1, KeepBut.of_below hb g none⟩ ⟨Y.FS.below hR.1 hb, Y.EO.below hR.2 hb⟩ (Y.FT.new (Y.DS.lt hR.1.1.1) [(⟨#[97]⟩ : ByteArray), (⟨#[122, 122]⟩ : ByteArray)] (by decide))
        refine Y.stp rfl ?_
        go_simp
        exact hK'
       ·obtain rfl := Option.some.inj hi
        have p2 : p 2 = true := hdep ⟨2, .data⟩ (by simp) rfl
        have p3 : p 3 = true := hdep ⟨3, .data⟩ (by simp) rfl
        have hft := hFF 3 rfl (by decide) p3
        have x2 : a.tmps[50]?.getD undef = .pointer (some ⟨g, 0, none⟩) := (Y.AI_newT (n := 80) (by kernel_rfl) hA 2 50 rfl rfl p2).trans (hG 2 rfl p2)
        have x3 := Y.AI_newT (n := 80) (by kernel_rfl) hA 3 51 rfl rfl p3
        refine call_ 53 #[.pointer (some ⟨g, 0, none⟩), val 3] rfl rfl ?hrun ((Y.DS.pickC hR.1.1.1 hft (by decide) (by decide)).mono ?hpost)
        case hrun => go_simp
        case hpost =>
         rintro e w2 ⟨t, rfl, ht, hs, hk⟩
         exact ⟨_, rfl, hK _ w2 ⟨hR.1.1.1, hk⟩ ⟨Y.FS.keep hR.1 hs hk, Y.EO.keep hR.2 hR.1.1.1 hk⟩ ⟨t, rfl, by simp only [List.mem_cons, List.not_mem_nil, or_false] at ht; rcases ht with rfl | rfl <;> decide⟩⟩
       ·obtain rfl := Option.some.inj hi
        have hb := below_alloc (Below.refl W.heap.size W) (.cells #[.string (⟨#[98]⟩ : ByteArray), .string (⟨#[97]⟩ : ByteArray)] 9)
        have hsz : w.heap.size ≤ W.heap.size := keep_size hR.1.1.2
        have hK' := hK (.slice (some ⟨W.heap.size, 0, none⟩) 2 2) _ ⟨hR.1.1.1, KeepBut.of_below hb g none⟩ ⟨Y.FS.below hR.1 hb, Y.EO.below hR.2 hb⟩ ⟨[(⟨#[98]⟩ : ByteArray), (⟨#[97]⟩ : ByteArray)], Y.lit_R Kd.string W _ 9 [(⟨#[98]⟩ : ByteArray), (⟨#[97]⟩ : ByteArray)] [.string (⟨#[98]⟩ : ByteArray), .string (⟨#[97]⟩ : ByteArray)] (Reps.one (show Kd.M Kd.string _ _ _ (⟨#[98]⟩ : ByteArray) [.string (⟨#[98]⟩ : ByteArray)] from rfl) (Reps.one (show Kd.M Kd.string _ _ _ (⟨#[97]⟩ : ByteArray) [.string (⟨#[97]⟩ : ByteArray)] from rfl) (Reps.none _ _))) hsz (by simp), by simp, by intro s hs; simp only [List.mem_cons, List.not_mem_nil, or_false] at hs; rcases hs with rfl | rfl <;> decide⟩
        refine Y.stp rfl ?_
        go_simp
        exact hK'
       ·obtain rfl := Option.some.inj hi
        have p4 : p 4 = true := hdep ⟨4, .data⟩ (by simp) rfl
        have p5 : p 5 = true := hdep ⟨5, .data⟩ (by simp) rfl
        obtain ⟨t, et, ht⟩ := hFF 4 rfl (by decide) p4
        obtain ⟨vs, h1, h2, h3⟩ := hFF 5 rfl (by decide) p5
        obtain ⟨A5, c5, y5⟩ := Kd.R_slice h1
        rw [y5] at h1
        have x1 : a.tmps[52]?.getD undef = .string t := (Y.AI_newT (n := 80) (by kernel_rfl) hA 4 52 rfl rfl p4).trans (et)
        have x2 : a.tmps[53]?.getD undef = .slice A5 vs.length c5 := (Y.AI_newT (n := 80) (by kernel_rfl) hA 5 53 rfl rfl p5).trans (y5)
        have hK' := hK (.agg #[.string t, .slice A5 vs.length c5]) W ⟨hR.1.1.1, KeepBut.refl _ _ _⟩ hR ⟨t, _, vs, rfl, h1, h2, h3⟩
        refine Y.stp rfl ?_
        go_simp
        exact hK'
       ·obtain rfl := Option.some.inj hi
        have p6 : p 6 = true := hdep ⟨6, .data⟩ (by simp) rfl
        obtain ⟨nm, rv, vs, e6, h1, h2⟩ := hFF 6 rfl (by decide) p6
        obtain ⟨A6, c6, y6⟩ := Kd.R_slice h1
        subst y6
        have x6 : a.tmps[54]?.getD undef = .agg #[.string nm, .slice A6 vs.length c6] := (Y.AI_newT (n := 80) (by kernel_rfl) hA 6 54 rfl rfl p6).trans (e6)
        have hb := below_alloc (Below.refl W.heap.size W) (.cells #[.string nm, .slice A6 vs.length c6] 117)
        have hsz : w.heap.size ≤ W.heap.size := keep_size hR.1.1.2
        have hK' := hK (.slice (some ⟨W.heap.size, 0, none⟩) 1 1) _ ⟨hR.1.1.1, KeepBut.of_below hb g none⟩ ⟨Y.FS.below hR.1 hb, Y.EO.below hR.2 hb⟩ ⟨W.heap.size, nm, _, vs, rfl, by have := hR.1.2.2; omega, blk_new W _, Kd.R_below h1 hb, h2⟩
        refine Y.stp rfl ?_
        go_simp
        exact hK'
       ·exact absurd (by decide) hit
       ·exact absurd hpl (by decide)
       ·exact absurd (by decide) hit
       ·exact absurd hi (by simp)
      case hmid =>
       intro val W hR hFF
       exact ⟨hR, hFF 1 (by decide) rfl (by decide), hFF 7 (by decide) rfl (by decide)⟩
      case htail =>
       intro p val W a q i oi hq hi hT hG hal htl hdep hA K hK
       rcases q with _ | _ | q
       ·have hi7 := (Option.some.inj hq).symm
        subst hi7
        obtain rfl := Option.some.inj hi
        obtain ⟨hR, e1, h7⟩ := hT
        have x1 : a.eval (.tmp 49) = v1 := (Y.AI_new (n := 80) (by kernel_rfl) hA 1 49 rfl rfl (hal 1 (by decide) rfl (by decide))).trans e1
        have x7 := Y.AI_new (n := 80) (by kernel_rfl) hA 7 55 rfl rfl (hal 7 (by decide) rfl (by decide))
        refine Y.app_step rfl 49 55 rfl x1 x7 hR.1 hR.2 (by have := HI.out; omega) h7 ?_
        intro v' W1 hf he hsh
        exact hK v' W1 ⟨v', rfl, hf, he, hsh⟩
       ·have hi7 := (Option.some.inj hq).symm
        subst hi7
        obtain rfl := Option.some.inj hi
        obtain ⟨v', e8, hf, he, hsh⟩ := hT
        have p9 : p 9 = true := hdep ⟨9, .data⟩ (by simp) rfl
        have x9 : a.tmps[57]?.getD undef = .pointer (some ⟨b3, 1, none⟩) := (Y.AI_newT (n := 80) (by kernel_rfl) hA 9 57 rfl rfl p9).trans (hG 9 rfl p9)
        have x8 : a.tmps[56]?.getD undef = v' := (Y.AI_newT (n := 80) (by kernel_rfl) hA 8 56 rfl rfl (htl 0 8 (by decide) rfl)).trans e8
        obtain ⟨hd, at3, h3, h4⟩ := he
        obtain ⟨A8, c8, y8⟩ := Kd.R_slice h3
        subst y8
        obtain ⟨_, cc1, _, ff1⟩ := Y.FS.cells hf
        have hK' := hK undef _ ⟨_, Y.FS.put1 hf _, Y.EO.set51 ⟨hd, at3, h3, h4⟩ hf.2.1.2 1 _, hsh⟩
        refine Y.stp rfl ?_
        go_simp
        exact hK'
       ·exact absurd hq (by simp)
      case hfin =>
       intro p val W a hT hG hall hA
       obtain ⟨v', hf, he, _⟩ := hT
       go_wp2
       refine Met.intro ?_
       go_step
       (repeat apply Exists.intro)
       refine ⟨?rel, Y.AI_frame hA⟩
       case rel => exact ⟨m + 1, v0, v', ⟨by have := HI.out; omega⟩, ⟨hf, he⟩⟩
     have q1b : (r1 == 1) = false := beq_false_of_ne q1
     clear q1
     by_cases q2 : r1 = 2
     case pos =>
      have q2b : (r1 == 2) = true := beq_iff_eq.mpr q2
      clear q2
      obtain ⟨⟨dn, h1, h2⟩, at2, h3, h4, h5⟩ := HS2.out.2
      obtain ⟨A1, c1, rfl⟩ := Kd.R_slice h3
      have HS3 := Aside0.mk (show Y.FS w0 w w11 g b2 b3 v0 (.slice A1 at2.length c1) ∧ Y.EO w w11 at2.length v0 (.slice A1 at2.length c1) from ⟨HS2.out.1, ⟨dn, h1, h2⟩, at2, h3, Nat.le_refl _, h5⟩)
      have HN5 := Aside0.mk (show at2.length ≤ 10 from by have := HI.out; omega)
      clear h1 h2 h3 h4 h5 HS2
      generalize at2.length = n0 at HS3 HN5
      go_wp2
      go_loopg [6] 20 (fun kq v6 w' => ∃ (i0 n : Nat) (A1 : Option Addr) (c1 : Nat), v6 = .int .i64 (i0 : Int) ∧ Aside0 (i0 + kq ≤ 20 ∧ 9 ≤ n + kq ∧ n ≤ 10) ∧ Aside0 (Y.FS w0 w w' g b2 b3 v0 (.slice A1 n c1) ∧ Y.EO w w' n v0 (.slice A1 n c1)))
      case atStart => exact ⟨0, n0, A1, c1, rfl, ⟨by have := HN5.out; omega⟩, HS3⟩
      case round =>
       clear HS3 HN5
       obtain ⟨i0, n, A1, c1, rfl, HJ, HS3⟩ := hrel
       go_upto_region 17 with fail
       go_cut [66] (fun v66 wc => ∃ b : Bool, v66 = .bool b ∧ Aside0 (b = true → n < 9) ∧ Aside0 (Y.FS w0 w wc g b2 b3 v0 (.slice A1 n c1) ∧ Y.EO w wc n v0 (.slice A1 n c1)))
       case first =>
        refine Y.three_rule (by kernel_rfl) (fun j => j == 0 || j == 3) [] (fun W W' => Y.DS w0 W g ∧ KeepBut W W' g none) (fun W => Y.FS w0 w W g b2 b3 v0 (.slice A1 n c1) ∧ Y.EO w W n v0 (.slice A1 n c1))
         (fun j v W => match j with
          | 1 => v = (.slice A1 n c1)
          | 2 => v = .int .i64 (n : Int)
          | 4 => ∃ r : Int, v = .int .i64 r ∧ 0 ≤ r ∧ r < 3
          | 5 => ∃ r : Int, v = .int .i64 r ∧ 7 ≤ r ∧ r ≤ 9
          | 6 => ∃ b : Bool, v = .bool b ∧ (b = true → n < 9)
          | _ => True)
         (fun j v => v = if j = 3 then .pointer (some ⟨g, 0, none⟩) else .pointer (some ⟨b3, 1, none⟩))
         (fun q val W => (Y.FS w0 w W g b2 b3 v0 (.slice A1 n c1) ∧ Y.EO w W n v0 (.slice A1 n c1)) ∧ ∃ b : Bool, val 6 = .bool b ∧ (b = true → n < 9))
         (by kernel_rfl) (by kernel_rfl) ?hF ?h0 ?hpure ?hstep ?hmid ?htail ?hfin
        case hF =>
         rintro j v W W' hj ⟨hs, hk⟩
         rcases j with _ | _ | _ | _ | _ | _ | _ | j
         ·trivial
         ·exact hj
         ·exact hj
         ·trivial
         ·exact hj
         ·exact hj
         ·exact hj
         ·trivial
        case h0 => exact ⟨Y.FS.drew HS3.out.1, Y.EO.below HS3.out.2 (below_drew (Below.refl _ _))⟩
        case hpure =>
         intro p val W a i oi hpl hi hG hdep hA K hK
         have hi1 : i = 0 ∨ i = 3 := by simpa [or_assoc] using hpl
         rcases hi1 with rfl | rfl
         ·obtain rfl := Option.some.inj hi
          have e0 : a.tmps[3]?.getD undef = .pointer (some ⟨b3, 0, none⟩) := Y.AI_oldT hA 3 (by kernel_rfl)
          have hK' := hK _ rfl
          refine Y.stp rfl ?_
          go_simp
          exact hK'
         ·obtain rfl := Option.some.inj hi
          have e0 : a.tmps[0]?.getD undef = .pointer (some ⟨g, 0, none⟩) := Y.AI_oldT hA 0 (by kernel_rfl)
          have hK' := hK _ rfl
          refine Y.stp rfl ?_
          go_simp
          exact hK'
        case hstep =>
         intro p val W a i oi hpl hit hi hR hG hFF hdep hA K hK
         rcases i with _ | _ | _ | _ | _ | _ | _ | i
         ·exact absurd hpl (by decide)
         ·obtain rfl := Option.some.inj hi
          have p0 : p 0 = true := hdep ⟨0, .data⟩ (by simp) rfl
          have x0 : a.tmps[60]?.getD undef = .pointer (some ⟨b3, 1, none⟩) := (Y.AI_newT (n := 80) (by kernel_rfl) hA 0 60 rfl rfl p0).trans (hG 0 rfl p0)
          obtain ⟨_, cc1, _, _⟩ := Y.FS.cells hR.1
          have hK' := hK (.slice A1 n c1) W ⟨hR.1.1.1, KeepBut.refl _ _ _⟩ hR rfl
          refine Y.stp rfl ?_
          go_simp
          exact hK'
         ·obtain rfl := Option.some.inj hi
          have p1 : p 1 = true := hdep ⟨1, .data⟩ (by simp) rfl
          have x1 : a.tmps[61]?.getD undef = (.slice A1 n c1) := (Y.AI_newT (n := 80) (by kernel_rfl) hA 1 61 rfl rfl p1).trans (hFF 1 rfl (by decide) p1)
          have hK' := hK (.int .i64 (n : Int)) W ⟨hR.1.1.1, KeepBut.refl _ _ _⟩ hR rfl
          refine Y.stp rfl ?_
          go_simp
          exact hK'
         ·exact absurd hpl (by decide)
         ·obtain rfl := Option.some.inj hi
          have p3 : p 3 = true := hdep ⟨3, .data⟩ (by simp) rfl
          have x3 : a.tmps[63]?.getD undef = .pointer (some ⟨g, 0, none⟩) := (Y.AI_newT (n := 80) (by kernel_rfl) hA 3 63 rfl rfl p3).trans (hG 3 rfl p3)
          refine call_ 51 #[.pointer (some ⟨g, 0, none⟩), .int .i64 3] rfl rfl ?hrun ((Y.DS.n hR.1.1.1 3 (by decide)).mono ?hpost)
          case hrun => go_simp
          case hpost =>
           rintro e w2 ⟨r, rfl, r0, r1, hs, hk⟩
           exact ⟨_, rfl, hK _ w2 ⟨hR.1.1.1, hk⟩ ⟨Y.FS.keep hR.1 hs hk, Y.EO.keep hR.2 hR.1.1.1 hk⟩ ⟨r, rfl, r0, r1 (by decide)⟩⟩
         ·obtain rfl := Option.some.inj hi
          have p4 : p 4 = true := hdep ⟨4, .data⟩ (by simp) rfl
          obtain ⟨r, e4, r0, r1⟩ := hFF 4 rfl (by decide) p4
          have x4 : a.tmps[64]?.getD undef = .int .i64 r := (Y.AI_newT (n := 80) (by kernel_rfl) hA 4 64 rfl rfl p4).trans (e4)
          have hw1 : wrap64 (7 + r) = 7 + r := Y.w64 (by omega) (by omega)
          have hw2 : IntKind.i64.wrap (7 + r) = 7 + r := by rw [IntKind.wrap_i64]; omega
          have hK' := hK (.int .i64 (7 + r)) W ⟨hR.1.1.1, KeepBut.refl _ _ _⟩ hR ⟨7 + r, rfl, by omega, by omega⟩
          refine Y.stp rfl ?_
          go_simp
          exact hK'
         ·obtain rfl := Option.some.inj hi
          have p2 : p 2 = true := hdep ⟨2, .data⟩ (by simp) rfl
          have p5 : p 5 = true := hdep ⟨5, .data⟩ (by simp) rfl
          obtain ⟨r, e5, r0, r1⟩ := hFF 5 rfl (by decide) p5
          have x2 : a.tmps[62]?.getD undef = .int .i64 (n : Int) := (Y.AI_newT (n := 80) (by kernel_rfl) hA 2 62 rfl rfl p2).trans (hFF 2 rfl (by decide) p2)
          have x5 : a.tmps[65]?.getD undef = .int .i64 r := (Y.AI_newT (n := 80) (by kernel_rfl) hA 5 65 rfl rfl p5).trans (e5)
          have hK' := hK (.bool (decide ((n : Int) < r))) W ⟨hR.1.1.1, KeepBut.refl _ _ _⟩ hR ⟨_, rfl, fun h => by have := of_decide_eq_true h; omega⟩
          refine Y.stp rfl ?_
          go_simp
          exact hK'
         ·exact absurd hi (by simp)
        case hmid =>
         intro val W hR hFF
         exact ⟨hR, hFF 6 (by decide) rfl (by decide)⟩
        case htail =>
         intro p val W a q i oi hq hi hT hG hal htl hdep hA K hK
         exact absurd hq (by simp)
        case hfin =>
         intro p val W a hT hG hall hA
         obtain ⟨hR, b, e6, h6⟩ := hT
         have x66 : a.tmps[66]?.getD undef = .bool b := (Y.AI_newT (n := 80) (by kernel_rfl) hA 6 66 rfl rfl (hall 6 (by decide))).trans e6
         go_wp2
         refine Met.intro ?_
         go_step
         (repeat apply Exists.intro)
         refine ⟨?rel, Y.AI_frame hA⟩
         case rel => exact ⟨b, (Y.AI_at 66 (by kernel_rfl)).trans x66, ⟨h6⟩, ⟨hR⟩⟩
       case rest =>
        obtain ⟨b, rfl, HB, HS4⟩ := hcut
        clear HS3
        cases b
        case false =>
         go_wp2
         go_meet
         case rel => exact ⟨n, v0, _, ⟨by have := HJ.out; omega⟩, HS4⟩
        case true =>
         have HB9 := Aside0.mk (HB.out rfl)
         clear HB
         obtain ⟨gk, rfl⟩ : ∃ z, gk = z + 1 := ⟨gk - 1, by have := HJ.out; have := HB9.out; omega⟩
         have HWI := Aside0.mk (show wrap64 ((i0 : Int) + 1) = ((i0 + 1 : Nat) : Int) from by have := HJ.out; unfold wrap64; omega)
         go_upto_block 4 with fail
         go_cut [] (fun wc => ∃ (A2 : Option Addr) (c2 : Nat), Aside0 (Y.FS w0 w wc g b2 b3 v0 (.slice A2 (n + 1) c2) ∧ Y.EO w wc (n + 1) v0 (.slice A2 (n + 1) c2)))
         case first =>
          go_upto_region 19 with fail
          refine Y.three_rule (by kernel_rfl) (fun j => j == 0 || j == 2 || j == 9) [8, 10] (fun W W' => Y.DS w0 W g ∧ KeepBut W W' g none) (fun W => Y.FS w0 w W g b2 b3 v0 (.slice A1 n c1) ∧ Y.EO w W n v0 (.slice A1 n c1))
           (fun j v W => match j with
            | 1 => v = (.slice A1 n c1)
            | 3 => ∃ t : ByteArray, v = .string t ∧ t.size ≤ 1000
            | 4 => ∃ t : ByteArray, v = .string t ∧ t.size ≤ 8000
            | 5 => ∃ vs : List ByteArray, Kd.R Kd.string 9 W w.heap.size (fun _ => True) v vs ∧ vs.length ≤ 1000 ∧ ∀ s ∈ vs, s.size ≤ 8000
            | 6 => ∃ (nm : ByteArray) (rv : Value) (vs : List ByteArray), v = .agg #[.string nm, rv] ∧ Kd.R Kd.string 9 W w.heap.size (fun _ => True) rv vs ∧ Y.AV ⟨nm, vs⟩
            | 7 => Y.OneA w W g v
            | _ => True)
           (fun j v => v = if j = 2 then .int .i64 (i0 : Int) else .pointer (some ⟨b3, 1, none⟩))
           (fun q val W => match q with
            | 0 => (Y.FS w0 w W g b2 b3 v0 (.slice A1 n c1) ∧ Y.EO w W n v0 (.slice A1 n c1)) ∧ val 1 = (.slice A1 n c1) ∧ Y.OneA w W g (val 7)
            | 1 => ∃ v' : Value, val 8 = v' ∧ Y.FS w0 w W g b2 b3 v0 (.slice A1 n c1) ∧ Y.EO w W (n + 1) v0 v' ∧ (∀ A_ n_ c_, (.slice A1 n c1) = Value.slice A_ n_ c_ → ∃ A' c', v' = Value.slice A' (n_ + 1) c')
            | _ => ∃ v' : Value, Y.FS w0 w W g b2 b3 v0 v' ∧ Y.EO w W (n + 1) v0 v' ∧ (∀ A_ n_ c_, (.slice A1 n c1) = Value.slice A_ n_ c_ → ∃ A' c', v' = Value.slice A' (n_ + 1) c'))
           (by kernel_rfl) (by kernel_rfl) ?hF ?h0 ?hpure ?hstep ?hmid ?htail ?hfin
          case hF =>
           rintro j v W W' hj ⟨hs, hk⟩
           rcases j with _ | _ | _ | _ | _ | _ | _ | _ | j
           ·trivial
           ·exact hj
           ·trivial
           ·exact hj
           ·exact hj
           ·obtain ⟨vs, h1, h2, h3⟩ := hj
            exact ⟨vs, Y.RS.keep h1 hs hk, h2, h3⟩
           ·obtain ⟨nm, rv, vs, e, h1, h2⟩ := hj
            exact ⟨nm, rv, vs, e, Y.RS.keep h1 hs hk, h2⟩
           ·exact Y.OneA.keep hj hs hk
           ·trivial
          case h0 => exact ⟨Y.FS.drew HS4.out.1, Y.EO.below HS4.out.2 (below_drew (Below.refl _ _))⟩
          case hpure =>
           intro p val W a i oi hpl hi hG hdep hA K hK
           have hi1 : i = 0 ∨ i = 2 ∨ i = 9 := by simpa [or_assoc] using hpl
           rcases hi1 with rfl | rfl | rfl
           ·obtain rfl := Option.some.inj hi
            have e0 : a.tmps[3]?.getD undef = .pointer (some ⟨b3, 0, none⟩) := Y.AI_oldT hA 3 (by kernel_rfl)
            have hK' := hK _ rfl
            refine Y.stp rfl ?_
            go_simp
            exact hK'
           ·obtain rfl := Option.some.inj hi
            have e0 : a.tmps[6]?.getD undef = .int .i64 (i0 : Int) := Y.AI_oldT hA 6 (by kernel_rfl)
            have hK' := hK _ rfl
            refine Y.stp rfl ?_
            go_simp
            exact hK'
           ·obtain rfl := Option.some.inj hi
            have e0 : a.tmps[3]?.getD undef = .pointer (some ⟨b3, 0, none⟩) := Y.AI_oldT hA 3 (by kernel_rfl)
            have hK' := hK _ rfl
            refine Y.stp rfl ?_
            go_simp
            exact hK'
          case hstep =>
           intro p val W a i oi hpl hit hi hR hG hFF hdep hA K hK
           rcases i with _ | _ | _ | _ | _ | _ | _ | _ | _ | _ | _ | i
           ·exact absurd hpl (by decide)
           ·obtain rfl := Option.some.inj hi
            have p0 : p 0 = true := hdep ⟨0, .data⟩ (by simp) rfl
            have x0 : a.tmps[69]?.getD undef = .pointer (some ⟨b3, 1, none⟩) := (Y.AI_newT (n := 80) (by kernel_rfl) hA 0 69 rfl rfl p0).trans (hG 0 rfl p0)
            obtain ⟨_, cc1, _, _⟩ := Y.FS.cells hR.1
            have hK' := hK (.slice A1 n c1) W ⟨hR.1.1.1, KeepBut.refl _ _ _⟩ hR rfl
            refine Y.stp rfl ?_
            go_simp
            exact hK'
           ·exact absurd hpl (by decide)
           ·obtain rfl := Option.some.inj hi
            have p2 : p 2 = true := hdep ⟨2, .data⟩ (by simp) rfl
            have x2 : a.tmps[71]?.getD undef = .int .i64 (i0 : Int) := (Y.AI_newT (n := 80) (by kernel_rfl) hA 2 71 rfl rfl p2).trans (hG 2 rfl p2)
            obtain ⟨kd, td, hd, hds⟩ := HTT.out.2.2.2.2 (i0 : Int) (by omega) (by have := HJ.out; omega)
            refine call_ 131 #[.int .i64 (i0 : Int)] rfl rfl ?hrun ((Qs.calls kd (i0 : Int) td W hd).mono ?hpost)
            case hrun => go_simp
            case hpost =>
             rintro e w2 ⟨rfl, hb⟩
             exact ⟨_, rfl, hK _ w2 ⟨hR.1.1.1, KeepBut.of_below hb g none⟩ ⟨Y.FS.below hR.1 hb, Y.EO.below hR.2 hb⟩ ⟨td, rfl, hds⟩⟩
           ·obtain rfl := Option.some.inj hi
            have p3 : p 3 = true := hdep ⟨3, .data⟩ (by simp) rfl
            obtain ⟨t, e3, ht⟩ := hFF 3 rfl (by decide) p3
            have x3 : a.tmps[72]?.getD undef = .string t := (Y.AI_newT (n := 80) (by kernel_rfl) hA 3 72 rfl rfl p3).trans (e3)
            have s1 : ¬ (9223372036854775807 < (⟨#[122]⟩ : ByteArray).size + t.size) := by have : (⟨#[122]⟩ : ByteArray).size = 1 := rfl; omega
            have s2 : ¬ (9223372036854775807 < 1 + t.size) := by omega
            have hK' := hK (.string (⟨#[122]⟩ ++ t)) W ⟨hR.1.1.1, KeepBut.refl _ _ _⟩ hR ⟨_, rfl, by rw [ByteArray.size_append]; have : (⟨#[122]⟩ : ByteArray).size = 1 := rfl; omega⟩
            refine Y.stp rfl ?_
            go_simp
            exact hK'
           ·obtain rfl := Option.some.inj hi
            have hb := below_alloc (Below.refl W.heap.size W) (.cells #[.string (⟨#[97]⟩ : ByteArray)] 9)
            have hsz : w.heap.size ≤ W.heap.size := keep_size hR.1.1.2
            have hK' := hK (.slice (some ⟨W.heap.size, 0, none⟩) 1 1) _ ⟨hR.1.1.1, KeepBut.of_below hb g none⟩ ⟨Y.FS.below hR.1 hb, Y.EO.below hR.2 hb⟩ ⟨[(⟨#[97]⟩ : ByteArray)], Y.lit_R Kd.string W _ 9 [(⟨#[97]⟩ : ByteArray)] [.string (⟨#[97]⟩ : ByteArray)] (Reps.one (show Kd.M Kd.string _ _ _ (⟨#[97]⟩ : ByteArray) [.string (⟨#[97]⟩ : ByteArray)] from rfl) (Reps.none _ _)) hsz (by simp), by simp, by intro s hs; simp only [List.mem_cons, List.not_mem_nil, or_false] at hs; rcases hs with rfl <;> decide⟩
            refine Y.stp rfl ?_
            go_simp
            exact hK'
           ·obtain rfl := Option.some.inj hi
            have p4 : p 4 = true := hdep ⟨4, .data⟩ (by simp) rfl
            have p5 : p 5 = true := hdep ⟨5, .data⟩ (by simp) rfl
            obtain ⟨t, et, ht⟩ := hFF 4 rfl (by decide) p4
            obtain ⟨vs, h1, h2, h3⟩ := hFF 5 rfl (by decide) p5
            obtain ⟨A5, c5, y5⟩ := Kd.R_slice h1
            rw [y5] at h1
            have x1 : a.tmps[73]?.getD undef = .string t := (Y.AI_newT (n := 80) (by kernel_rfl) hA 4 73 rfl rfl p4).trans (et)
            have x2 : a.tmps[74]?.getD undef = .slice A5 vs.length c5 := (Y.AI_newT (n := 80) (by kernel_rfl) hA 5 74 rfl rfl p5).trans (y5)
            have hK' := hK (.agg #[.string t, .slice A5 vs.length c5]) W ⟨hR.1.1.1, KeepBut.refl _ _ _⟩ hR ⟨t, _, vs, rfl, h1, h2, h3⟩
            refine Y.stp rfl ?_
            go_simp
            exact hK'
           ·obtain rfl := Option.some.inj hi
            have p6 : p 6 = true := hdep ⟨6, .data⟩ (by simp) rfl
            obtain ⟨nm, rv, vs, e6, h1, h2⟩ := hFF 6 rfl (by decide) p6
            obtain ⟨A6, c6, y6⟩ := Kd.R_slice h1
            subst y6
            have x6 : a.tmps[75]?.getD undef = .agg #[.string nm, .slice A6 vs.length c6] := (Y.AI_newT (n := 80) (by kernel_rfl) hA 6 75 rfl rfl p6).trans (e6)
            have hb := below_alloc (Below.refl W.heap.size W) (.cells #[.string nm, .slice A6 vs.length c6] 117)
            have hsz : w.heap.size ≤ W.heap.size := keep_size hR.1.1.2
            have hK' := hK (.slice (some ⟨W.heap.size, 0, none⟩) 1 1) _ ⟨hR.1.1.1, KeepBut.of_below hb g none⟩ ⟨Y.FS.below hR.1 hb, Y.EO.below hR.2 hb⟩ ⟨W.heap.size, nm, _, vs, rfl, by have := hR.1.2.2; omega, blk_new W _, Kd.R_below h1 hb, h2⟩
            refine Y.stp rfl ?_
            go_simp
            exact hK'
           ·exact absurd (by decide) hit
           ·exact absurd hpl (by decide)
           ·exact absurd (by decide) hit
           ·exact absurd hi (by simp)
          case hmid =>
           intro val W hR hFF
           exact ⟨hR, hFF 1 (by decide) rfl (by decide), hFF 7 (by decide) rfl (by decide)⟩
          case htail =>
           intro p val W a q i oi hq hi hT hG hal htl hdep hA K hK
           rcases q with _ | _ | q
           ·have hi7 := (Option.some.inj hq).symm
            subst hi7
            obtain rfl := Option.some.inj hi
            obtain ⟨hR, e1, h7⟩ := hT
            have x1 : a.eval (.tmp 70) = (.slice A1 n c1) := (Y.AI_new (n := 80) (by kernel_rfl) hA 1 70 rfl rfl (hal 1 (by decide) rfl (by decide))).trans e1
            have x7 := Y.AI_new (n := 80) (by kernel_rfl) hA 7 76 rfl rfl (hal 7 (by decide) rfl (by decide))
            refine Y.app_step rfl 70 76 rfl x1 x7 hR.1 hR.2 (by have := HJ.out; omega) h7 ?_
            intro v' W1 hf he hsh
            exact hK v' W1 ⟨v', rfl, hf, he, hsh⟩
           ·have hi7 := (Option.some.inj hq).symm
            subst hi7
            obtain rfl := Option.some.inj hi
            obtain ⟨v', e8, hf, he, hsh⟩ := hT
            have p9 : p 9 = true := hdep ⟨9, .data⟩ (by simp) rfl
            have x9 : a.tmps[78]?.getD undef = .pointer (some ⟨b3, 1, none⟩) := (Y.AI_newT (n := 80) (by kernel_rfl) hA 9 78 rfl rfl p9).trans (hG 9 rfl p9)
            have x8 : a.tmps[77]?.getD undef = v' := (Y.AI_newT (n := 80) (by kernel_rfl) hA 8 77 rfl rfl (htl 0 8 (by decide) rfl)).trans e8
            obtain ⟨hd, at3, h3, h4⟩ := he
            obtain ⟨A8, c8, y8⟩ := Kd.R_slice h3
            subst y8
            obtain ⟨_, cc1, _, ff1⟩ := Y.FS.cells hf
            have hK' := hK undef _ ⟨_, Y.FS.put1 hf _, Y.EO.set51 ⟨hd, at3, h3, h4⟩ hf.2.1.2 1 _, hsh⟩
            refine Y.stp rfl ?_
            go_simp
            exact hK'
           ·exact absurd hq (by simp)
          case hfin =>
           intro p val W a hT hG hall hA
           obtain ⟨v', hf, he, hsh⟩ := hT
           obtain ⟨A2, c2, rfl⟩ := hsh A1 n c1 rfl
           go_wp2
           refine Met.intro ?_
           go_step
           (repeat apply Exists.intro)
           refine ⟨?rel, Y.AI_frame hA⟩
           case rel => exact ⟨A2, c2, ⟨hf, he⟩⟩
         case rest =>
          obtain ⟨A2, c2, HS5⟩ := hcut
          clear HS4
          go_wp2
          go_roundg gk
          case measure => omega
          case rel => exact ⟨i0 + 1, n + 1, A2, c2, by rw [HWI.out], ⟨by have := HJ.out; have := HB9.out; omega⟩, HS5⟩
     have q2b : (r1 == 2) = false := beq_false_of_ne q2
     clear q2
     obtain ⟨⟨dn, h1, h2⟩, at2, h3, h4, h5⟩ := HS2.out.2
     obtain ⟨A6, c6, rfl⟩ := Kd.R_slice h3
     obtain ⟨c30, c31, f30, f31⟩ := Y.FS.cells HS2.out.1
     have HX := Aside0.mk (And.intro (And.intro h1 h2) (And.intro h3 (And.intro h4 h5)))
     clear h1 h2 h3 h4 h5
     go_wp2_with (at_builtin; refine Kd.R_append k117 (w0 := w11) w.heap.size rfl (.tmp 36) (.tmp 38) 49 117 (.agg #[(.string ⟨#[]⟩), (.slice none 0 0)]) 40 rfl Tryz.underlying49 info117 rfl (by decide) (by omega) (.slice A6 at2.length c6) at2 (⟨(⟨#[122, 122]⟩ : ByteArray), []⟩ : S117) [.string (⟨#[122, 122]⟩ : ByteArray), .slice none 0 0] (fun _ => True) (fun _ => False) rfl rfl (k117_mkM _ _ _ (⟨(⟨#[122, 122]⟩ : ByteArray), []⟩ : S117) (Kd.R_nil _ _ _ _ _)) (fun _ h => h.elim) (fun _ _ => trivial) HX.out.2.1 (Below.refl _ _) (keep_size HS2.out.1.1.2) (by have := HX.out.2.2.1; have := HI.out; omega) ?_; intro vA wA ho hb hg hat; generalize hl2 : at2 ++ [(⟨(⟨#[122, 122]⟩ : ByteArray), []⟩ : S117)] = l2 at ho; obtain ⟨A8, c8, e8⟩ := Kd.R_slice ho; subst e8; have HS3 := Aside0.mk (Y.FS.app (m := m + 1) HS2.out.1 HX.out.2.1 ⟨dn, HX.out.1⟩ ho (by rw [← hl2]; refine ⟨by rw [List.length_append]; have := HX.out.2.2.1; simp; omega, fun y hy => ?_⟩; rcases List.mem_append.1 hy with h | h; exact HX.out.2.2.2 y h; rw [List.mem_singleton.1 h]; exact ⟨by simp, by simp⟩) hb hg); clear ho hb hg hat hl2 HX HS2 c30 c31 f30 f31; obtain ⟨c30, c31, f30, f31⟩ := Y.FS.cells HS3.out.1)
     go_meet
     case rel => exact ⟨m + 1, _, _, ⟨by have := HI.out; omega⟩, ⟨Y.FS.put1 HS3.out.1 _, Y.EO.set51 HS3.out.2 HS3.out.1.2.1.2 1 _⟩⟩
   case rest =>
    obtain ⟨m, v0, v1, HM, HS2⟩ := hcut
    clear HS1 HI
    obtain ⟨⟨dn, h1, h2⟩, at2, h3, h4⟩ := HS2.out.2
    obtain ⟨A5, c5, rfl⟩ := Kd.R_slice h1
    obtain ⟨A6, c6, rfl⟩ := Kd.R_slice h3
    clear h1 h2 h3 h4
    obtain ⟨c30, c31, f30, f31⟩ := Y.FS.cells HS2.out.1
    obtain ⟨c20, c21, f20, f21⟩ := Y.FS.cells2 HS2.out.1
    go_wp2
    obtain ⟨z1, z2, z3, z4⟩ := Y.FS.ret HS2.out.1 HS2.out.2
    refine bodyPost_ret (results_cell_row rfl _ _ b2 51 #[.slice A5 dn.length c5, .slice A6 at2.length c6] (0, 0) _ rfl z1 Tryz.underlying51 rfl (by kernel_rfl)) rfl ?_
    exact ⟨_, _, rfl, Y.EO.le z2 HM.out, z3, z4⟩
def Y.PB (w0 w W : World) (g b2 : Nat) : Prop :=
 (Y.DS w0 W g ∧ KeepBut w W g none) ∧ W.heap[b2]? = some (.cells #[.slice none 0 0, .slice none 0 0] 51 (0, 0)) ∧ (w.heap.size ≤ b2 ∧ g < w.heap.size ∧ w0.heap.size ≤ w.heap.size)
theorem Y.PB.keep {w0 w W W1 : World} {g b2 : Nat} (h : Y.PB w0 w W g b2) (hs : Y.DS w0 W1 g) (hk : KeepBut W W1 g none) : Y.PB w0 w W1 g b2 := ⟨⟨hs, h.1.2.trans hk (.inl rfl)⟩, hk.blk h.2.1 (by have := h.2.2; omega) (by simp), h.2.2⟩
theorem Y.PB.below {w0 w W W1 : World} {g b2 : Nat} (h : Y.PB w0 w W g b2) (hb : Below W.heap.size W W1) : Y.PB w0 w W1 g b2 := Y.PB.keep h (Y.DS.below h.1.1 hb) (KeepBut.of_below hb g none)
theorem Y.entry5 (HT : Y.TOT2) (g : Nat) (w0 w : World) (h : Y.DS w0 w g) :
  Calls Tryz.prog 58 #[.pointer (some ⟨g, 0, none⟩)] w fun e w' => ∃ v0 v1 : Value, e = .returned (.agg #[v0, v1]) ∧ Y.EO w w' 30 v0 v1 ∧ Y.DS w0 w' g ∧ KeepBut w w' g none := by
 have hu51 := Tryz.underlying51
 have hu119 := Tryz.underlying119
 have hu117 := Tryz.underlying117
 have hu96 := Tryz.underlying96
 have HTT := Aside0.mk HT
 have HG := Aside0.mk (Y.DS.lt h)
 have HG0 := Aside0.mk (show w0.heap.size ≤ w.heap.size from below_size h.2)
 have HD := Aside0.mk h
 clear h HT
 go_enter Tryz.func58, Tryz.ntmps58
 go_upto_region 3 with (first | ((with_reducible refine gate_dst (N := 2) rfl ?_); refine box_event ?hg (N := 2) ?hd (cs := #[.slice none 0 0, .slice none 0 0]) (t := 51) ?hr ?_; (case hd => rfl); (case hg => rfl); (case hr => first | (go_simp; done) | (go_simp; rfl)); intro b2 hg2 w3 hbox2 hb3; have HP3 := Aside0.mk (show Y.PB w0 w w3 g b2 from ⟨⟨Y.DS.below HD.out hb3, KeepBut.of_below hb3 g none⟩, hbox2, ⟨by omega, HG.out, HG0.out⟩⟩); clear hg2 hbox2 hb3 HD) | (go_at_call 53; refine (Y.DS.pick HP3.out.1.1 [(⟨#[97, 110, 110]⟩ : ByteArray), (⟨#[98, 111, 98]⟩ : ByteArray), (⟨#[99, 97, 116]⟩ : ByteArray)] (by decide) (by decide)).mono ?_; rintro e w5 ⟨t1, rfl, ht, hs, hk⟩; have HTt1 := Aside0.mk (show t1.size ≤ 8000 from by simp only [List.mem_cons, List.not_mem_nil, or_false] at ht; rcases ht with rfl | rfl | rfl <;> decide); have HP5 := Aside0.mk (Y.PB.keep HP3.out hs hk); clear ht hs hk HP3 ) | ((with_reducible refine gate_dst (N := 13) rfl ?_); refine Kd.R_lit k96 (w0 := w5) w.heap.size 96 ?hg (N := 13) ?hd (xs := ([(⟨(⟨#[99, 110]⟩ : ByteArray), t1⟩ : S96), (⟨(⟨#[111, 117]⟩ : ByteArray), (⟨#[120]⟩ : ByteArray)⟩ : S96)] : List S96)) (inner := [.string (⟨#[99, 110]⟩ : ByteArray), .string t1, .string (⟨#[111, 117]⟩ : ByteArray), .string (⟨#[120]⟩ : ByteArray)]) (ok := fun _ => True) (okp := fun _ => False) ?hr ?hp (fun _ hk => hk.elim) trivial (Below.refl _ _) (keep_size HP5.out.1.2) (by simp) ?_; (case hd => rfl); (case hg => rfl); (case hr => first | (go_simp; done) | (go_simp; rfl)); (case hp => exact (Reps.c2 (k96_mkM _ _ _ (⟨(⟨#[99, 110]⟩ : ByteArray), t1⟩ : S96)) (Reps.c2 (k96_mkM _ _ _ (⟨(⟨#[111, 117]⟩ : ByteArray), (⟨#[120]⟩ : ByteArray)⟩ : S96)) (Reps.none _ _)))); intro v13 w13 ho hb hg hnew; obtain ⟨A13, c13, e13⟩ := Kd.R_slice ho; subst e13; have hbn := Y.below_none hg; have HP13 := Aside0.mk (Y.PB.below HP5.out hbn); have HR13 := Aside0.mk ho; clear ho hb hg hnew hbn HP5 ) | ((with_reducible refine gate_dst (N := 14) rfl ?_); refine Kd.R_lit Kd.string (w0 := w13) w.heap.size 9 ?hg (N := 14) ?hd (xs := ([(⟨#[112, 101, 114, 115, 111, 110]⟩ : ByteArray)] : List ByteArray)) (inner := [.string (⟨#[112, 101, 114, 115, 111, 110]⟩ : ByteArray)]) (ok := fun _ => True) (okp := fun _ => False) ?hr ?hp (fun _ hk => hk.elim) trivial (Below.refl _ _) (keep_size HP13.out.1.2) (by simp) ?_; (case hd => rfl); (case hg => rfl); (case hr => first | (go_simp; done) | (go_simp; rfl)); (case hp => exact (Reps.one (show Kd.M Kd.string _ _ _ (⟨#[112, 101, 114, 115, 111, 110]⟩ : ByteArray) [.string (⟨#[112, 101, 114, 115, 111, 110]⟩ : ByteArray)] from rfl) (Reps.none _ _))); intro v14 w14 ho hb hg hnew; obtain ⟨A14, c14, e14⟩ := Kd.R_slice ho; subst e14; have hbn := Y.below_none hg; have HP14 := Aside0.mk (Y.PB.below HP13.out hbn); have HR14 := Aside0.mk ho; have HR13a := Aside0.mk (Kd.R_below HR13.out hbn); clear ho hb hg hnew hbn HP13 HR13) | ((with_reducible refine gate_dst (N := 17) rfl ?_); refine Kd.R_lit Kd.string (w0 := w14) w.heap.size 9 ?hg (N := 17) ?hd (xs := ([t1] : List ByteArray)) (inner := [.string t1]) (ok := fun _ => True) (okp := fun _ => False) ?hr ?hp (fun _ hk => hk.elim) trivial (Below.refl _ _) (keep_size HP14.out.1.2) (by simp) ?_; (case hd => rfl); (case hg => rfl); (case hr => first | (go_simp; done) | (go_simp; rfl)); (case hp => exact (Reps.one (show Kd.M Kd.string _ _ _ t1 [.string t1] from rfl) (Reps.none _ _))); intro v17 w17 ho hb hg hnew; obtain ⟨A17, c17, e17⟩ := Kd.R_slice ho; subst e17; have hbn := Y.below_none hg; have HP17 := Aside0.mk (Y.PB.below HP14.out hbn); have HR17 := Aside0.mk ho; have HR13b := Aside0.mk (Kd.R_below HR13a.out hbn); have HR14b := Aside0.mk (Kd.R_below HR14.out hbn); clear ho hb hg hnew hbn HP14 HR13a HR14) | (go_at_call 53; refine (Y.DS.pick HP17.out.1.1 [(⟨#[49]⟩ : ByteArray), (⟨#[50]⟩ : ByteArray), (⟨#[51]⟩ : ByteArray)] (by decide) (by decide)).mono ?_; rintro e w21 ⟨t2, rfl, ht, hs, hk⟩; have HTt2 := Aside0.mk (show t2.size ≤ 8000 from by simp only [List.mem_cons, List.not_mem_nil, or_false] at ht; rcases ht with rfl | rfl | rfl <;> decide); have HP21 := Aside0.mk (Y.PB.keep HP17.out hs hk); have HR13c := Aside0.mk (Y.RK.keep HR13b.out HP17.out.1.1 (by decide) hk); have HR14c := Aside0.mk (Y.RK.keep HR14b.out HP17.out.1.1 (by decide) hk); have HR17c := Aside0.mk (Y.RK.keep HR17.out HP17.out.1.1 (by decide) hk); clear ht hs hk HP17 HR13b HR14b HR17) | ((with_reducible refine gate_dst (N := 22) rfl ?_); refine Kd.R_lit Kd.string (w0 := w21) w.heap.size 9 ?hg (N := 22) ?hd (xs := ([t2] : List ByteArray)) (inner := [.string t2]) (ok := fun _ => True) (okp := fun _ => False) ?hr ?hp (fun _ hk => hk.elim) trivial (Below.refl _ _) (keep_size HP21.out.1.2) (by simp) ?_; (case hd => rfl); (case hg => rfl); (case hr => first | (go_simp; done) | (go_simp; rfl)); (case hp => exact (Reps.one (show Kd.M Kd.string _ _ _ t2 [.string t2] from rfl) (Reps.none _ _))); intro v22 w22 ho hb hg hnew; obtain ⟨A22, c22, e22⟩ := Kd.R_slice ho; subst e22; have hbn := Y.below_none hg; have HP22 := Aside0.mk (Y.PB.below HP21.out hbn); have HR22 := Aside0.mk ho; have HR13d := Aside0.mk (Kd.R_below HR13c.out hbn); have HR14d := Aside0.mk (Kd.R_below HR14c.out hbn); have HR17d := Aside0.mk (Kd.R_below HR17c.out hbn); clear ho hb hg hnew hbn HP21 HR13c HR14c HR17c) | ((with_reducible refine gate_dst (N := 24) rfl ?_); refine Kd.R_lit k117 (w0 := w22) w.heap.size 117 ?hg (N := 24) ?hd (xs := ([(⟨(⟨#[99, 108, 97, 115, 115]⟩ : ByteArray), [(⟨#[112, 101, 114, 115, 111, 110]⟩ : ByteArray)]⟩ : S117), (⟨(⟨#[99, 110]⟩ : ByteArray), [t1]⟩ : S117), (⟨(⟨#[117, 105, 100]⟩ : ByteArray), [t2]⟩ : S117)] : List S117)) (inner := [.string (⟨#[99, 108, 97, 115, 115]⟩ : ByteArray), .slice A14 1 c14, .string (⟨#[99, 110]⟩ : ByteArray), .slice A17 1 c17, .string (⟨#[117, 105, 100]⟩ : ByteArray), .slice A22 1 c22]) (ok := fun _ => True) (okp := fun _ => True) ?hr ?hp (fun _ hk => hk) trivial (Below.refl _ _) (keep_size HP22.out.1.2) (by simp) ?_; (case hd => rfl); (case hg => rfl); (case hr => first | (go_simp; done) | (go_simp; rfl)); (case hp => exact (Reps.c2 (k117_mkM w22 _ _ (⟨(⟨#[99, 108, 97, 115, 115]⟩ : ByteArray), [(⟨#[112, 101, 114, 115, 111, 110]⟩ : ByteArray)]⟩ : S117) HR14d.out) (Reps.c2 (k117_mkM w22 _ _ (⟨(⟨#[99, 110]⟩ : ByteArray), [t1]⟩ : S117) HR17d.out) (Reps.c2 (k117_mkM w22 _ _ (⟨(⟨#[117, 105, 100]⟩ : ByteArray), [t2]⟩ : S117) HR22.out) (Reps.none _ _))))); intro v24 w24 ho hb hg hnew; obtain ⟨A24, c24, e24⟩ := Kd.R_slice ho; subst e24; have hbn := Y.below_none hg; have HP24 := Aside0.mk (Y.PB.below HP22.out hbn); have HR24 := Aside0.mk ho; have HR13e := Aside0.mk (Kd.R_below HR13d.out hbn); clear ho hb hg hnew hbn HP22 HR14d HR17d HR22 HR13d) | ((with_reducible refine gate_dst (N := 4) rfl ?_); refine box_event ?hg (N := 4) ?hd (cs := #[.slice none 0 0, .slice none 0 0]) (t := 51) ?hr ?_; (case hd => rfl); (case hg => rfl); (case hr => first | (go_simp; done) | (go_simp; rfl)); intro b3 hg3 w7 hbox3 hb7; have HF7 := Aside0.mk (show Y.FS w0 w w7 g b2 b3 (.slice none 0 0) (.slice none 0 0) from ⟨⟨Y.DS.below HP24.out.1.1 hb7, HP24.out.1.2.trans (KeepBut.of_below hb7 g none) (.inl rfl)⟩, ⟨blk_below HP24.out.2.1 hb7, hbox3⟩, ⟨HP24.out.2.2.1, by have := keep_size HP24.out.1.2; omega, by have := blk_lt HP24.out.2.1; omega, HG.out, HG0.out⟩⟩); have HE7 := Aside0.mk (show Y.EO w w7 3 (.slice A13 2 c13) (.slice A24 3 c24) from ⟨⟨_, Kd.R_below HR13e.out hb7, by simp⟩, _, Kd.R_below HR24.out hb7, by simp, by intro x hx; simp only [List.mem_cons, List.not_mem_nil, or_false] at hx; rcases hx with rfl | rfl | rfl <;> exact ⟨by simp, by intro s hs; have := HTt1.out; have := HTt2.out; simp only [List.mem_cons, List.not_mem_nil, or_false] at hs; subst hs; first | assumption | decide⟩⟩); obtain ⟨c30, c31, f30, f31⟩ := Y.FS.cells HF7.out; clear hg3 hbox3 hb7 HP24 HR13e HR24))
 have HS := Aside0.mk (Y.FS.store HF7.out HE7.out)
 clear HF7 HE7 c30 c31 f30 f31 HTt1 HTt2
 generalize (w7.setCell ⟨b3, 0, none⟩ (.slice A13 2 c13)).setCell ⟨b3, 1, none⟩ (.slice A24 3 c24) = W8 at HS ⊢
 generalize (.slice A13 2 c13 : Value) = e0 at HS ⊢
 generalize (.slice A24 3 c24 : Value) = e1 at HS ⊢
 go_upto_if 27 with (go_at_call 87; refine (Y.DS.one HS.out.1.1.1 4 (by decide)).mono ?_; rintro e w9 ⟨r0, rfl, hs, hk⟩; have HS1 := Aside0.mk (And.intro (Y.FS.keep HS.out.1 hs hk) (Y.EO.keep HS.out.2 HS.out.1.1.1 hk)); clear hs hk HS)
 go_cut [] (fun wc => ∃ v0 v1 : Value, Aside0 (Y.FS w0 w wc g b2 b3 v0 v1 ∧ Y.EO w wc 3 v0 v1))
 case first =>
  cases r0 with
  | false =>
   go_wp2
   go_meet
   case rel => exact ⟨e0, e1, HS1⟩
  | true =>
   have HF9 := Aside0.mk HS1.out.1
   clear HS1
   go_wp2_with (first | ((with_reducible refine gate_dst (N := 29) rfl ?_); refine Kd.R_lit k96 (w0 := w9) w.heap.size 96 ?hg (N := 29) ?hd (xs := ([(⟨(⟨#[111, 117]⟩ : ByteArray), (⟨#[120]⟩ : ByteArray)⟩ : S96)] : List S96)) (inner := [.string (⟨#[111, 117]⟩ : ByteArray), .string (⟨#[120]⟩ : ByteArray)]) (ok := fun _ => True) (okp := fun _ => False) ?hr ?hp (fun _ hk => hk.elim) trivial (Below.refl _ _) (keep_size HF9.out.1.2) (by simp) ?_; (case hd => rfl); (case hg => rfl); (case hr => first | (go_simp; done) | (go_simp; rfl)); (case hp => exact (Reps.c2 (k96_mkM _ _ _ (⟨(⟨#[111, 117]⟩ : ByteArray), (⟨#[120]⟩ : ByteArray)⟩ : S96)) (Reps.none _ _))); intro v29 w29 ho hb hg hnew; obtain ⟨A29, c29, e29⟩ := Kd.R_slice ho; subst e29; have hbn := Y.below_none hg; have HF29 := Aside0.mk (Y.FS.below HF9.out hbn); have HR29 := Aside0.mk ho; clear ho hb hg hnew hbn HF9 ) | ((with_reducible refine gate_dst (N := 30) rfl ?_); refine Kd.R_lit Kd.string (w0 := w29) w.heap.size 9 ?hg (N := 30) ?hd (xs := ([(⟨#[85, 110, 105, 116]⟩ : ByteArray)] : List ByteArray)) (inner := [.string (⟨#[85, 110, 105, 116]⟩ : ByteArray)]) (ok := fun _ => True) (okp := fun _ => False) ?hr ?hp (fun _ hk => hk.elim) trivial (Below.refl _ _) (keep_size HF29.out.1.2) (by simp) ?_; (case hd => rfl); (case hg => rfl); (case hr => first | (go_simp; done) | (go_simp; rfl)); (case hp => exact (Reps.one (show Kd.M Kd.string _ _ _ (⟨#[85, 110, 105, 116]⟩ : ByteArray) [.string (⟨#[85, 110, 105, 116]⟩ : ByteArray)] from rfl) (Reps.none _ _))); intro v30 w30 ho hb hg hnew; obtain ⟨A30, c30, e30⟩ := Kd.R_slice ho; subst e30; have hbn := Y.below_none hg; have HF30 := Aside0.mk (Y.FS.below HF29.out hbn); have HR30 := Aside0.mk ho; have HR29a := Aside0.mk (Kd.R_below HR29.out hbn); clear ho hb hg hnew hbn HF29 HR29) | ((with_reducible refine gate_dst (N := 32) rfl ?_); refine Kd.R_lit Kd.string (w0 := w30) w.heap.size 9 ?hg (N := 32) ?hd (xs := ([(⟨#[88]⟩ : ByteArray)] : List ByteArray)) (inner := [.string (⟨#[88]⟩ : ByteArray)]) (ok := fun _ => True) (okp := fun _ => False) ?hr ?hp (fun _ hk => hk.elim) trivial (Below.refl _ _) (keep_size HF30.out.1.2) (by simp) ?_; (case hd => rfl); (case hg => rfl); (case hr => first | (go_simp; done) | (go_simp; rfl)); (case hp => exact (Reps.one (show Kd.M Kd.string _ _ _ (⟨#[88]⟩ : ByteArray) [.string (⟨#[88]⟩ : ByteArray)] from rfl) (Reps.none _ _))); intro v32 w32 ho hb hg hnew; obtain ⟨A32, c32, e32⟩ := Kd.R_slice ho; subst e32; have hbn := Y.below_none hg; have HF32 := Aside0.mk (Y.FS.below HF30.out hbn); have HR32 := Aside0.mk ho; have HR29b := Aside0.mk (Kd.R_below HR29a.out hbn); have HR30b := Aside0.mk (Kd.R_below HR30.out hbn); clear ho hb hg hnew hbn HF30 HR29a HR30) | ((with_reducible refine gate_dst (N := 34) rfl ?_); refine Kd.R_lit k117 (w0 := w32) w.heap.size 117 ?hg (N := 34) ?hd (xs := ([(⟨(⟨#[99, 108, 97, 115, 115]⟩ : ByteArray), [(⟨#[85, 110, 105, 116]⟩ : ByteArray)]⟩ : S117), (⟨(⟨#[111, 117]⟩ : ByteArray), [(⟨#[88]⟩ : ByteArray)]⟩ : S117)] : List S117)) (inner := [.string (⟨#[99, 108, 97, 115, 115]⟩ : ByteArray), .slice A30 1 c30, .string (⟨#[111, 117]⟩ : ByteArray), .slice A32 1 c32]) (ok := fun _ => True) (okp := fun _ => True) ?hr ?hp (fun _ hk => hk) trivial (Below.refl _ _) (keep_size HF32.out.1.2) (by simp) ?_; (case hd => rfl); (case hg => rfl); (case hr => first | (go_simp; done) | (go_simp; rfl)); (case hp => exact (Reps.c2 (k117_mkM w32 _ _ (⟨(⟨#[99, 108, 97, 115, 115]⟩ : ByteArray), [(⟨#[85, 110, 105, 116]⟩ : ByteArray)]⟩ : S117) HR30b.out) (Reps.c2 (k117_mkM w32 _ _ (⟨(⟨#[111, 117]⟩ : ByteArray), [(⟨#[88]⟩ : ByteArray)]⟩ : S117) HR32.out) (Reps.none _ _)))); intro v34 w34 ho hb hg hnew; obtain ⟨A34, c34, e34⟩ := Kd.R_slice ho; subst e34; have hbn := Y.below_none hg; have HF34 := Aside0.mk (Y.FS.below HF32.out hbn); have HR34 := Aside0.mk ho; have HR29c := Aside0.mk (Kd.R_below HR29b.out hbn); obtain ⟨c30, c31, f30, f31⟩ := Y.FS.cells HF34.out; clear ho hb hg hnew hbn HF32 HR30b HR32 HR29b))
   go_meet
   case rel => exact ⟨_, _, ⟨Y.FS.store HF34.out (show Y.EO w w34 3 (.slice A29 1 c29) (.slice A34 2 c34) from ⟨⟨_, HR29c.out, by simp⟩, _, HR34.out, by simp, by intro x hx; simp only [List.mem_cons, List.not_mem_nil, or_false] at hx; rcases hx with rfl | rfl <;> exact ⟨by simp, by intro s hs; simp only [List.mem_cons, List.not_mem_nil, or_false] at hs; subst hs; decide⟩⟩)⟩⟩
 case rest =>
  obtain ⟨v0, v1, HS⟩ := hcut
  clear HS1
  go_wp2_with (go_at_call 51; refine (Y.DS.n HS.out.1.1.1 3 (by decide)).mono ?_; rintro e w10 ⟨q0, rfl, n0, n1, hs, hk⟩; have HNq0 := Aside0.mk (And.intro n0 (n1 (by decide))); have HS1 := Aside0.mk (And.intro (Y.FS.keep HS.out.1 hs hk) (Y.EO.keep HS.out.2 HS.out.1.1.1 hk)); clear hs hk n0 n1 HS)
  go_loopg [5] 3 (fun kq v5 w' => ∃ (q : Int) (m : Nat) (v0 v1 : Value), v5 = .int .i64 q ∧ Aside0 (0 ≤ q ∧ q ≤ 2 ∧ q.toNat ≤ kq ∧ m + q.toNat ≤ 5) ∧ Aside0 (Y.FS w0 w w' g b2 b3 v0 v1 ∧ Y.EO w w' m v0 v1))
  case atStart => exact ⟨q0, 3, v0, v1, rfl, ⟨by have := HNq0.out; omega⟩, HS1⟩
  case round =>
   clear HS1 HNq0
   obtain ⟨q, m, v0, v1, rfl, HI, HS⟩ := hrel
   cases hcb : decide (0 < q)
   case true =>
    have HQ := Aside0.mk (of_decide_eq_true hcb)
    obtain ⟨gk, rfl⟩ : ∃ z, gk = z + 1 := ⟨gk - 1, by have := HI.out; have := HQ.out; omega⟩
    have HW := Aside0.mk (show wrap64 (q - 1) = q - 1 from by have := HI.out; have := HQ.out; unfold wrap64; omega)
    go_upto_region 8 with fail
    clear hcb
    go_cut [6] (fun v6 wc => ∃ (b5 : Nat) (u0 u1 : Value) (code : Int), v6 = .pointer (some ⟨b5, 0, none⟩) ∧ Aside0 (wc.heap[b5]? = some (.cells #[u0, u1, .int .i64 code] 119 (0, 0)) ∧ b5 ≠ b2 ∧ b5 ≠ b3 ∧ b5 ≠ g ∧ w.heap.size ≤ b5) ∧ Aside0 (Y.EO w wc (m + 1) u0 u1) ∧ Aside0 (Y.FS w0 w wc g b2 b3 v0 v1 ∧ Y.EO w wc m v0 v1))
    case first =>
     refine Y.three_rule (by kernel_rfl) (fun j => j == 1 || j == 4) [8] (fun W W' => Y.DS w0 W g ∧ KeepBut W W' g none) (fun W => Y.FS w0 w W g b2 b3 v0 v1 ∧ Y.EO w W m v0 v1)
      (fun j v W => match j with
       | 0 => v = .agg #[v0, v1]
       | 2 => Y.FT g [(⟨#[109, 97, 105, 108]⟩ : ByteArray), (⟨#[112, 104, 111, 110, 101]⟩ : ByteArray), (⟨#[99, 110]⟩ : ByteArray)] v W
       | 3 => ∃ t : ByteArray, v = .string t ∧ t.size ≤ 8000
       | 5 => ∃ t : ByteArray, v = .string t ∧ t.size ≤ 8000
       | 6 => ∃ (u0 u1 : Value) (code : Int), v = .agg #[u0, u1, .int .i64 code] ∧ Y.EO w W (m + 1) u0 u1
       | 7 => ∃ b5 : Nat, v = .pointer (some ⟨b5, 0, none⟩) ∧ W.heap[b5]? = some (.cells #[.slice none 0 0, .slice none 0 0, .int .i64 0] 119 (0, 0)) ∧ b5 ≠ b2 ∧ b5 ≠ b3 ∧ b5 ≠ g ∧ w.heap.size ≤ b5
       | _ => True)
      (fun j v => v = .pointer (some ⟨g, 0, none⟩))
      (fun q val W => (Y.FS w0 w W g b2 b3 v0 v1 ∧ Y.EO w W m v0 v1) ∧ match q with
       | 0 => (∃ (u0 u1 : Value) (code : Int), val 6 = .agg #[u0, u1, .int .i64 code] ∧ Y.EO w W (m + 1) u0 u1) ∧ ∃ b5 : Nat, val 7 = .pointer (some ⟨b5, 0, none⟩) ∧ W.heap[b5]? = some (.cells #[.slice none 0 0, .slice none 0 0, .int .i64 0] 119 (0, 0)) ∧ b5 ≠ b2 ∧ b5 ≠ b3 ∧ b5 ≠ g ∧ w.heap.size ≤ b5
       | _ => ∃ (b5 : Nat) (u0 u1 : Value) (code : Int), val 7 = .pointer (some ⟨b5, 0, none⟩) ∧ (W.heap[b5]? = some (.cells #[u0, u1, .int .i64 code] 119 (0, 0)) ∧ b5 ≠ b2 ∧ b5 ≠ b3 ∧ b5 ≠ g ∧ w.heap.size ≤ b5) ∧ Y.EO w W (m + 1) u0 u1)
      (by kernel_rfl) (by kernel_rfl) ?hF ?h0 ?hpure ?hstep ?hmid ?htail ?hfin
     case hF =>
      rintro j v W W' hj ⟨hs, hk⟩
      rcases j with _ | _ | _ | _ | _ | _ | _ | _ | j
      ·exact hj
      ·trivial
      ·exact Y.FT.keep hj hk
      ·exact hj
      ·trivial
      ·exact hj
      ·obtain ⟨u0, u1, code, e, h⟩ := hj
       exact ⟨u0, u1, code, e, Y.EO.keep h hs hk⟩
      ·obtain ⟨b5, e, h1, h2, h3, h4, h5⟩ := hj
       exact ⟨b5, e, hk.blk h1 h4 (by simp), h2, h3, h4, h5⟩
      ·trivial
     case h0 => exact ⟨Y.FS.drew HS.out.1, Y.EO.below HS.out.2 (below_drew (Below.refl _ _))⟩
     case hpure =>
      intro p val W a i oi hpl hi hG hdep hA K hK
      have hi1 : i = 1 ∨ i = 4 := by simpa [or_assoc] using hpl
      rcases hi1 with rfl | rfl
      ·obtain rfl := Option.some.inj hi
       have e0 : a.tmps[0]?.getD undef = .pointer (some ⟨g, 0, none⟩) := Y.AI_oldT hA 0 (by kernel_rfl)
       have hK' := hK _ rfl
       refine Y.stp rfl ?_
       go_simp
       exact hK'
      ·obtain rfl := Option.some.inj hi
       have e0 : a.tmps[0]?.getD undef = .pointer (some ⟨g, 0, none⟩) := Y.AI_oldT hA 0 (by kernel_rfl)
       have hK' := hK _ rfl
       refine Y.stp rfl ?_
       go_simp
       exact hK'
     case hstep =>
      intro p val W a i oi hpl hit hi hR hG hFF hdep hA K hK
      rcases i with _ | _ | _ | _ | _ | _ | _ | _ | _ | i
      ·obtain rfl := Option.some.inj hi
       have e3 : a.tmps[4]?.getD undef = .pointer (some ⟨b3, 0, none⟩) := Y.AI_oldT hA 4 (by kernel_rfl)
       obtain ⟨cc0, cc1, _, _⟩ := Y.FS.cells hR.1
       have hK' := hK (.agg #[v0, v1]) W ⟨hR.1.1.1, KeepBut.refl _ _ _⟩ hR rfl
       refine Y.stp rfl ?_
       go_simp
       exact hK'
      ·exact absurd hpl (by decide)
      ·obtain rfl := Option.some.inj hi
       have hb := below_alloc (Below.refl W.heap.size W) (.cells ([(⟨#[109, 97, 105, 108]⟩ : ByteArray), (⟨#[112, 104, 111, 110, 101]⟩ : ByteArray), (⟨#[99, 110]⟩ : ByteArray)].map Value.string).toArray 9)
       have hK' := hK _ _ ⟨hR.1.1.1, KeepBut.of_below hb g none⟩ ⟨Y.FS.below hR.1 hb, Y.EO.below hR.2 hb⟩ (Y.FT.new (Y.DS.lt hR.1.1.1) [(⟨#[109, 97, 105, 108]⟩ : ByteArray), (⟨#[112, 104, 111, 110, 101]⟩ : ByteArray), (⟨#[99, 110]⟩ : ByteArray)] (by decide))
       refine Y.stp rfl ?_
       go_simp
       exact hK'
      ·obtain rfl := Option.some.inj hi
       have p1 : p 1 = true := hdep ⟨1, .data⟩ (by simp) rfl
       have p2 : p 2 = true := hdep ⟨2, .data⟩ (by simp) rfl
       have hft := hFF 2 rfl (by decide) p2
       have x1 : a.tmps[43]?.getD undef = .pointer (some ⟨g, 0, none⟩) := (Y.AI_newT (n := 69) (by kernel_rfl) hA 1 43 rfl rfl p1).trans (hG 1 rfl p1)
       have x2 := Y.AI_newT (n := 69) (by kernel_rfl) hA 2 44 rfl rfl p2
       refine call_ 53 #[.pointer (some ⟨g, 0, none⟩), val 2] rfl rfl ?hrun ((Y.DS.pickC hR.1.1.1 hft (by decide) (by decide)).mono ?hpost)
       case hrun => go_simp
       case hpost =>
        rintro e w2 ⟨t, rfl, ht, hs, hk⟩
        exact ⟨_, rfl, hK _ w2 ⟨hR.1.1.1, hk⟩ ⟨Y.FS.keep hR.1 hs hk, Y.EO.keep hR.2 hR.1.1.1 hk⟩ ⟨t, rfl, by simp only [List.mem_cons, List.not_mem_nil, or_false] at ht; rcases ht with rfl | rfl | rfl <;> decide⟩⟩
      ·exact absurd hpl (by decide)
      ·obtain rfl := Option.some.inj hi
       have p4 : p 4 = true := hdep ⟨4, .data⟩ (by simp) rfl
       have x4 : a.tmps[46]?.getD undef = .pointer (some ⟨g, 0, none⟩) := (Y.AI_newT (n := 69) (by kernel_rfl) hA 4 46 rfl rfl p4).trans (hG 4 rfl p4)
       refine call_ 92 #[.pointer (some ⟨g, 0, none⟩)] rfl rfl ?hrun ((Y.DS.value hR.1.1.1).mono ?hpost)
       case hrun => go_simp
       case hpost =>
        rintro e w2 ⟨t, rfl, ht, hs, hk⟩
        exact ⟨_, rfl, hK _ w2 ⟨hR.1.1.1, hk⟩ ⟨Y.FS.keep hR.1 hs hk, Y.EO.keep hR.2 hR.1.1.1 hk⟩ ⟨t, rfl, ht⟩⟩
      ·obtain rfl := Option.some.inj hi
       have p0 : p 0 = true := hdep ⟨0, .data⟩ (by simp) rfl
       have p3 : p 3 = true := hdep ⟨3, .data⟩ (by simp) rfl
       have p5 : p 5 = true := hdep ⟨5, .data⟩ (by simp) rfl
       obtain ⟨t2, e2, ht2⟩ := hFF 3 rfl (by decide) p3
       obtain ⟨t4, e4, ht4⟩ := hFF 5 rfl (by decide) p5
       obtain ⟨⟨dn, h1, h2⟩, at2, h3, h4, h5⟩ := hR.2
       have x0 : a.tmps[42]?.getD undef = .agg #[v0, v1] := (Y.AI_newT (n := 69) (by kernel_rfl) hA 0 42 rfl rfl p0).trans (hFF 0 rfl (by decide) p0)
       have x2 : a.tmps[45]?.getD undef = .string t2 := (Y.AI_newT (n := 69) (by kernel_rfl) hA 3 45 rfl rfl p3).trans (e2)
       have x4 : a.tmps[47]?.getD undef = .string t4 := (Y.AI_newT (n := 69) (by kernel_rfl) hA 5 47 rfl rfl p5).trans (e4)
       obtain ⟨A0, c0, y0⟩ := Kd.R_slice h1
       obtain ⟨A1, c1, y1⟩ := Kd.R_slice h3
       rw [y0, y1] at x0
       have q0 := h1
       have q1 := h3
       rw [y0] at q0
       rw [y1] at q1
       have hsz : w.heap.size ≤ W.heap.size := keep_size hR.1.1.2
       refine call_ 91 #[.agg #[.slice A0 dn.length c0, .slice A1 at2.length c1], .string t2, .string t4] rfl rfl ?hrun ((Y.vadd HTT.out A0 c0 dn A1 c1 at2 t2 t4 W (Kd.R_reads' q0).2.2 (Kd.R_reads' q0).2.1 (Kd.R_reads' q1).2.2 (Kd.R_reads' q1).2.1 h2 (by have := HI.out; omega) h5 ht2 ht4).mono ?hpost)
       case hrun => go_simp
       case hpost =>
        rintro e w2 ⟨u0, u1, code, rfl, hE, hb⟩
        exact ⟨_, rfl, hK _ w2 ⟨hR.1.1.1, KeepBut.of_below hb g none⟩ ⟨Y.FS.below hR.1 hb, Y.EO.below hR.2 hb⟩ ⟨u0, u1, code, rfl, Y.EO.le (Y.EO.lower hE hsz) (by omega)⟩⟩
      ·obtain rfl := Option.some.inj hi
       have hb := below_alloc (Below.refl W.heap.size W) (.cells #[.slice none 0 0, .slice none 0 0, .int .i64 0] 119 (0, 0))
       have hsz : w.heap.size ≤ W.heap.size := keep_size hR.1.1.2
       have hK' := hK (.pointer (some ⟨W.heap.size, 0, none⟩)) _ ⟨hR.1.1.1, KeepBut.of_below hb g none⟩ ⟨Y.FS.below hR.1 hb, Y.EO.below hR.2 hb⟩ ⟨W.heap.size, rfl, blk_new W _, by have := blk_lt hR.1.2.1.1; omega, by have := blk_lt hR.1.2.1.2; omega, by have := hR.1.2.2; omega, hsz⟩
       refine Y.stp rfl ?_
       go_simp
       exact hK'
      ·exact absurd (by decide) hit
      ·exact absurd hi (by simp)
     case hmid =>
      intro val W hR hFF
      exact ⟨hR, hFF 6 (by decide) rfl (by decide), hFF 7 (by decide) rfl (by decide)⟩
     case htail =>
      intro p val W a q i oi hq hi hT hG hal htl hdep hA K hK
      rcases q with _ | q
      ·have hi7 := (Option.some.inj hq).symm
       subst hi7
       obtain rfl := Option.some.inj hi
       obtain ⟨hR, ⟨u0, u1, code, e5, hE⟩, b5, e6, hb, n2, n3, ng, hb5⟩ := hT
       have x5 : a.tmps[6]?.getD undef = .pointer (some ⟨b5, 0, none⟩) := (Y.AI_newT (n := 69) (by kernel_rfl) hA 7 6 rfl rfl (hal 7 (by decide) rfl (by decide))).trans e6
       have x25 : a.tmps[48]?.getD undef = .agg #[u0, u1, .int .i64 code] := (Y.AI_newT (n := 69) (by kernel_rfl) hA 6 48 rfl rfl (hal 6 (by decide) rfl (by decide))).trans e5
       obtain ⟨⟨dn, h1, h2⟩, at2, h3, h4, h5⟩ := hE
       obtain ⟨A0, c0, y0⟩ := Kd.R_slice h1
       obtain ⟨A1, c1, y1⟩ := Kd.R_slice h3
       have hE : Y.EO w W (m + 1) u0 u1 := ⟨⟨dn, h1, h2⟩, at2, h3, h4, h5⟩
       subst y0 y1
       have k0 : W.cell? ⟨b5, 0, none⟩ = some (.slice none 0 0) := (blk_cell hb 0).trans rfl
       have k1 : W.cell? ⟨b5, 1, none⟩ = some (.slice none 0 0) := (blk_cell hb 1).trans rfl
       have k2 : W.cell? ⟨b5, 2, none⟩ = some (.int .i64 0) := (blk_cell hb 2).trans rfl
       have f0 := blk_frozen hb 0
       have f1 := blk_frozen hb 1
       have f2 := blk_frozen hb 2
       have d1 := blk_put hb 0 (.slice A0 dn.length c0) rfl
       have d2 := blk_put d1 1 (.slice A1 at2.length c1) rfl
       have d3 := blk_put d2 2 (.int .i64 code) rfl
       have eo : ∀ {mm : Nat} {x0 x1 : Value}, Y.EO w W mm x0 x1 → Y.EO w (((W.setCell ⟨b5, 0, none⟩ (.slice A0 dn.length c0)).setCell ⟨b5, 1, none⟩ (.slice A1 at2.length c1)).setCell ⟨b5, 2, none⟩ (.int .i64 code)) mm x0 x1 := fun x => Y.EO.set (Y.EO.set (Y.EO.set x hb 0 _) d1 1 _) d2 2 _
       have hK' := hK undef _ ⟨⟨Y.FS.other (Y.FS.other (Y.FS.other hR.1 hb5 (Ne.symm n2) (Ne.symm n3) _) hb5 (Ne.symm n2) (Ne.symm n3) _) hb5 (Ne.symm n2) (Ne.symm n3) _, eo hR.2⟩, b5, _, _, code, e6, ⟨d3, n2, n3, ng, hb5⟩, eo hE⟩
       refine Y.stp rfl ?_
       go_simp
       exact hK'
      ·exact absurd hq (by simp)
     case hfin =>
      intro p val W a hT hG hall hA
      obtain ⟨hR, b5, u0, u1, code, e6, h5, hE⟩ := hT
      have x5 : a.tmps[6]?.getD undef = .pointer (some ⟨b5, 0, none⟩) := (Y.AI_newT (n := 69) (by kernel_rfl) hA 7 6 rfl rfl (hall 7 (by decide))).trans e6
      go_wp2
      refine Met.intro ?_
      go_step
      (repeat apply Exists.intro)
      refine ⟨?rel, Y.AI_frame hA⟩
      case rel => exact ⟨b5, u0, u1, code, (Y.AI_at 6 (by kernel_rfl)).trans x5, ⟨h5⟩, ⟨hE⟩, ⟨hR⟩⟩
    case rest =>
     obtain ⟨b5, u0, u1, code, rfl, HY, HE, HS1⟩ := hcut
     clear HS
     obtain ⟨⟨dn, h1, h2⟩, at2, h3, h4⟩ := HE.out
     obtain ⟨A5, c5, rfl⟩ := Kd.R_slice h1
     obtain ⟨A6, c6, rfl⟩ := Kd.R_slice h3
     obtain ⟨⟨dn0, h1, h2⟩, at0, h3, h4⟩ := HS1.out.2
     obtain ⟨A0, c0, rfl⟩ := Kd.R_slice h1
     obtain ⟨A1, c1, rfl⟩ := Kd.R_slice h3
     clear h1 h2 h3 h4
     generalize dn0.length = n0 at HS1
     have k2 : wc.cell? ⟨b5, 2, none⟩ = some (.int .i64 code) := (blk_cell HY.out.1 2).trans rfl
     obtain ⟨c30, c31, f30, f31⟩ := Y.FS.cells HS1.out.1
     go_upto_region 9 with fail
     go_cut [61] (fun v61 wd => ∃ b : Bool, v61 = .bool b ∧ Aside0 (wd.heap[b5]? = some (.cells #[.slice A5 dn.length c5, .slice A6 at2.length c6, .int .i64 code] 119 (0, 0))) ∧ Aside0 (Y.EO w wd (m + 1) (.slice A5 dn.length c5) (.slice A6 at2.length c6)) ∧ Aside0 (Y.FS w0 w wd g b2 b3 (.slice A0 n0 c0) (.slice A1 at0.length c1) ∧ Y.EO w wd m (.slice A0 n0 c0) (.slice A1 at0.length c1)))
     case first =>
      by_cases hc : code = 0
      case neg =>
       have cb : (code == 0) = false := beq_eq_false_iff_ne.2 hc
       clear hc
       go_wp2
       go_meet
       case rel => exact ⟨_, rfl, ⟨HY.out.1⟩, HE, HS1⟩
      have cb : (code == 0) = true := beq_iff_eq.mpr hc
      clear hc
      by_cases hn : n0 = 2
      case pos =>
       subst hn
       go_wp2
       go_meet
       case rel => exact ⟨_, rfl, ⟨HY.out.1⟩, HE, HS1⟩
      have nb : ((n0 : Int) == 2) = false := beq_eq_false_iff_ne.2 (by omega)
      have nb2 : (n0 == 2) = false := beq_eq_false_iff_ne.2 hn
      clear hn
      go_wp2_with (go_at_call 87; refine (Y.DS.one HS1.out.1.1.1 4 (by decide)).mono ?_; rintro e w11 ⟨r2, rfl, hs, hk⟩; have HY2 := Aside0.mk (hk.blk HY.out.1 HY.out.2.2.2.1 (by simp)); have HE2 := Aside0.mk (Y.EO.keep HE.out HS1.out.1.1.1 hk); have HS2 := Aside0.mk (And.intro (Y.FS.keep HS1.out.1 hs hk) (Y.EO.keep HS1.out.2 HS1.out.1.1.1 hk)); clear hs hk HS1 HE k2 c30 c31 f30 f31)
      go_meet
      case rel => exact ⟨_, rfl, HY2, HE2, HS2⟩
     case rest =>
      obtain ⟨b, rfl, HY2, HE2, HS2⟩ := hcut
      clear HY HE HS1 k2 c30 c31 f30 f31
      cases b
      case true =>
       have k0 : wc.cell? ⟨b5, 0, none⟩ = some (.slice A5 dn.length c5) := (blk_cell HY2.out 0).trans rfl
       have k1 : wc.cell? ⟨b5, 1, none⟩ = some (.slice A6 at2.length c6) := (blk_cell HY2.out 1).trans rfl
       obtain ⟨c30, c31, f30, f31⟩ := Y.FS.cells HS2.out.1
       go_wp2
       go_roundg gk
       case measure => omega
       case rel => exact ⟨q - 1, m + 1, _, _, by rw [HW.out], ⟨by have := HI.out; have := HQ.out; omega⟩, ⟨Y.FS.store HS2.out.1 HE2.out⟩⟩
      case false =>
       go_wp2
       go_roundg gk
       case measure => omega
       case rel => exact ⟨q - 1, m, _, _, by rw [HW.out], ⟨by have := HI.out; have := HQ.out; omega⟩, HS2⟩
   case false =>
    go_upto_if 65 with (go_at_call 87; refine (Y.DS.one HS.out.1.1.1 12 (by decide)).mono ?_; rintro e w12 ⟨r3, rfl, hs, hk⟩; have HS1 := Aside0.mk (And.intro (Y.FS.keep HS.out.1 hs hk) (Y.EO.keep HS.out.2 HS.out.1.1.1 hk)); clear hs hk HS)
    clear hcb
    cases r3 with
    | true =>
     go_wp2_with (go_at_call 93; refine (Y.entry3 HTT.out g w0 w12 HS1.out.1.1.1).mono ?_; rintro e w13 ⟨u0, u1, rfl, hE, hs, hk⟩; have HE := Aside0.mk (Y.EO.lower hE (keep_size HS1.out.1.1.2)); have HF := Aside0.mk (Y.FS.keep HS1.out.1 hs hk); clear hE hs hk HS1; obtain ⟨⟨dn, h1, h2⟩, at2, h3, h4⟩ := HE.out; obtain ⟨A5, c5, rfl⟩ := Kd.R_slice h1; obtain ⟨A6, c6, rfl⟩ := Kd.R_slice h3; clear h1 h2 h3 h4; obtain ⟨c20, c21, f20, f21⟩ := Y.FS.cells2 HF.out)
     obtain ⟨z1, z2, z3, z4⟩ := Y.FS.ret HF.out HE.out
     refine bodyPost_ret (results_cell_row rfl _ _ b2 51 #[.slice A5 dn.length c5, .slice A6 at2.length c6] (0, 0) _ rfl z1 Tryz.underlying51 rfl (by kernel_rfl)) rfl ?_
     exact ⟨_, _, rfl, z2, z3, z4⟩
    | false =>
     obtain ⟨⟨dn, h1, h2⟩, at2, h3, h4⟩ := HS1.out.2
     obtain ⟨A5, c5, rfl⟩ := Kd.R_slice h1
     obtain ⟨A6, c6, rfl⟩ := Kd.R_slice h3
     clear h1 h2 h3 h4
     obtain ⟨c30, c31, f30, f31⟩ := Y.FS.cells HS1.out.1
     obtain ⟨c20, c21, f20, f21⟩ := Y.FS.cells2 HS1.out.1
     go_wp2
     obtain ⟨z1, z2, z3, z4⟩ := Y.FS.ret HS1.out.1 HS1.out.2
     refine bodyPost_ret (results_cell_row rfl _ _ b2 51 #[.slice A5 dn.length c5, .slice A6 at2.length c6] (0, 0) _ rfl z1 Tryz.underlying51 rfl (by kernel_rfl)) rfl ?_
     exact ⟨_, _, rfl, Y.EO.le z2 (by have := HI.out; omega), z3, z4⟩
theorem Y.results_t5 {fn : Func} {t u v x y : Tmp} (h : fn.results = #[.tmp t, .tmp u, .tmp v, .tmp x, .tmp y]) (tmps : Array Value) (P : Program) (w : World) :
  (results fn tmps).run P w = .ok (.tuple #[tmps.getD t undef, tmps.getD u undef, tmps.getD v undef, tmps.getD x undef, tmps.getD y undef]) w := by
 simp [results, h]
theorem Y.results_ttct {P : Program} {fn : Func} {t u p v : Tmp} {ty : TypeId} (h : fn.results = #[.tmp t, .tmp u, .cell p ty, .tmp v]) (tmps : Array Value) (w : World) (g : Nat) (tt : TypeId) (cs : Array Value) (fr : Nat × Nat) (d : TypeDesc)
  (hp : tmps.getD p undef = .pointer (some ⟨g, 0, none⟩)) (hg : w.heap[g]? = some (.cells cs tt fr))
  (hu : P.underlying ty = some d) (hd : (match d with | .struct _ | .array _ _ => true | _ => false) = true) (hi : (P.info? ty).map (·.size) = some cs.size) :
  (results fn tmps).run P w = .ok (.tuple #[tmps.getD t undef, tmps.getD u undef, .agg cs, tmps.getD v undef]) w := by
 have hp' : tmps[p]?.getD undef = .pointer (some ⟨g, 0, none⟩) := by simpa using hp
 simp [results, h, hp', asAddr, run_loadVar_row w g tt ty cs fr d hg hu hd hi]
theorem Y.draw26 (HT : Y.TOT2) (k : Nat) (hk : 65 ≤ k) (A : Option Addr) (c : Nat) (l : List Int) (w : World) (hr : Kd.C (Kd.int .u8) w A l.length l) (hc : l.length ≤ c) (hl : l.length ≤ 140737488351232) (hx : ∀ x ∈ l, 0 ≤ x ∧ x ≤ 255) :
  Calls Tryz.prog 26 #[.slice A l.length c] w fun e w' => ∃ (A1 : Option Addr) (c1 : Nat) (lr : List S57) (who : ByteArray) (A2 : Option Addr) (c2 : Nat) (dn : List S96) (attr : ByteArray) (right : Int), e = .returned (.tuple #[.slice A1 lr.length c1, .string who, .slice A2 dn.length c2, .string attr, .int .i64 right]) ∧
   (Kd.C k57 w' A1 lr.length lr ∧ lr.length ≤ c1 ∧ Y.RU lr) ∧ (Kd.C k96 w' A2 dn.length dn ∧ dn.length ≤ c2 ∧ dn.length ≤ 1000) ∧ (who.size ≤ 8000 ∧ attr.size ≤ 8000 ∧ 0 ≤ right ∧ right < 6) ∧ Below w.heap.size w w' := by
 have HR := Aside0.mk hr
 have HC := Aside0.mk hc
 have HB := Aside0.mk (Below.refl w.heap.size w)
 have HTT := Aside0.mk HT
 have hfl51_0 : ∀ (x0 x1 : Value) (W : World), (Instr.field 51 (.agg #[x0, x1]) 0).run Tryz.prog W = .ok x0 W := fun _ _ _ => by kernel_rfl
 obtain ⟨m0, z0, es, hs⟩ := Y.draw_source l hl hx k hk
 have HSRC := Aside0.mk es
 have HOK := Aside0.mk hs
 clear hr hc es hs HT
 go_enter Tryz.func26, Tryz.ntmps26
 go_wp2_with (first | (go_at_call 47; refine (Qt.calls k A c l l 0 m0 z0 w _ HB.out HR.out HC.out HSRC.out).mono ?_; rintro e w1 ⟨g, rfl, hi, hb, hb2⟩; have HD1 := Aside0.mk (show Y.DS w w1 g from ⟨⟨_, _, _, _, HOK.out, hi⟩, hb⟩); clear hi hb hb2) | (go_at_call 56; refine (Y.acl_ g w _ HD1.out).mono ?_; rintro e w2 ⟨v, lr, rfl, hR, hru, hs, hk⟩; obtain ⟨A1, c1, rfl⟩ := Kd.R_slice hR; have HR2 := Aside0.mk (Kd.R_lower hR (below_size HD1.out.2)); have HU := Aside0.mk hru; have HD2 := Aside0.mk hs; clear hR hru hs hk HD1) | (go_at_call 57; refine (Y.DS.who HD2.out).mono ?_; rintro e w3 ⟨who, rfl, hwz, hs, hk⟩; have HW := Aside0.mk hwz; have HR3 := Aside0.mk (Y.RK.keep HR2.out HD2.out (by decide) hk); have HD3 := Aside0.mk hs; clear hwz hs hk HD2 HR2) | (go_at_call 58; refine (Y.entry5 HTT.out g w _ HD3.out).mono ?_; rintro e w4 ⟨v0, v1, rfl, hE, hs, hk⟩; have HE4 := Aside0.mk (Y.EO.lower hE (below_size HD3.out.2)); have HR4 := Aside0.mk (Y.RK.keep HR3.out HD3.out (by decide) hk); have HD4 := Aside0.mk hs; obtain ⟨⟨dn, h1, h2⟩, at2, h3, h4⟩ := HE4.out; obtain ⟨A2, c2, rfl⟩ := Kd.R_slice h1; obtain ⟨A3, c3, rfl⟩ := Kd.R_slice h3; clear h1 h2 h3 h4 hE hs hk HD3 HR3) | (go_at_call 53; refine (Y.DS.pick HD4.out [(⟨#[]⟩ : ByteArray), (⟨#[99, 110]⟩ : ByteArray), (⟨#[109, 97, 105, 108]⟩ : ByteArray), (⟨#[65]⟩ : ByteArray)] (by decide) (by decide)).mono ?_; rintro e w5 ⟨attr, rfl, ht, hs, hk⟩; have HAT := Aside0.mk (show attr.size ≤ 8000 from by simp only [List.mem_cons, List.not_mem_nil, or_false] at ht; rcases ht with rfl | rfl | rfl | rfl <;> decide); have HE5 := Aside0.mk (Y.EO.keep HE4.out HD4.out hk); have HR5 := Aside0.mk (Y.RK.keep HR4.out HD4.out (by decide) hk); have HD5 := Aside0.mk hs; clear ht hs hk HE4 HR4 HD4) | (go_at_call 51; refine (Y.DS.n HD5.out 6 (by decide)).mono ?_; rintro e w6 ⟨right, rfl, n0, n1, hs, hk⟩; have HN := Aside0.mk (And.intro n0 (n1 (by decide))); have HE6 := Aside0.mk (Y.EO.keep HE5.out HD5.out hk); have HR6 := Aside0.mk (Y.RK.keep HR5.out HD5.out (by decide) hk); have HD6 := Aside0.mk hs; clear n0 n1 hs hk HE5 HR5 HD5))
 refine bodyPost_ret (Y.results_t5 rfl _ _ _) rfl ?_
 obtain ⟨⟨dn', h1, h2⟩, _⟩ := HE6.out
 obtain ⟨A', c', e'⟩ := Kd.R_slice h1
 injection e' with _ e2 _
 rw [e2] at h1
 exact ⟨A1, c1, lr, who, A2, c2, dn', attr, right, by rw [← e2]; rfl, ⟨(Kd.R_reads' HR6.out).2.2, (Kd.R_reads' HR6.out).2.1, HU.out⟩, ⟨(Kd.R_reads' h1).2.2, (Kd.R_reads' h1).2.1, h2⟩, ⟨HW.out, HAT.out, HN.out⟩, HD6.out.2⟩
def Y.MS (w W : World) (g b4 b9 : Nat) (v0 v1 vl : Value) (lr : List S57) : Prop :=
 (Y.DS w W g ∧ W.heap[b4]? = some (.cells #[.slice none 0 0, .slice none 0 0] 51 (0, 0)) ∧ W.heap[b9]? = some (.cells #[v0, v1] 51 (0, 0))) ∧ (w.heap.size ≤ b4 ∧ w.heap.size ≤ b9 ∧ b4 ≠ b9 ∧ g ≠ b4 ∧ g ≠ b9) ∧ Kd.R k57 57 W w.heap.size (fun _ => True) vl lr ∧ Y.EO w W 30 v0 v1
theorem Y.MS.keep {w W W1 : World} {g b4 b9 : Nat} {v0 v1 vl : Value} {lr : List S57} (h : Y.MS w W g b4 b9 v0 v1 vl lr) (hs : Y.DS w W1 g) (hk : KeepBut W W1 g none) : Y.MS w W1 g b4 b9 v0 v1 vl lr :=
 ⟨⟨hs, hk.blk h.1.2.1 (Ne.symm h.2.1.2.2.2.1) (by simp), hk.blk h.1.2.2 (Ne.symm h.2.1.2.2.2.2) (by simp)⟩, h.2.1, Y.RK.keep h.2.2.1 h.1.1 (by decide) hk, Y.EO.keep h.2.2.2 h.1.1 hk⟩
def Y.NR (w w5 W : World) (g b4 b9 : Nat) (v0 v1 vl : Value) (lr : List S57) (vn : Value) (ns : List ByteArray) : Prop :=
 Y.MS w w5 g b4 b9 v0 v1 vl lr ∧ Y.DS w W g ∧ KeepBut w5 W g none ∧ Kd.R Kd.string 9 W w5.heap.size (fun _ => True) vn ns ∧ g < w5.heap.size ∧ w.heap.size ≤ w5.heap.size
section
variable {w w5 W W1 : World} {g b4 b9 : Nat} {v0 v1 vl vn : Value} {lr : List S57} {ns : List ByteArray}
theorem Y.NR.keep (h : Y.NR w w5 W g b4 b9 v0 v1 vl lr vn ns) (hs : Y.DS w W1 g) (hk : KeepBut W W1 g none) : Y.NR w w5 W1 g b4 b9 v0 v1 vl lr vn ns :=
 ⟨h.1, hs, h.2.2.1.trans hk (.inl rfl), Y.RK.keep h.2.2.2.1 h.2.1 (by decide) hk, h.2.2.2.2⟩
theorem Y.NR.now (h : Y.NR w w5 W g b4 b9 v0 v1 vl lr vn ns) : Y.MS w W g b4 b9 v0 v1 vl lr := Y.MS.keep h.1 h.2.1 h.2.2.1
theorem Y.NR.app (h : Y.NR w w5 W g b4 b9 v0 v1 vl lr vn ns) {v' : Value} {ns' : List ByteArray} (hr : Kd.R Kd.string 9 W1 w5.heap.size (fun _ => True) v' ns') (hB : Below w5.heap.size W W1) (hg : W.grownBy W1 vn.ownBlock) : Y.NR w w5 W1 g b4 b9 v0 v1 vl lr v' ns' := by
 obtain ⟨h1, h2, h3, h4, h5, h6⟩ := h
 refine ⟨h1, ?_, h3.trans (KeepBut.of_grown hg g) ?_, hr, h5, h6⟩
 ·obtain ⟨⟨_, _, _, _, s0, s1⟩, s2⟩ := h2
  exact ⟨⟨_, _, _, _, s0, IsS112.grown s1 hg (IsS112.own_ne s1 h4 (by decide))⟩, Below.trans s2 (Below.mono hB h6)⟩
 ·rcases Kd.R_base2 h4 with e | ⟨k, e, hk⟩
  ·exact .inl e
  ·exact .inr ⟨k, e, hk⟩
end
theorem Y.draw31 (HT : Y.TOT2) (k : Nat) (hk : 65 ≤ k) (A : Option Addr) (c : Nat) (l : List Int) (w : World) (hr : Kd.C (Kd.int .u8) w A l.length l) (hc : l.length ≤ c) (hl : l.length ≤ 140737488351232) (hx : ∀ x ∈ l, 0 ≤ x ∧ x ≤ 255) :
  Calls Tryz.prog 31 #[.slice A l.length c] w fun e w' => ∃ (A1 : Option Addr) (c1 : Nat) (lr : List S57) (who : ByteArray) (A2 : Option Addr) (c2 : Nat) (dn : List S96) (A3 : Option Addr) (c3 : Nat) (at2 : List S117) (A4 : Option Addr) (c4 : Nat) (ns : List ByteArray), e = .returned (.tuple #[.slice A1 lr.length c1, .string who, .agg #[.slice A2 dn.length c2, .slice A3 at2.length c3], .slice A4 ns.length c4]) ∧
   (Kd.C k57 w' A1 lr.length lr ∧ lr.length ≤ c1 ∧ Y.RU lr) ∧ (Kd.C k96 w' A2 dn.length dn ∧ dn.length ≤ c2 ∧ dn.length ≤ 1000) ∧ (Kd.C k117 w' A3 at2.length at2 ∧ at2.length ≤ c3 ∧ at2.length ≤ 30 ∧ ∀ x ∈ at2, Y.AV x) ∧ (Kd.C Kd.string w' A4 ns.length ns ∧ ns.length ≤ c4 ∧ ns.length ≤ 10) ∧ Below w.heap.size w w' := by
 have hu51 := Tryz.underlying51
 have HR := Aside0.mk hr
 have HC := Aside0.mk hc
 have HTT := Aside0.mk HT
 obtain ⟨m0, z0, es, hs⟩ := Y.draw_source l hl hx k hk
 have HSRC := Aside0.mk es
 have HOK := Aside0.mk hs
 clear hr hc es hs HT
 go_enter Tryz.func31, Tryz.ntmps31
 go_upto_region 5 with (first | ((with_reducible refine gate_dst (N := 4) rfl ?_); refine box_event ?hg (N := 4) ?hd (cs := #[.slice none 0 0, .slice none 0 0]) (t := 51) ?hr ?_; (case hd => rfl); (case hg => rfl); (case hr => first | (go_simp; done) | (go_simp; rfl)); intro b4 hg4 w0 hbox4 hb0; have HX0 := Aside0.mk (And.intro hbox4 (show w.heap.size ≤ b4 from by omega)); have HB := Aside0.mk hb0; clear hg4 hbox4 hb0) | (go_at_call 47; refine (Qt.calls k A c l l 0 m0 z0 w _ HB.out HR.out HC.out HSRC.out).mono ?_; rintro e w1 ⟨g, rfl, hi, hb, hb2⟩; have HD1 := Aside0.mk (show Y.DS w w1 g from ⟨⟨_, _, _, _, HOK.out, hi⟩, hb⟩); have HX1 := Aside0.mk (And.intro (blk_below HX0.out.1 hb2) HX0.out.2); have HNE := Aside0.mk (show g ≠ b4 from by rintro rfl; obtain ⟨_, _, hcb, _⟩ := hi; have h9 := blk_below HX0.out.1 hb2; rw [hcb] at h9; injection h9 with h9; injection h9 with _ h9; exact absurd h9 (by decide)); clear HX0; clear hi hb hb2) | (go_at_call 56; refine (Y.acl_ g w _ HD1.out).mono ?_; rintro e w2 ⟨v, lr, rfl, hR, hru, hs, hk⟩; obtain ⟨A1, c1, rfl⟩ := Kd.R_slice hR; have HR2 := Aside0.mk (Kd.R_lower hR (below_size HD1.out.2)); have HU := Aside0.mk hru; have HD2 := Aside0.mk hs; have HX2 := Aside0.mk (And.intro (hk.blk HX1.out.1 (Ne.symm HNE.out) (by simp)) HX1.out.2); clear HX1; clear hR hru hs hk HD1) | (go_at_call 57; refine (Y.DS.who HD2.out).mono ?_; rintro e w3 ⟨who, rfl, hwz, hs, hk⟩; have HW := Aside0.mk hwz; have HR3 := Aside0.mk (Y.RK.keep HR2.out HD2.out (by decide) hk); have HD3 := Aside0.mk hs; have HX3 := Aside0.mk (And.intro (hk.blk HX2.out.1 (Ne.symm HNE.out) (by simp)) HX2.out.2); clear HX2; clear hwz hs hk HD2 HR2) | (go_at_call 58; refine (Y.entry5 HTT.out g w _ HD3.out).mono ?_; rintro e w4 ⟨v0, v1, rfl, hE, hs, hk⟩; have HE4 := Aside0.mk (Y.EO.lower hE (below_size HD3.out.2)); have HR4 := Aside0.mk (Y.RK.keep HR3.out HD3.out (by decide) hk); have HD4 := Aside0.mk hs; obtain ⟨⟨dn, h1, h2⟩, at2, h3, h4⟩ := HE4.out; obtain ⟨A2, c2, rfl⟩ := Kd.R_slice h1; obtain ⟨A3, c3, rfl⟩ := Kd.R_slice h3; have HX4 := Aside0.mk (And.intro (hk.blk HX3.out.1 (Ne.symm HNE.out) (by simp)) HX3.out.2); clear HX3; clear h1 h2 h3 h4 hE hs hk HD3 HR3) | ((with_reducible refine gate_dst (N := 9) rfl ?_); refine box_event ?hg (N := 9) ?hd (cs := #[.slice none 0 0, .slice none 0 0]) (t := 51) ?hr ?_; (case hd => rfl); (case hg => rfl); (case hr => first | (go_simp; done) | (go_simp; rfl)); intro b9 hg9 w5 hbox9 hb5; have HX5 := Aside0.mk (And.intro (blk_below HX4.out.1 hb5) HX4.out.2); have HY5 := Aside0.mk (And.intro hbox9 (show w4.heap.size = b9 from hg9.symm)); have HD5 := Aside0.mk (Y.DS.below HD4.out hb5); have HE5 := Aside0.mk (Y.EO.below HE4.out hb5); have HR5 := Aside0.mk (Kd.R_below HR4.out hb5); have HZ4 := Aside0.mk (And.intro (Y.DS.lt HD4.out) (And.intro (below_size HD4.out.2) (blk_lt HX4.out.1))); have c90 : w5.cell? ⟨b9, 0, none⟩ = some (.slice none 0 0) := (blk_cell hbox9 0).trans rfl; have c91 : w5.cell? ⟨b9, 1, none⟩ = some (.slice none 0 0) := (blk_cell hbox9 1).trans rfl; have f90 := blk_frozen hbox9 0; have f91 := blk_frozen hbox9 1; clear hg9 hbox9 hb5 HX4 HD4 HE4 HR4))
 have HM := Aside0.mk (show Y.MS w ((w5.setCell ⟨b9, 0, none⟩ (.slice A2 dn.length c2)).setCell ⟨b9, 1, none⟩ (.slice A3 at2.length c3)) g b4 b9 (.slice A2 dn.length c2) (.slice A3 at2.length c3) (.slice A1 lr.length c1) lr from by
  have z4 := HZ4.out
  have y5 := HY5.out.2
  have hb9 : w.heap.size ≤ b9 := by omega
  have d1 := blk_put HY5.out.1 0 (.slice A2 dn.length c2) rfl
  exact ⟨⟨Y.DS.far (Y.DS.far HD5.out (by omega) hb9 _) (by omega) hb9 _, blk_far (p := ⟨b9, 1, none⟩) (blk_far (p := ⟨b9, 0, none⟩) HX5.out.1 (show b4 ≠ b9 by omega) _) (show b4 ≠ b9 by omega) _, blk_put d1 1 (.slice A3 at2.length c3) rfl⟩, ⟨HX5.out.2, hb9, by omega, HNE.out, by omega⟩, Kd.R_set (Kd.R_set HR5.out HY5.out.1 (by decide) 0 _) d1 (by decide) 1 _, Y.EO.set51 (Y.EO.set51 HE5.out HY5.out.1 0 _) d1 1 _⟩)
 clear HX5 HY5 HD5 HE5 HR5 HZ4 HNE c90 c91 f90 f91
 generalize (w5.setCell ⟨b9, 0, none⟩ (.slice A2 dn.length c2)).setCell ⟨b9, 1, none⟩ (.slice A3 at2.length c3) = w6 at HM ⊢
 have HE := Aside0.mk HM.out.2.2.2
 obtain ⟨⟨dnx, hh1, hh2⟩, _⟩ := HE.out
 clear hh1 hh2
 generalize (.slice A2 dn.length c2 : Value) = v0 at HM HE
 generalize (.slice A3 at2.length c3 : Value) = v1 at HM HE
 go_upto_region 6 with ((with_reducible refine gate_dst (N := 20) rfl ?_); refine Kd.R_lit Kd.string (w0 := w6) w6.heap.size 9 ?hg (N := 20) ?hd (xs := ([] : List ByteArray)) (inner := []) (ok := fun _ => True) (okp := fun _ => False) ?hr ?hp (fun _ hk => hk.elim) trivial (Below.refl _ _) (Nat.le_refl _) (by simp) ?_; (case hd => rfl); (case hg => rfl); (case hr => first | (go_simp; done) | (go_simp; rfl)); (case hp => exact (Reps.none _ _)); intro v20 w7 ho hb hg hnew; generalize hn0 : ([] : List ByteArray) = ns0 at ho; obtain ⟨A4, c4, e20⟩ := Kd.R_slice ho; subst e20; have HL0 := Aside0.mk (show ns0.length = 0 from by rw [← hn0]; rfl); have hbn := Y.below_none hg; have HNR := Aside0.mk (show Y.NR w w6 w7 g b4 b9 v0 v1 (.slice A1 lr.length c1) lr (.slice A4 ns0.length c4) ns0 from ⟨HM.out, Y.DS.below HM.out.1.1 hbn, KeepBut.of_below hbn g none, ho, Y.DS.lt HM.out.1.1, below_size HM.out.1.1.2⟩); clear ho hb hg hnew hbn hn0)
 go_wp2_with (go_at_call 51; refine (Y.DS.n HNR.out.2.1 3 (by decide)).mono ?_; rintro e w8 ⟨q0, rfl, n0, n1, hs, hk⟩; have HN0 := Aside0.mk (And.intro n0 (n1 (by decide))); have HNR1 := Aside0.mk (Y.NR.keep HNR.out hs hk); clear hs hk n0 n1 HNR)
 go_loopg [10, 11] 4 (fun kq v10 v11 w' => ∃ (q : Int) (ns : List ByteArray) (A4 : Option Addr) (c4 : Nat), v10 = .slice A4 ns.length c4 ∧ v11 = .int .i64 q ∧ Aside0 (0 ≤ q ∧ q ≤ 2 ∧ q.toNat ≤ kq ∧ ns.length + q.toNat ≤ 3) ∧ Aside0 (Y.NR w w6 w' g b4 b9 v0 v1 (.slice A1 lr.length c1) lr (.slice A4 ns.length c4) ns))
 case atStart => exact ⟨q0, ns0, A4, c4, rfl, rfl, ⟨by have := HN0.out; have := HL0.out; omega⟩, HNR1⟩
 case round =>
  clear HNR1 HN0 HL0
  obtain ⟨q, ns, A4, c4, rfl, rfl, HI, HNR⟩ := hrel
  cases hcb : decide (0 < q)
  case true =>
   have HQ := Aside0.mk (of_decide_eq_true hcb)
   obtain ⟨gk, rfl⟩ : ∃ z, gk = z + 1 := ⟨gk - 1, by have := HI.out; have := HQ.out; omega⟩
   have HW2 := Aside0.mk (show wrap64 (q - 1) = q - 1 from by have := HI.out; have := HQ.out; unfold wrap64; omega)
   go_wp2_with (first | (go_at_call 53; refine (Y.DS.pick HNR.out.2.1 [(⟨#[99, 110]⟩ : ByteArray), (⟨#[117, 105, 100]⟩ : ByteArray), (⟨#[109, 97, 105, 108]⟩ : ByteArray), (⟨#[65]⟩ : ByteArray)] (by decide) (by decide)).mono ?_; rintro e w9 ⟨t, rfl, ht, hs, hk⟩; have HNR2 := Aside0.mk (Y.NR.keep HNR.out hs hk); clear ht hs hk HNR) | (at_builtin; refine Kd.R_append Kd.string (w0 := w9) w6.heap.size rfl (.tmp 27) (.tmp 31) 39 9 (.string ⟨#[]⟩) 16 rfl Tryz.underlying39 info9 rfl (by decide) (by omega) (.slice A4 ns.length c4) ns t [.string t] (fun _ => True) (fun _ => False) rfl rfl rfl (fun _ h => h.elim) (fun _ _ => trivial) HNR2.out.2.2.2.1 (Below.refl _ _) (keep_size HNR2.out.2.2.1) (by have := HI.out; omega) ?_; intro vA wA ho hb hg hat; generalize hn2 : ns ++ [t] = ns2 at ho; obtain ⟨A5, c5, e5⟩ := Kd.R_slice ho; subst e5; have HLN := Aside0.mk (show ns2.length = ns.length + 1 from by rw [← hn2]; simp); have HNR3 := Aside0.mk (Y.NR.app HNR2.out ho hb hg); clear ho hb hg hat hn2 HNR2))
   go_roundg gk
   case measure => omega
   case rel => exact ⟨q - 1, ns2, A5, c5, rfl, by rw [HW2.out], ⟨by have := HI.out; have := HQ.out; have := HLN.out; omega⟩, HNR3⟩
  case false =>
   go_upto_region 10 with fail
   clear hcb
   refine Y.three_rule (by kernel_rfl) (fun j => j == 0 || j == 1 || j == 3 || j == 4 || j == 5 || j == 7) [6] (fun _ _ => True) (fun W => Y.NR w w6 W g b4 b9 v0 v1 (.slice A1 lr.length c1) lr (.slice A4 ns.length c4) ns)
    (fun j v W => match j with
     | 2 => v = .agg #[v0, v1]
     | _ => True)
    (fun j v => match j with
     | 0 | 4 => v = .slice A1 lr.length c1
     | 1 | 5 => v = .string who
     | 3 | 7 => v = .slice A4 ns.length c4
     | _ => True)
    (fun q val W => match q with
     | 0 => (Y.NR w w6 W g b4 b9 v0 v1 (.slice A1 lr.length c1) lr (.slice A4 ns.length c4) ns) ∧ val 2 = .agg #[v0, v1]
     | _ => ∃ W0 : World, (Y.NR w w6 W0 g b4 b9 v0 v1 (.slice A1 lr.length c1) lr (.slice A4 ns.length c4) ns) ∧ W = (W0.setCell ⟨b4, 0, none⟩ v0).setCell ⟨b4, 1, none⟩ v1)
    (by kernel_rfl) (by kernel_rfl) ?hF ?h0 ?hpure ?hstep ?hmid ?htail ?hfin
   case hF => exact fun j v W W' hj _ => hj
   case h0 => exact Y.NR.keep HNR.out (Y.DS.drew HNR.out.2.1) (KeepBut.refl _ _ _)
   case hpure =>
    intro p val W a i oi hpl hi hG hdep hA K hK
    have hi1 : i = 0 ∨ i = 1 ∨ i = 3 ∨ i = 4 ∨ i = 5 ∨ i = 7 := by simpa [or_assoc] using hpl
    rcases hi1 with rfl | rfl | rfl | rfl | rfl | rfl
    ·obtain rfl := Option.some.inj hi
     have e0 : a.tmps[7]?.getD undef = .slice A1 lr.length c1 := Y.AI_oldT hA 7 (by kernel_rfl)
     have hK' := hK _ rfl
     refine Y.stp rfl ?_
     go_simp
     exact hK'
    ·obtain rfl := Option.some.inj hi
     have e0 : a.tmps[8]?.getD undef = .string who := Y.AI_oldT hA 8 (by kernel_rfl)
     have hK' := hK _ rfl
     refine Y.stp rfl ?_
     go_simp
     exact hK'
    ·obtain rfl := Option.some.inj hi
     have e0 : a.tmps[10]?.getD undef = .slice A4 ns.length c4 := Y.AI_oldT hA 10 (by kernel_rfl)
     have hK' := hK _ rfl
     refine Y.stp rfl ?_
     go_simp
     exact hK'
    ·obtain rfl := Option.some.inj hi
     have p0 : p 0 = true := hdep ⟨0, .data⟩ (by simp) rfl
     have e0 : a.tmps[33]?.getD undef = .slice A1 lr.length c1 := (Y.AI_newT (n := 37) (by kernel_rfl) hA 0 33 rfl rfl p0).trans (hG 0 rfl p0)
     have hK' := hK _ rfl
     refine Y.stp rfl ?_
     go_simp
     exact hK'
    ·obtain rfl := Option.some.inj hi
     have p1 : p 1 = true := hdep ⟨1, .data⟩ (by simp) rfl
     have e0 : a.tmps[34]?.getD undef = .string who := (Y.AI_newT (n := 37) (by kernel_rfl) hA 1 34 rfl rfl p1).trans (hG 1 rfl p1)
     have hK' := hK _ rfl
     refine Y.stp rfl ?_
     go_simp
     exact hK'
    ·obtain rfl := Option.some.inj hi
     have p3 : p 3 = true := hdep ⟨3, .data⟩ (by simp) rfl
     have e0 : a.tmps[36]?.getD undef = .slice A4 ns.length c4 := (Y.AI_newT (n := 37) (by kernel_rfl) hA 3 36 rfl rfl p3).trans (hG 3 rfl p3)
     have hK' := hK _ rfl
     refine Y.stp rfl ?_
     go_simp
     exact hK'
   case hstep =>
    intro p val W a i oi hpl hit hi hR hG hFF hdep hA K hK
    rcases i with _ | _ | _ | _ | _ | _ | _ | _ | i
    ·exact absurd hpl (by decide)
    ·exact absurd hpl (by decide)
    ·obtain rfl := Option.some.inj hi
     have e0 : a.tmps[9]?.getD undef = .pointer (some ⟨b9, 0, none⟩) := Y.AI_oldT hA 9 (by kernel_rfl)
     have hM := Y.NR.now hR
     have cc0 : W.cell? ⟨b9, 0, none⟩ = some v0 := (blk_cell hM.1.2.2 0).trans rfl
     have cc1 : W.cell? ⟨b9, 1, none⟩ = some v1 := (blk_cell hM.1.2.2 1).trans rfl
     have hK' := hK (.agg #[v0, v1]) W trivial hR rfl
     refine Y.stp rfl ?_
     go_simp
     exact hK'
    ·exact absurd hpl (by decide)
    ·exact absurd hpl (by decide)
    ·exact absurd hpl (by decide)
    ·exact absurd (by decide) hit
    ·exact absurd hpl (by decide)
    ·exact absurd hi (by simp)
   case hmid =>
    intro val W hR hFF
    exact ⟨hR, hFF 2 (by decide) rfl (by decide)⟩
   case htail =>
    intro p val W a q i oi hq hi hT hG hal htl hdep hA K hK
    rcases q with _ | q
    ·have hi7 := (Option.some.inj hq).symm
     subst hi7
     obtain rfl := Option.some.inj hi
     obtain ⟨hR, e2⟩ := hT
     have hM := Y.NR.now hR
     obtain ⟨⟨dn, h1, h2⟩, at2, h3, h4, h5⟩ := hM.2.2.2
     obtain ⟨A2, c2, y0⟩ := Kd.R_slice h1
     obtain ⟨A3, c3, y1⟩ := Kd.R_slice h3
     have x4 : a.tmps[4]?.getD undef = .pointer (some ⟨b4, 0, none⟩) := Y.AI_oldT hA 4 (by kernel_rfl)
     have x35 : a.tmps[35]?.getD undef = .agg #[v0, v1] := (Y.AI_newT (n := 37) (by kernel_rfl) hA 2 35 rfl rfl (hal 2 (by decide) rfl (by decide))).trans e2
     have k0 : W.cell? ⟨b4, 0, none⟩ = some (.slice none 0 0) := (blk_cell hM.1.2.1 0).trans rfl
     have k1 : W.cell? ⟨b4, 1, none⟩ = some (.slice none 0 0) := (blk_cell hM.1.2.1 1).trans rfl
     have f0 := blk_frozen hM.1.2.1 0
     have f1 := blk_frozen hM.1.2.1 1
     have hK' := hK undef _ ⟨W, hR, rfl⟩
     rw [y0, y1] at x35 hK'
     refine Y.stp rfl ?_
     go_simp
     exact hK'
    ·exact absurd hq (by simp)
   case hfin =>
    intro p val W a hT hG hall hA
    go_wp2
    obtain ⟨W0, hN, rfl⟩ := hT
    have hM := Y.NR.now hN
    have x4 : a.tmps.getD 4 undef = .pointer (some ⟨b4, 0, none⟩) := (Array.getD_eq_getD_getElem? ..).trans (Y.AI_oldT hA 4 (by kernel_rfl))
    have x2 : a.tmps.getD 2 undef = .slice A1 lr.length c1 := (Array.getD_eq_getD_getElem? ..).trans ((Y.AI_newT (n := 37) (by kernel_rfl) hA 4 2 rfl rfl (hall 4 (by decide))).trans (hG 4 rfl (by decide)))
    have x3 : a.tmps.getD 3 undef = .string who := (Array.getD_eq_getD_getElem? ..).trans ((Y.AI_newT (n := 37) (by kernel_rfl) hA 5 3 rfl rfl (hall 5 (by decide))).trans (hG 5 rfl (by decide)))
    have x5 : a.tmps.getD 5 undef = .slice A4 ns.length c4 := (Array.getD_eq_getD_getElem? ..).trans ((Y.AI_newT (n := 37) (by kernel_rfl) hA 7 5 rfl rfl (hall 7 (by decide))).trans (hG 7 rfl (by decide)))
    have d1 := blk_put hM.1.2.1 0 v0 rfl
    have d2 := blk_put d1 1 v1 rfl
    have hr1 := Kd.R_set (Kd.R_set hM.2.2.1 hM.1.2.1 (by decide) 0 v0) d1 (by decide) 1 v1
    have he1 := Y.EO.set51 (Y.EO.set51 hM.2.2.2 hM.1.2.1 0 v0) d1 1 v1
    have hn1 := Kd.R_set (Kd.R_set hN.2.2.2.1 hM.1.2.1 (by decide) 0 v0) d1 (by decide) 1 v1
    obtain ⟨⟨dn, h1, h2⟩, at2, h3, h4, h5⟩ := he1
    obtain ⟨A2, c2, y0⟩ := Kd.R_slice h1
    obtain ⟨A3, c3, y1⟩ := Kd.R_slice h3
    have g0 : ∀ (X : World) (b : Nat), Kd.R k96 96 X b (fun _ => True) v0 dn → Kd.R k96 96 X b (fun _ => True) (.slice A2 dn.length c2) dn := fun _ _ h => y0 ▸ h
    have g1 : ∀ (X : World) (b : Nat), Kd.R k117 117 X b (fun _ => True) v1 at2 → Kd.R k117 117 X b (fun _ => True) (.slice A3 at2.length c3) at2 := fun _ _ h => y1 ▸ h
    have q0 := g0 _ _ h1
    have q1 := g1 _ _ h3
    refine bodyPost_ret (Y.results_ttct rfl _ _ b4 51 #[v0, v1] (0, 0) _ x4 d2 Tryz.underlying51 rfl (by kernel_rfl)) hA.1 ?_
    refine ⟨A1, c1, lr, who, A2, c2, dn, A3, c3, at2, A4, c4, ns, by rw [x2, x3, x5, ← y0, ← y1], ⟨(Kd.R_reads' hr1).2.2, (Kd.R_reads' hr1).2.1, HU.out⟩, ⟨?_, ?_, h2⟩, ⟨?_, ?_, h4, h5⟩, ⟨(Kd.R_reads' hn1).2.2, (Kd.R_reads' hn1).2.1, by have := HI.out; omega⟩, below_set (below_set hN.2.1.2 hM.2.1.1) hM.2.1.1⟩
    ·exact (Kd.R_reads' q0).2.2
    ·exact (Kd.R_reads' q0).2.1
    ·exact (Kd.R_reads' q1).2.2
    ·exact (Kd.R_reads' q1).2.1
def Vq.f (a0 : ByteArray) (a1 : ByteArray) : Option (ByteArray) := if a0.size ≤ 9223372036854775807 ∧ a1.size < 4294967281 ∧ a1.data.toList.all (fun b => decide (b.toNat < 128)) = true then some ⟨(Lib.trimS a0.data.toList a1.data.toList).toArray⟩ else none
theorem Vq.calls (a0 : ByteArray) (a1 : ByteArray) (r : ByteArray) (w : World) (h : Vq.f a0 a1 = some r) :
  Calls Tryz.prog 94 #[.string a0, .string a1] w fun e w' => e = .returned (.string r) ∧ Below w.heap.size w w' := by
 unfold Vq.f at h
 by_cases c : a0.size ≤ 9223372036854775807 ∧ a1.size < 4294967281 ∧ a1.data.toList.all (fun b => decide (b.toNat < 128)) = true
 ·rw [if_pos c] at h
  obtain rfl := Option.some.inj h
  exact Any.strings_Trim_laid Tryz.lays160 (by kernel_rfl) a0 a1 w c.1 c.2.1 (ascii_of_all c.2.2)
 rw [if_neg c] at h
 exact absurd h (by simp)
def Gj.f (a0 : ByteArray) : Option (Bool) := if (a0.size : Int) ≥ 1 then (if (a0.size : Int) ≤ 20 then (if 0 < (a0.size : Int) then (if (bt a0 0) ≥ 97 then (if (bt a0 0) ≤ 122 then ((Vq.f a0 (⟨#[97, 98, 99, 100, 101, 102, 103, 104, 105, 106, 107, 108, 109, 110, 111, 112, 113, 114, 115, 116, 117, 118, 119, 120, 121, 122, 48, 49, 50, 51, 52, 53, 54, 55, 56, 57, 95]⟩ : ByteArray)).bind fun t188 => (some (t188.toList == ([] : List UInt8)))) else (some false)) else (some false)) else (none)) else (some false)) else (some false)
theorem Gj.calls (a0 : ByteArray) (r : Bool) (w : World) (h : Gj.f a0 = some r) :
  Calls Tryz.prog 59 #[.string a0] w fun e w' => e = .returned (.bool r) ∧ Below w.heap.size w w' := by
 have HB := Aside0.mk (Below.refl w.heap.size w)
 have H : (if (a0.size : Int) ≥ 1 then (if (a0.size : Int) ≤ 20 then (if 0 < (a0.size : Int) then (if (bt a0 0) ≥ 97 then (if (bt a0 0) ≤ 122 then ((Vq.f a0 (⟨#[97, 98, 99, 100, 101, 102, 103, 104, 105, 106, 107, 108, 109, 110, 111, 112, 113, 114, 115, 116, 117, 118, 119, 120, 121, 122, 48, 49, 50, 51, 52, 53, 54, 55, 56, 57, 95]⟩ : ByteArray)).bind fun t188 => (some (t188.toList == ([] : List UInt8)))) else (some false)) else (some false)) else (none)) else (some false)) else (some false)) = some r := h
 clear h
 by_cases c2 : (a0.size : Int) ≥ 1
 rotate_left
 ·rw [if_neg c2] at H
  have c2b0 : decide (1 ≤ (a0.size : Int)) = false := decide_eq_false c2
  have c2b1 : decide (1 ≤ a0.size) = false := decide_eq_false (by omega)
  clear c2
  obtain rfl := Option.some.inj H
  clear H
  go_enter Tryz.func59, Tryz.ntmps59
  go_wp2
  go_ret
  exact ⟨EZa, HBa⟩
 rw [if_pos c2] at H
 have c2b0 : decide (1 ≤ (a0.size : Int)) = true := decide_eq_true c2
 have c2b1 : decide (1 ≤ a0.size) = true := decide_eq_true (by omega)
 clear c2
 by_cases c3 : (a0.size : Int) ≤ 20
 rotate_left
 ·rw [if_neg c3] at H
  have c3b0 := decide_eq_false c3
  have c3b1 : decide (a0.size ≤ 20) = false := decide_eq_false (by omega)
  clear c3
  obtain rfl := Option.some.inj H
  clear H
  go_enter Tryz.func59, Tryz.ntmps59
  go_wp2
  go_ret
  exact ⟨EZa, HBa⟩
 rw [if_pos c3] at H
 have c3b0 := decide_eq_true c3
 have c3b1 : decide (a0.size ≤ 20) = true := decide_eq_true (by omega)
 clear c3
 by_cases c4 : 0 < (a0.size : Int)
 rotate_left
 ·rw [if_neg c4] at H
  exact absurd H (by simp)
 rw [if_pos c4] at H
 have c4b0 := decide_eq_true c4
 have c4b1 : decide (0 < a0.size) = true := decide_eq_true (by omega)
 clear c4
 by_cases c6 : (bt a0 0) ≥ 97
 rotate_left
 ·rw [if_neg c6] at H
  have c6b0 : decide (97 ≤ (bt a0 0)) = false := decide_eq_false c6
  clear c6
  obtain rfl := Option.some.inj H
  clear H
  have p5 : 0 ≤ (0 : Int) := (by omega)
  have q5 : 0 < a0.size := (by have : (0 : Int) < (a0.size : Int) := ODz; omega)
  have hx5 : ∀ h : 0 < a0.size, ((a0[0]'h).toNat : Int) = bt a0 0 := bt_at a0 0
  clear p5
  have qi5 : (0 < (a0.size : Int)) = True := eq_true (ODz)
  replace q5 := eq_true q5
  go_enter Tryz.func59, Tryz.ntmps59
  go_wp2
  go_ret
  exact ⟨EZa, HBa⟩
 rw [if_pos c6] at H
 have c6b0 : decide (97 ≤ (bt a0 0)) = true := decide_eq_true c6
 clear c6
 by_cases c8 : (bt a0 0) ≤ 122
 rotate_left
 ·rw [if_neg c8] at H
  have c8b0 := decide_eq_false c8
  clear c8
  obtain rfl := Option.some.inj H
  clear H
  have p5 : 0 ≤ (0 : Int) := (by omega)
  have q5 : 0 < a0.size := (by have : (0 : Int) < (a0.size : Int) := ODz; omega)
  have hx5 : ∀ h : 0 < a0.size, ((a0[0]'h).toNat : Int) = bt a0 0 := bt_at a0 0
  clear p5
  have qi5 : (0 < (a0.size : Int)) = True := eq_true (ODz)
  replace q5 := eq_true q5
  have p7 : 0 ≤ (0 : Int) := (by omega)
  have q7 : 0 < a0.size := (by have : (0 : Int) < (a0.size : Int) := ODz; omega)
  have hx7 : ∀ h : 0 < a0.size, ((a0[0]'h).toNat : Int) = bt a0 0 := bt_at a0 0
  clear p7
  have qi7 : (0 < (a0.size : Int)) = True := eq_true (ODz)
  replace q7 := eq_true q7
  go_enter Tryz.func59, Tryz.ntmps59
  go_wp2
  go_ret
  exact ⟨EZa, HBa⟩
 rw [if_pos c8] at H
 have c8b0 := decide_eq_true c8
 clear c8
 replace H := Option.bind_eq_some_iff.mp H
 obtain ⟨t188, A90, H⟩ := H
 replace H : (some (t188.toList == ([] : List UInt8))) = some r := H
 have A9 := Aside0.mk A90
 clear A90
 obtain rfl := Option.some.inj H
 clear H
 have p5 : 0 ≤ (0 : Int) := (by omega)
 have q5 : 0 < a0.size := (by have : (0 : Int) < (a0.size : Int) := ODz; omega)
 have hx5 : ∀ h : 0 < a0.size, ((a0[0]'h).toNat : Int) = bt a0 0 := bt_at a0 0
 clear p5
 have qi5 : (0 < (a0.size : Int)) = True := eq_true (ODz)
 replace q5 := eq_true q5
 have p7 : 0 ≤ (0 : Int) := (by omega)
 have q7 : 0 < a0.size := (by have : (0 : Int) < (a0.size : Int) := ODz; omega)
 have hx7 : ∀ h : 0 < a0.size, ((a0[0]'h).toNat : Int) = bt a0 0 := bt_at a0 0
 clear p7
 have qi7 : (0 < (a0.size : Int)) = True := eq_true (ODz)
 replace q7 := eq_true q7
 go_enter Tryz.func59, Tryz.ntmps59
 go_wp2_with (first | (go_at_call 94; (with_reducible refine (Vq.calls a0 (⟨#[97, 98, 99, 100, 101, 102, 103, 104, 105, 106, 107, 108, 109, 110, 111, 112, 113, 114, 115, 116, 117, 118, 119, 120, 121, 122, 48, 49, 50, 51, 52, 53, 54, 55, 56, 57, 95]⟩ : ByteArray) t188 _ A9.out).mono ?_); rintro e w10 ⟨rfl, hb⟩; have n0_ := Aside0.mk (below_step HBa hb); clear HB; have HB := n0_; clear n0_; (try clear hb); (try clear hb2); (try clear hk); (try clear hi)))
 go_ret
 exact ⟨EZa, HBa⟩
end Go.Proofs.YtmkeigielncpjaaGreatDoor.PFnAcl
