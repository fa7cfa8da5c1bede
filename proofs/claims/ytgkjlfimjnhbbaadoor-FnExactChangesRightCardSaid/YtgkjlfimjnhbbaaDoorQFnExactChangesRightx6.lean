-- Laid by this session's own program out of the translation; Lean checks it.
import Derived.Test.YtgkjlfimjnhbbaaDoorQFnExactChangesRightx0
import Derived.Test.YtgkjlfimjnhbbaaDoorQFnExactChangesRightx2
import Derived.Test.YtgkjlfimjnhbbaaDoorQFnExactChangesRightx3
import Derived.Test.YtgkjlfimjnhbbaaDoorQFnExactChangesRightx5
namespace Go.Proofs.YtgkjlfimjnhbbaaDoor.PFnExactChangesRight
open Go.RowKit Go.Proofs.YtgkjlfimjnhbbaaDoorW.PrintWords Go.Proofs.YtgkjlfimjnhbbaaDoorW.PrintLast Go.Proofs.YtgkjlfimjnhbbaaDoorW.PrintMore
attribute [local go_sem] max2_int min2_int max_two min_two max_three min_three max_four min_four   -- for this text's walks alone
set_option linter.unusedVariables false
set_option linter.unusedSimpArgs false
def spec_l02Text.l0 : Nat → List (S126) → ByteArray → Int → Option (ByteArray)
 | 0, _, _, _ => none
 | k + 1, x0, x3, x4 => if x4 < (x0.length : Int) then (if x4 > 0 then (if x3.size + 1 ≤ 9223372036854775807 then (if 0 ≤ x4 then (if (x3 ++ (⟨#[44]⟩ : ByteArray)).size + ((rd_T126 x0 x4).f0).size ≤ 9223372036854775807 then (if ((x3 ++ (⟨#[44]⟩ : ByteArray)) ++ ((rd_T126 x0 x4).f0)).size + 1 ≤ 9223372036854775807 then ((spec_l02Escape.f k ((rd_T126 x0 x4).f1)).bind fun t197 => (if (((x3 ++ (⟨#[44]⟩ : ByteArray)) ++ ((rd_T126 x0 x4).f0)) ++ (⟨#[61]⟩ : ByteArray)).size + t197.size ≤ 9223372036854775807 then (spec_l02Text.l0 k x0 ((((x3 ++ (⟨#[44]⟩ : ByteArray)) ++ ((rd_T126 x0 x4).f0)) ++ (⟨#[61]⟩ : ByteArray)) ++ t197) (wrap64 (x4 + 1))) else (none))) else (none)) else (none)) else (none)) else (none)) else (if 0 ≤ x4 then (if x3.size + ((rd_T126 x0 x4).f0).size ≤ 9223372036854775807 then (if (x3 ++ ((rd_T126 x0 x4).f0)).size + 1 ≤ 9223372036854775807 then ((spec_l02Escape.f k ((rd_T126 x0 x4).f1)).bind fun t200 => (if ((x3 ++ ((rd_T126 x0 x4).f0)) ++ (⟨#[61]⟩ : ByteArray)).size + t200.size ≤ 9223372036854775807 then (spec_l02Text.l0 k x0 (((x3 ++ ((rd_T126 x0 x4).f0)) ++ (⟨#[61]⟩ : ByteArray)) ++ t200) (wrap64 (x4 + 1))) else (none))) else (none)) else (none)) else (none))) else (some x3)
def spec_l02Text.f (k : Nat) (l0 : List (S126)) : Option (ByteArray) := spec_l02Text.l0 k l0 (⟨#[]⟩ : ByteArray) 0
theorem spec_l02Text.mono_l : ∀ k, (∀ y0 y1 y2, LeO (spec_l02Text.l0 k y0 y1 y2) (spec_l02Text.l0 (k + 1) y0 y1 y2))
 | 0 => fun _ _ _ r h => by simp [spec_l02Text.l0] at h
 | k + 1 => by
  have ih0 := spec_l02Text.mono_l k
  ·intro y0 y1 y2
   unfold spec_l02Text.l0
   repeat' first
   | (with_reducible exact ih0 _ _ _)
   | (with_reducible exact spec_l02Escape.mono _ _)
   | (with_reducible exact LeO.refl _)
   | (with_reducible exact LeO.none _)
   | (with_reducible refine LeO.ite ?_ ?_)
   | (with_reducible refine LeO.bind ?_ (fun _ => ?_))
   | exact ih0 _ _ _
   | exact spec_l02Escape.mono _ _
   | exact LeO.none _
   | refine LeO.ite ?_ ?_
   | refine LeO.bind ?_ (fun _ => ?_)
theorem spec_l02Text.mono : ∀ a0 k, LeO (spec_l02Text.f k a0) (spec_l02Text.f (k + 1) a0) := by
 intro a0 k
 have ih0 := spec_l02Text.mono_l k
 unfold spec_l02Text.f
 repeat' first
   | (with_reducible exact ih0 _ _ _)
   | (with_reducible exact spec_l02Escape.mono _ _)
   | (with_reducible exact LeO.refl _)
   | (with_reducible exact LeO.none _)
   | (with_reducible refine LeO.ite ?_ ?_)
   | (with_reducible refine LeO.bind ?_ (fun _ => ?_))
   | exact ih0 _ _ _
   | exact spec_l02Escape.mono _ _
   | exact LeO.none _
   | refine LeO.ite ?_ ?_
   | refine LeO.bind ?_ (fun _ => ?_)
def spec_l02Text.T7 : Bool × List (List Nat × List Nat) := (true, [([], []), ([], []), ([], []), ([1, 2], [1, 2]), ([3], [3]), ([4], [4]), ([0, 5], [0, 5]), ([6], [6]), ([], []), ([], []), ([8, 9], [8, 9]), ([10], [10]), ([11], [11]), ([12], [12]), ([7, 13], [7, 13]), ([14, 13, 0, 1, 2, 3, 4, 5, 6, 7, 8, 9, 10, 11, 12, 13, 14], [0, 14])])
def spec_l02Text.B7 : List Nat := [0, 0, 0, 6, 14, 30, 63, 127, 0, 0, 768, 1792, 3840, 7936, 16383, 32767]
theorem spec_l02Text.tab7 : rtab .any (opsOf Tryd.f126 7) = spec_l02Text.T7 := by kernel_rfl
theorem spec_l02Text.bits7 : waitsOk spec_l02Text.T7.2 spec_l02Text.B7 = true := by kernel_rfl
set_option maxHeartbeats 8000000 in
set_option maxRecDepth 100000 in
theorem spec_l02Text.calls (k : Nat) (A0 : Option Addr) (c0 : Nat) (l0 : List (S126)) (r : ByteArray) (w : World) (hr0 : Kd.C k126 w A0 l0.length l0) (hc0 : l0.length ≤ c0) (h : spec_l02Text.f k l0 = some r) :
  Calls Tryd.prog 126 #[.slice A0 l0.length c0] w fun e w' => e = .returned (.string r) ∧ Below w.heap.size w w' := by
 have HR0 := Aside0.mk hr0
 have HC0 := Aside0.mk hc0
 clear hr0 hc0
 have HB := Aside0.mk (Below.refl w.heap.size w)
 have H : (spec_l02Text.l0 k l0 (⟨#[]⟩ : ByteArray) 0) = some r := h
 clear h
 have H' := Aside0.mk H
 clear H
 go_enter Tryd.func126, Tryd.ntmps126
 go_wp2
 go_loopg [3, 4] k (fun kq v3 v4 w' => ∃ (x3_1 : ByteArray) (x4_1 : Int), v3 = .string x3_1 ∧ v4 = .int .i64 x4_1 ∧ Aside0 (spec_l02Text.l0 kq l0 x3_1 x4_1 = some r) ∧ Aside0 (kq ≤ k) ∧ Aside0 (Below w.heap.size w w'))
 case atStart => exact ⟨((⟨#[]⟩ : ByteArray)), (0), EZc, EZc, H', ⟨Nat.le_refl _⟩, ⟨HBa⟩⟩
 case round =>
  clear H'
  try clear c1
  obtain ⟨x3_1, x4_1, rfl, rfl, HA, HK1, HB⟩ := hrel
  cases gk with
  | zero => exact absurd HA.out (by simp [spec_l02Text.l0])
  | succ k1 =>
   have H := HA.out
   clear HA
   simp only [spec_l02Text.l0] at H
   by_cases c2 : x4_1 < (l0.length : Int)
   rotate_left
   ·rw [if_neg c2] at H
    have c2b0 : decide (x4_1 < (l0.length : Int)) = false := decide_eq_false c2
    clear c2
    obtain rfl := Option.some.inj H
    go_wp2
    go_ret
    exact ⟨EZa, HBa⟩
   rw [if_pos c2] at H
   have c2b0 : decide (x4_1 < (l0.length : Int)) = true := decide_eq_true c2
   clear c2
   by_cases c3 : x4_1 > 0
   rotate_left
   ·rw [if_neg c3] at H
    have c3b0 : decide (0 < x4_1) = false := decide_eq_false c3
    clear c3
    by_cases c12 : 0 ≤ x4_1
    rotate_left
    ·rw [if_neg c12] at H
     exact absurd H (by simp)
    rw [if_pos c12] at H
    have c12b0 : decide (0 ≤ x4_1) = true := decide_eq_true c12
    clear c12
    by_cases c13 : x3_1.size + ((rd_T126 l0 x4_1).f0).size ≤ 9223372036854775807
    rotate_left
    ·rw [if_neg c13] at H
     exact absurd H (by simp)
    rw [if_pos c13] at H
    have c13b0 := eq_true c13
    have c13b1 : decide (x3_1.size + ((rd_T126 l0 x4_1).f0).size ≤ 9223372036854775807) = true := decide_eq_true c13
    try have c13b2 : (9223372036854775807 < x3_1.size + ((rd_T126 l0 x4_1).f0).size) = False := eq_false (Nat.not_lt.2 c13)
    by_cases c14 : (x3_1 ++ ((rd_T126 l0 x4_1).f0)).size + 1 ≤ 9223372036854775807
    rotate_left
    ·rw [if_neg c14] at H
     exact absurd H (by simp)
    rw [if_pos c14] at H
    have c14b0 := eq_true c14
    have c14b1 : decide ((x3_1 ++ ((rd_T126 l0 x4_1).f0)).size + 1 ≤ 9223372036854775807) = true := decide_eq_true c14
    have c14n : ¬ (9223372036854775807 < (x3_1 ++ ((rd_T126 l0 x4_1).f0)).size + 1) := Nat.not_lt.2 c14
    try simp only [ByteArray.size_append] at c14n
    try have c14b2 : (9223372036854775807 < (x3_1 ++ ((rd_T126 l0 x4_1).f0)).size + 1) = False := eq_false (Nat.not_lt.2 c14)
    replace H := Option.bind_eq_some_iff.mp H
    obtain ⟨t200, A150, H⟩ := H
    replace H : (if ((x3_1 ++ ((rd_T126 l0 x4_1).f0)) ++ (⟨#[61]⟩ : ByteArray)).size + t200.size ≤ 9223372036854775807 then (spec_l02Text.l0 k1 l0 (((x3_1 ++ ((rd_T126 l0 x4_1).f0)) ++ (⟨#[61]⟩ : ByteArray)) ++ t200) (wrap64 (x4_1 + 1))) else (none)) = some r := H
    have A15 := Aside0.mk A150
    clear A150
    by_cases c16 : ((x3_1 ++ ((rd_T126 l0 x4_1).f0)) ++ (⟨#[61]⟩ : ByteArray)).size + t200.size ≤ 9223372036854775807
    rotate_left
    ·rw [if_neg c16] at H
     exact absurd H (by simp)
    rw [if_pos c16] at H
    have c16b0 := eq_true c16
    have c16b1 : decide (((x3_1 ++ ((rd_T126 l0 x4_1).f0)) ++ (⟨#[61]⟩ : ByteArray)).size + t200.size ≤ 9223372036854775807) = true := decide_eq_true c16
    have c16n : ¬ (9223372036854775807 < ((x3_1 ++ ((rd_T126 l0 x4_1).f0)) ++ (⟨#[61]⟩ : ByteArray)).size + t200.size) := Nat.not_lt.2 c16
    try simp only [ByteArray.size_append, show (⟨#[61]⟩ : ByteArray).size = 1 from rfl] at c16n
    try have c16b2 : (9223372036854775807 < ((x3_1 ++ ((rd_T126 l0 x4_1).f0)) ++ (⟨#[61]⟩ : ByteArray)).size + t200.size) = False := eq_false (Nat.not_lt.2 c16)
    have H' := Aside0.mk H
    clear H
    try go_wp2
    have n0_ := Aside0.mk (below_drew1 HB.out)
    clear HB
    have HB := n0_
    clear n0_
    have p198 : 0 ≤ (x4_1 : Int) := ODz
    have q198 : x4_1 < (l0.length : Int) := ODz
    obtain ⟨ad198, e198, hx198_0, hx198_1⟩ := at_T126 HR0.out x4_1 p198 q198
    have hw198_1 := hx198_1
    have hw198_0 := hx198_0
    cases e198
    replace hx198_0 := HXz HB hx198_0
    replace hx198_1 := HXz HB hx198_1
    replace p198 := eq_true p198
    replace q198 := eq_true q198
    have p199 : 0 ≤ (x4_1 : Int) := ODz
    have q199 : x4_1 < (l0.length : Int) := ODz
    obtain ⟨ad199, e199, hx199_0, hx199_1⟩ := at_T126 HR0.out x4_1 p199 q199
    have hw199_1 := hx199_1
    have hw199_0 := hx199_0
    obtain rfl : ad198 = ad199 := (by injection e199)
    replace hx199_0 := HXz HB hx199_0
    replace hx199_1 := HXz HB hx199_1
    replace p199 := eq_true p199
    replace q199 := eq_true q199
    refine start_ (n := 16) (S := fun w' => w'.cell? (ad198.add ((x4_1).toNat * 2)) = some (.string ((rd_T126 l0 x4_1).f0)) ∧ w'.cell? ⟨(ad198.add ((x4_1).toNat * 2)).block, (ad198.add ((x4_1).toNat * 2)).off + 1, none⟩ = some (.string ((rd_T126 l0 x4_1).f1)) ∧ w'.cell? (ad198.add ((x4_1).toNat * 2)) = some (.string ((rd_T126 l0 x4_1).f0)) ∧ w'.cell? ⟨(ad198.add ((x4_1).toNat * 2)).block, (ad198.add ((x4_1).toNat * 2)).off + 1, none⟩ = some (.string ((rd_T126 l0 x4_1).f1))) (ds := []) (bz 16 0) (by kernel_rfl) rfl (by kernel_rfl) ⟨(HXz HB hw198_0 :), (HXz HB hw198_1 :), (HXz HB hw199_0 :), (HXz HB hw199_1 :)⟩ (fun hHeld => ?_); refine with_tabW spec_l02Text.tab7 spec_l02Text.bits7 (fun HT_ HW_ => ?_)
    generalize wr.drew = w17 at HB hx198_0 hx198_1 hx199_0 hx199_1 hHeld ⊢
    refine PYz 0 15 (bz 16 1) rfl rfl (any_of HT_.out (by kernel_rfl)) ?_
    refine PYz 1 16 (bz 16 3) rfl rfl (any_of HT_.out (by kernel_rfl)) ?_
    refine PYz 2 17 (bz 16 7) rfl rfl (any_of HT_.out (by kernel_rfl)) ?_
    refine PYz 3 18 (bz 16 15) rfl rfl (any_of HT_.out (by kernel_rfl)) ?_
    refine PYz 4 19 (bz 16 31) rfl rfl (any_of HT_.out (by kernel_rfl)) ?_
    refine PYz 8 23 (bz 16 287) rfl rfl (any_of HT_.out (by kernel_rfl)) ?_
    refine PYz 9 24 (bz 16 799) rfl rfl (any_of HT_.out (by kernel_rfl)) ?_
    refine PYz 10 25 (bz 16 1823) rfl rfl (any_of HT_.out (by kernel_rfl)) ?_
    refine PYz 11 26 (bz 16 3871) rfl rfl (any_of HT_.out (by kernel_rfl)) ?_
    refine take_ (i := 5) (N := some 20) (v := ?_) (a' := ?_) (bz 16 3903) rfl rfl (take_ofW HT_.out HW_.out (by kernel_rfl)) (fun _ _ _ h => h) (Or.inl ⟨by rfl, ?_⟩) hHeld ?_ ?_
    rotate_left
    ·rintro w' ⟨s0, s1, s2, s3⟩
     go_simp
     with_reducible rfl
    rotate_left
    ·simp only [PUz]
     rfl
    refine PYz 6 21 (bz 16 3967) rfl rfl (any_of HT_.out (by kernel_rfl)) ?_
    refine PYz 7 22 (bz 16 4095) rfl rfl (any_of HT_.out (by kernel_rfl)) ?_
    refine take_ (i := 12) (N := some 27) (v := ?_) (a' := ?_) (bz 16 8191) rfl rfl (take_ofW HT_.out HW_.out (by kernel_rfl)) (fun _ _ _ h => h) (Or.inl ⟨by rfl, ?_⟩) hHeld ?_ ?_
    rotate_left
    ·rintro w' ⟨s0, s1, s2, s3⟩
     go_simp
     with_reducible rfl
    rotate_left
    ·simp only [PUz]
     rfl
    refine one_ (i := 13) (N := some 28) (bz 16 16383) rfl rfl (one_of HT_.out (by kernel_rfl)) (by decide) (fun K hK => ?_)
    refine goes_ Tryd.func154 (by kernel_rfl) rfl #[.string ((rd_T126 l0 x4_1).f1)] (by rfl) rfl rfl MPz ?_
    with_reducible refine (spec_l02Escape.calls k1 ((rd_T126 l0 x4_1).f1) t200 _ A15.out).mono ?_
    rintro e w18 ⟨rfl, hb⟩
    refine ⟨_, rfl, ?_⟩
    have n0_ := Aside0.mk (below_step HBa hb)
    clear HB
    have HB := n0_
    clear n0_
    (try clear hb)
    (try clear hb2)
    (try clear hk)
    (try clear hi)
    refine hK.out _ _ ⟨(HXz HB hw198_0 :), (HXz HB hw198_1 :), (HXz HB hw199_0 :), (HXz HB hw199_1 :)⟩ (fun hHeld => ?_)
    clear hK K
    refine norm_ (a' := ?_) ?_ ?_
    rotate_left
    ·show Act.put _ (some 28) _ = _
     simp only [PUz]
     rfl
    refine PYz 14 29 (bz 16 32767) rfl rfl (any_of HT_.out (by kernel_rfl)) ?_
    refine PYz 15 3 (bz 16 65535) rfl rfl (any_of HT_.out (by kernel_rfl)) ?_
    refine done_ (done_of HT_.out (by kernel_rfl)) ?_
    try go_wp2
    go_roundg k1
    case measure => have := HK1.out; omega
    case rel => exact ⟨(((x3_1 ++ ((rd_T126 l0 x4_1).f0)) ++ (⟨#[61]⟩ : ByteArray)) ++ t200), (wrap64 (x4_1 + 1)), EZc, EZc, H', ⟨by have := HK1.out; omega⟩, ⟨HBa⟩⟩
   rw [if_pos c3] at H
   have c3b0 : decide (0 < x4_1) = true := decide_eq_true c3
   clear c3
   by_cases c4 : x3_1.size + 1 ≤ 9223372036854775807
   rotate_left
   ·rw [if_neg c4] at H
    exact absurd H (by simp)
   rw [if_pos c4] at H
   have c4b0 := eq_true c4
   have c4b1 : decide (x3_1.size + 1 ≤ 9223372036854775807) = true := decide_eq_true c4
   try have c4b2 : (9223372036854775807 < x3_1.size + 1) = False := eq_false (Nat.not_lt.2 c4)
   by_cases c5 : 0 ≤ x4_1
   rotate_left
   ·rw [if_neg c5] at H
    exact absurd H (by simp)
   rw [if_pos c5] at H
   have c5b0 : decide (0 ≤ x4_1) = true := decide_eq_true c5
   clear c5
   by_cases c6 : (x3_1 ++ (⟨#[44]⟩ : ByteArray)).size + ((rd_T126 l0 x4_1).f0).size ≤ 9223372036854775807
   rotate_left
   ·rw [if_neg c6] at H
    exact absurd H (by simp)
   rw [if_pos c6] at H
   have c6b0 := eq_true c6
   have c6b1 : decide ((x3_1 ++ (⟨#[44]⟩ : ByteArray)).size + ((rd_T126 l0 x4_1).f0).size ≤ 9223372036854775807) = true := decide_eq_true c6
   have c6n : ¬ (9223372036854775807 < (x3_1 ++ (⟨#[44]⟩ : ByteArray)).size + ((rd_T126 l0 x4_1).f0).size) := Nat.not_lt.2 c6
   try simp only [ByteArray.size_append, show (⟨#[44]⟩ : ByteArray).size = 1 from rfl] at c6n
   try have c6b2 : (9223372036854775807 < (x3_1 ++ (⟨#[44]⟩ : ByteArray)).size + ((rd_T126 l0 x4_1).f0).size) = False := eq_false (Nat.not_lt.2 c6)
   by_cases c7 : ((x3_1 ++ (⟨#[44]⟩ : ByteArray)) ++ ((rd_T126 l0 x4_1).f0)).size + 1 ≤ 9223372036854775807
   rotate_left
   ·rw [if_neg c7] at H
    exact absurd H (by simp)
   rw [if_pos c7] at H
   have c7b0 := eq_true c7
   have c7b1 : decide (((x3_1 ++ (⟨#[44]⟩ : ByteArray)) ++ ((rd_T126 l0 x4_1).f0)).size + 1 ≤ 9223372036854775807) = true := decide_eq_true c7
   have c7n : ¬ (9223372036854775807 < ((x3_1 ++ (⟨#[44]⟩ : ByteArray)) ++ ((rd_T126 l0 x4_1).f0)).size + 1) := Nat.not_lt.2 c7
   try simp only [ByteArray.size_append, show (⟨#[44]⟩ : ByteArray).size = 1 from rfl] at c7n
   try have c7b2 : (9223372036854775807 < ((x3_1 ++ (⟨#[44]⟩ : ByteArray)) ++ ((rd_T126 l0 x4_1).f0)).size + 1) = False := eq_false (Nat.not_lt.2 c7)
   replace H := Option.bind_eq_some_iff.mp H
   obtain ⟨t197, A80, H⟩ := H
   replace H : (if (((x3_1 ++ (⟨#[44]⟩ : ByteArray)) ++ ((rd_T126 l0 x4_1).f0)) ++ (⟨#[61]⟩ : ByteArray)).size + t197.size ≤ 9223372036854775807 then (spec_l02Text.l0 k1 l0 ((((x3_1 ++ (⟨#[44]⟩ : ByteArray)) ++ ((rd_T126 l0 x4_1).f0)) ++ (⟨#[61]⟩ : ByteArray)) ++ t197) (wrap64 (x4_1 + 1))) else (none)) = some r := H
   have A8 := Aside0.mk A80
   clear A80
   by_cases c9 : (((x3_1 ++ (⟨#[44]⟩ : ByteArray)) ++ ((rd_T126 l0 x4_1).f0)) ++ (⟨#[61]⟩ : ByteArray)).size + t197.size ≤ 9223372036854775807
   rotate_left
   ·rw [if_neg c9] at H
    exact absurd H (by simp)
   rw [if_pos c9] at H
   have c9b0 := eq_true c9
   have c9b1 : decide ((((x3_1 ++ (⟨#[44]⟩ : ByteArray)) ++ ((rd_T126 l0 x4_1).f0)) ++ (⟨#[61]⟩ : ByteArray)).size + t197.size ≤ 9223372036854775807) = true := decide_eq_true c9
   have c9n : ¬ (9223372036854775807 < (((x3_1 ++ (⟨#[44]⟩ : ByteArray)) ++ ((rd_T126 l0 x4_1).f0)) ++ (⟨#[61]⟩ : ByteArray)).size + t197.size) := Nat.not_lt.2 c9
   try simp only [ByteArray.size_append, show (⟨#[44]⟩ : ByteArray).size = 1 from rfl, show (⟨#[61]⟩ : ByteArray).size = 1 from rfl] at c9n
   try have c9b2 : (9223372036854775807 < (((x3_1 ++ (⟨#[44]⟩ : ByteArray)) ++ ((rd_T126 l0 x4_1).f0)) ++ (⟨#[61]⟩ : ByteArray)).size + t197.size) = False := eq_false (Nat.not_lt.2 c9)
   have H' := Aside0.mk H
   clear H
   try go_wp2
   have n0_ := Aside0.mk (below_drew1 HB.out)
   clear HB
   have HB := n0_
   clear n0_
   have p195 : 0 ≤ (x4_1 : Int) := ODz
   have q195 : x4_1 < (l0.length : Int) := ODz
   obtain ⟨ad195, e195, hx195_0, hx195_1⟩ := at_T126 HR0.out x4_1 p195 q195
   have hw195_1 := hx195_1
   have hw195_0 := hx195_0
   cases e195
   replace hx195_0 := HXz HB hx195_0
   replace hx195_1 := HXz HB hx195_1
   replace p195 := eq_true p195
   replace q195 := eq_true q195
   have p196 : 0 ≤ (x4_1 : Int) := ODz
   have q196 : x4_1 < (l0.length : Int) := ODz
   obtain ⟨ad196, e196, hx196_0, hx196_1⟩ := at_T126 HR0.out x4_1 p196 q196
   have hw196_1 := hx196_1
   have hw196_0 := hx196_0
   obtain rfl : ad195 = ad196 := (by injection e196)
   replace hx196_0 := HXz HB hx196_0
   replace hx196_1 := HXz HB hx196_1
   replace p196 := eq_true p196
   replace q196 := eq_true q196
   refine start_ (n := 16) (S := fun w' => w'.cell? (ad195.add ((x4_1).toNat * 2)) = some (.string ((rd_T126 l0 x4_1).f0)) ∧ w'.cell? ⟨(ad195.add ((x4_1).toNat * 2)).block, (ad195.add ((x4_1).toNat * 2)).off + 1, none⟩ = some (.string ((rd_T126 l0 x4_1).f1)) ∧ w'.cell? (ad195.add ((x4_1).toNat * 2)) = some (.string ((rd_T126 l0 x4_1).f0)) ∧ w'.cell? ⟨(ad195.add ((x4_1).toNat * 2)).block, (ad195.add ((x4_1).toNat * 2)).off + 1, none⟩ = some (.string ((rd_T126 l0 x4_1).f1))) (ds := []) (bz 16 0) (by kernel_rfl) rfl (by kernel_rfl) ⟨(HXz HB hw195_0 :), (HXz HB hw195_1 :), (HXz HB hw196_0 :), (HXz HB hw196_1 :)⟩ (fun hHeld => ?_); refine with_tabW spec_l02Text.tab7 spec_l02Text.bits7 (fun HT_ HW_ => ?_)
   generalize wr.drew = w10 at HB hx195_0 hx195_1 hx196_0 hx196_1 hHeld ⊢
   refine PYz 0 15 (bz 16 1) rfl rfl (any_of HT_.out (by kernel_rfl)) ?_
   refine PYz 1 16 (bz 16 3) rfl rfl (any_of HT_.out (by kernel_rfl)) ?_
   refine PYz 2 17 (bz 16 7) rfl rfl (any_of HT_.out (by kernel_rfl)) ?_
   refine PYz 3 18 (bz 16 15) rfl rfl (any_of HT_.out (by kernel_rfl)) ?_
   refine PYz 4 19 (bz 16 31) rfl rfl (any_of HT_.out (by kernel_rfl)) ?_
   refine PYz 8 23 (bz 16 287) rfl rfl (any_of HT_.out (by kernel_rfl)) ?_
   refine PYz 9 24 (bz 16 799) rfl rfl (any_of HT_.out (by kernel_rfl)) ?_
   refine PYz 10 25 (bz 16 1823) rfl rfl (any_of HT_.out (by kernel_rfl)) ?_
   refine PYz 11 26 (bz 16 3871) rfl rfl (any_of HT_.out (by kernel_rfl)) ?_
   refine take_ (i := 5) (N := some 20) (v := ?_) (a' := ?_) (bz 16 3903) rfl rfl (take_ofW HT_.out HW_.out (by kernel_rfl)) (fun _ _ _ h => h) (Or.inl ⟨by rfl, ?_⟩) hHeld ?_ ?_
   rotate_left
   ·rintro w' ⟨s0, s1, s2, s3⟩
    go_simp
    with_reducible rfl
   rotate_left
   ·simp only [PUz]
    rfl
   refine PYz 6 21 (bz 16 3967) rfl rfl (any_of HT_.out (by kernel_rfl)) ?_
   refine PYz 7 22 (bz 16 4095) rfl rfl (any_of HT_.out (by kernel_rfl)) ?_
   refine take_ (i := 12) (N := some 27) (v := ?_) (a' := ?_) (bz 16 8191) rfl rfl (take_ofW HT_.out HW_.out (by kernel_rfl)) (fun _ _ _ h => h) (Or.inl ⟨by rfl, ?_⟩) hHeld ?_ ?_
   rotate_left
   ·rintro w' ⟨s0, s1, s2, s3⟩
    go_simp
    with_reducible rfl
   rotate_left
   ·simp only [PUz]
    rfl
   refine one_ (i := 13) (N := some 28) (bz 16 16383) rfl rfl (one_of HT_.out (by kernel_rfl)) (by decide) (fun K hK => ?_)
   refine goes_ Tryd.func154 (by kernel_rfl) rfl #[.string ((rd_T126 l0 x4_1).f1)] (by rfl) rfl rfl MPz ?_
   with_reducible refine (spec_l02Escape.calls k1 ((rd_T126 l0 x4_1).f1) t197 _ A8.out).mono ?_
   rintro e w11 ⟨rfl, hb⟩
   refine ⟨_, rfl, ?_⟩
   have n0_ := Aside0.mk (below_step HBa hb)
   clear HB
   have HB := n0_
   clear n0_
   (try clear hb)
   (try clear hb2)
   (try clear hk)
   (try clear hi)
   refine hK.out _ _ ⟨(HXz HB hw195_0 :), (HXz HB hw195_1 :), (HXz HB hw196_0 :), (HXz HB hw196_1 :)⟩ (fun hHeld => ?_)
   clear hK K
   refine norm_ (a' := ?_) ?_ ?_
   rotate_left
   ·show Act.put _ (some 28) _ = _
    simp only [PUz]
    rfl
   refine PYz 14 29 (bz 16 32767) rfl rfl (any_of HT_.out (by kernel_rfl)) ?_
   refine PYz 15 3 (bz 16 65535) rfl rfl (any_of HT_.out (by kernel_rfl)) ?_
   refine done_ (done_of HT_.out (by kernel_rfl)) ?_
   try go_wp2
   go_roundg k1
   case measure => have := HK1.out; omega
   case rel => exact ⟨((((x3_1 ++ (⟨#[44]⟩ : ByteArray)) ++ ((rd_T126 l0 x4_1).f0)) ++ (⟨#[61]⟩ : ByteArray)) ++ t197), (wrap64 (x4_1 + 1)), EZc, EZc, H', ⟨by have := HK1.out; omega⟩, ⟨HBa⟩⟩
def spec_DnText.f (k : Nat) (l0 : List (S126)) : Option (ByteArray) := if (l0.length : Int) > 400 then (some (⟨#[]⟩ : ByteArray)) else ((spec_DnRight.f k l0).bind fun t201 => (if t201 = true then ((spec_l02Text.f k l0).bind fun t202 => (some t202)) else (some (⟨#[]⟩ : ByteArray))))
theorem spec_DnText.mono : ∀ a0 k, LeO (spec_DnText.f k a0) (spec_DnText.f (k + 1) a0) := by
 intro a0 k
 unfold spec_DnText.f
 repeat' first
   | (with_reducible exact spec_DnRight.mono _ _)
   | (with_reducible exact spec_l02Text.mono _ _)
   | (with_reducible exact LeO.refl _)
   | (with_reducible exact LeO.none _)
   | (with_reducible refine LeO.ite ?_ ?_)
   | (with_reducible refine LeO.bind ?_ (fun _ => ?_))
   | exact spec_DnRight.mono _ _
   | exact spec_l02Text.mono _ _
   | exact LeO.none _
   | refine LeO.ite ?_ ?_
   | refine LeO.bind ?_ (fun _ => ?_)
set_option maxHeartbeats 8000000 in
set_option maxRecDepth 100000 in
theorem spec_DnText.calls (k : Nat) (A0 : Option Addr) (c0 : Nat) (l0 : List (S126)) (r : ByteArray) (w : World) (hr0 : Kd.C k126 w A0 l0.length l0) (hc0 : l0.length ≤ c0) (h : spec_DnText.f k l0 = some r) :
  Calls Tryd.prog 93 #[.slice A0 l0.length c0] w fun e w' => e = .returned (.string r) ∧ Below w.heap.size w w' := by
 have HR0 := Aside0.mk hr0
 have HC0 := Aside0.mk hc0
 clear hr0 hc0
 have HB := Aside0.mk (Below.refl w.heap.size w)
 have H : (if (l0.length : Int) > 400 then (some (⟨#[]⟩ : ByteArray)) else ((spec_DnRight.f k l0).bind fun t201 => (if t201 = true then ((spec_l02Text.f k l0).bind fun t202 => (some t202)) else (some (⟨#[]⟩ : ByteArray))))) = some r := h
 clear h
 by_cases c2 : (l0.length : Int) > 400
 ·rw [if_pos c2] at H
  have c2b0 : decide (400 < (l0.length : Int)) = true := decide_eq_true c2
  have c2b1 : decide (400 < l0.length) = true := decide_eq_true (by omega)
  clear c2
  obtain rfl := Option.some.inj H
  go_enter Tryd.func93, Tryd.ntmps93
  go_wp2
  go_ret
  exact ⟨EZa, HBa⟩
 rw [if_neg c2] at H
 have c2b0 : decide (400 < (l0.length : Int)) = false := decide_eq_false c2
 have c2b1 : decide (400 < l0.length) = false := decide_eq_false (by omega)
 clear c2
 replace H := Option.bind_eq_some_iff.mp H
 obtain ⟨t201, A30, H⟩ := H
 replace H : (if t201 = true then ((spec_l02Text.f k l0).bind fun t202 => (some t202)) else (some (⟨#[]⟩ : ByteArray))) = some r := H
 have A3 := Aside0.mk A30
 clear A30
 by_cases c4 : t201 = true
 ·subst c4
  have H1 : ((spec_l02Text.f k l0).bind fun t202 => (some t202)) = some r := by rw [if_pos rfl] at H; exact H
  clear H
  have H := H1
  clear H1
  replace H := Option.bind_eq_some_iff.mp H
  obtain ⟨t202, A50, H⟩ := H
  replace H : (some t202) = some r := H
  have A5 := Aside0.mk A50
  clear A50
  obtain rfl := Option.some.inj H
  go_enter Tryd.func93, Tryd.ntmps93
  go_wp2_with (first | (go_at_call 94; (with_reducible refine (spec_DnRight.calls k _ _ l0 true _ ?side1 ?side2 A3.out).mono ?_); (case side1 => exact KCz HR0.out); (case side2 => exact HC0.out); rintro e w6 ⟨rfl, hb⟩; have n0_ := Aside0.mk (below_step HBa hb); clear HB; have HB := n0_; clear n0_; (try clear hb); (try clear hb2); (try clear hk); (try clear hi)) | ((with_reducible refine gate_callee (f := 126) rfl ?_); refine goesL_ (some 12) rfl rfl Tryd.func126 (by kernel_rfl) rfl #[.slice A0 l0.length c0] rfl MPz ?_; (with_reducible refine (spec_l02Text.calls k _ _ l0 t202 _ ?side1 ?side2 A5.out).mono ?_); (case side1 => exact KCz (Kd.C_below HR0.out HB.out)); (case side2 => exact HC0.out); rintro e w7 ⟨rfl, hb⟩; refine ⟨_, rfl, ?_⟩; have n0_ := Aside0.mk (below_step HBa hb); clear HB; have HB := n0_; clear n0_; (try clear hb); (try clear hb2); (try clear hk); (try clear hi)))
  go_ret
  exact ⟨EZa, HBa⟩
 replace c4 := Bool.eq_false_iff.mpr c4
 subst c4
 have H1 : (some (⟨#[]⟩ : ByteArray)) = some r := by rw [if_neg (show ¬ (false = true) by decide)] at H; exact H
 clear H
 have H := H1
 clear H1
 obtain rfl := Option.some.inj H
 go_enter Tryd.func93, Tryd.ntmps93
 go_wp2_with (first | (go_at_call 94; (with_reducible refine (spec_DnRight.calls k _ _ l0 false _ ?side1 ?side2 A3.out).mono ?_); (case side1 => exact KCz HR0.out); (case side2 => exact HC0.out); rintro e w8 ⟨rfl, hb⟩; have n0_ := Aside0.mk (below_step HBa hb); clear HB; have HB := n0_; clear n0_; (try clear hb); (try clear hb2); (try clear hk); (try clear hi)))
 go_ret
 exact ⟨EZa, HBa⟩
def spec_l02Read.l0 : Nat → ByteArray → List (S126) → List ByteArray → Int → Option ((List (S126)) × Bool)
 | 0, _, _, _, _ => none
 | k + 1, x0, x4, x5, x6 => if x6 < (x5.length : Int) then (if 0 ≤ x6 then ((spec_l02Rdn.f k (rdOf ByteArray.empty x5 x6)).bind fun bt210 => (if x4.length < 4398046511104 then (spec_l02Read.l0 k x0 (x4 ++ [(⟨bt210.1, bt210.2⟩ : S126)]) x5 (wrap64 (x6 + 1))) else (none))) else (none)) else ((spec_DnText.f k x4).bind fun t215 => (some (x4, (t215.toList == x0.toList))))
def spec_l02Read.f (k : Nat) (a0 : ByteArray) : Option ((List (S126)) × Bool) := (some (([] : List (S126)) : List (S126))).bind fun y203 => (if a0.toList = ([] : List UInt8) then (some (y203, true)) else ((spec_l02Cut.f k a0).bind fun t206 => (spec_l02Read.l0 k a0 y203 t206 0)))
theorem spec_l02Read.mono_l : ∀ k, (∀ y0 y1 y2 y3, LeO (spec_l02Read.l0 k y0 y1 y2 y3) (spec_l02Read.l0 (k + 1) y0 y1 y2 y3))
 | 0 => fun _ _ _ _ r h => by simp [spec_l02Read.l0] at h
 | k + 1 => by
  have ih0 := spec_l02Read.mono_l k
  ·intro y0 y1 y2 y3
   unfold spec_l02Read.l0
   repeat' first
   | (with_reducible exact ih0 _ _ _ _)
   | (with_reducible exact spec_DnText.mono _ _)
   | (with_reducible exact spec_l02Cut.mono _ _)
   | (with_reducible exact spec_l02Rdn.mono _ _)
   | (with_reducible exact LeO.refl _)
   | (with_reducible exact LeO.none _)
   | (with_reducible refine LeO.ite ?_ ?_)
   | (with_reducible refine LeO.bind ?_ (fun _ => ?_))
   | exact ih0 _ _ _ _
   | exact spec_DnText.mono _ _
   | exact spec_l02Cut.mono _ _
   | exact spec_l02Rdn.mono _ _
   | exact LeO.none _
   | refine LeO.ite ?_ ?_
   | refine LeO.bind ?_ (fun _ => ?_)
theorem spec_l02Read.mono : ∀ a0 k, LeO (spec_l02Read.f k a0) (spec_l02Read.f (k + 1) a0) := by
 intro a0 k
 have ih0 := spec_l02Read.mono_l k
 unfold spec_l02Read.f
 repeat' first
   | (with_reducible exact ih0 _ _ _ _)
   | (with_reducible exact spec_DnText.mono _ _)
   | (with_reducible exact spec_l02Cut.mono _ _)
   | (with_reducible exact spec_l02Rdn.mono _ _)
   | (with_reducible exact LeO.refl _)
   | (with_reducible exact LeO.none _)
   | (with_reducible refine LeO.ite ?_ ?_)
   | (with_reducible refine LeO.bind ?_ (fun _ => ?_))
   | exact ih0 _ _ _ _
   | exact spec_DnText.mono _ _
   | exact spec_l02Cut.mono _ _
   | exact spec_l02Rdn.mono _ _
   | exact LeO.none _
   | refine LeO.ite ?_ ?_
   | refine LeO.bind ?_ (fun _ => ?_)
set_option maxHeartbeats 8000000 in
set_option maxRecDepth 100000 in
theorem spec_l02Read.calls (k : Nat) (a0 : ByteArray) (r1 : List (S126)) (r2 : Bool) (w : World) (h : spec_l02Read.f k a0 = some (r1, r2)) :
  Calls Tryd.prog 54 #[.string a0] w fun e w' => ∃ v0_ : Value, e = .returned (.tuple #[v0_, .bool r2]) ∧ Kd.R k126 126 w' w.heap.size (fun _ => True) v0_ r1 ∧ Below w.heap.size w w' := by
 have HB := Aside0.mk (Below.refl w.heap.size w)
 have H : ((some (([] : List (S126)) : List (S126))).bind fun y203 => (if a0.toList = ([] : List UInt8) then (some (y203, true)) else ((spec_l02Cut.f k a0).bind fun t206 => (spec_l02Read.l0 k a0 y203 t206 0)))) = some (r1, r2) := h
 clear h
 obtain ⟨y203, hy203⟩ : ∃ y_ : List (S126), y_ = (([] : List (S126))) := ⟨_, rfl⟩
 replace H : (if a0.toList = ([] : List UInt8) then (some (y203, true)) else ((spec_l02Cut.f k a0).bind fun t206 => (spec_l02Read.l0 k a0 y203 t206 0))) = some (r1, r2) := by first | (rw [hy203]; with_reducible exact H) | (have H2_ := (Option.bind_some _ _).symm.trans H; rw [hy203]; with_reducible exact H2_) | (have H2_ := (Option.bind_some _ _).symm.trans H; with_reducible exact H2_) | with_reducible exact H | (rw [hy203]; exact H) | exact H
 have Ny203 := Aside0.mk hy203
 clear hy203
 by_cases c2 : a0.toList = ([] : List UInt8)
 ·rw [if_pos c2] at H
  have c2b0 : (a0.toList == ([] : List UInt8)) = true := beq_iff_eq.mpr c2
  have c2b1 : (a0.toList != ([] : List UInt8)) = false := bne_eq_false_iff_eq.mpr c2
  clear c2
  simp only [Option.some.injEq, Prod.mk.injEq] at H
  obtain ⟨rfl, rfl⟩ := H
  go_enter Tryd.func54, Tryd.ntmps54
  go_wp2_with (first | ((with_reducible refine gate_dst (N := 7) rfl ?_); refine Kd.R_lit k126 _ 126 ?hg (N := 7) ?hd (xs := ([] : List (S126))) (inner := []) (ok := fun _ => True) (okp := fun _ => True) ?hr ?hp (fun _ hk => hk) trivial (Below.refl _ _) (Nat.le_refl _) (by simp) ?_; (case hd => rfl); (case hg => rfl); (case hr => first | (go_simp; done) | (go_simp; rfl)); (case hp => exact (Reps.none _ _)); intro v204 w3 ho4 hb hg_ hnew_; clear hg_ hnew_; (first | rw [← Ny203.out] at ho4 | (simp only [Int.reduceToNat] at ho4; rw [← Ny203.out] at ho4)); have n0_ := Aside0.mk (Kd.R_lower ho4 (below_size HBa)); have n1_ := Aside0.mk (below_step HBa hb); clear HB; have HO205 := n0_; have HB := n1_; clear n0_ n1_; clear hb ho4))
  go_ret2
  exact ⟨_, EZa, by (with_reducible repeat (first | apply Kd.R_alloc | apply Kd.R_drewN | apply Kd.R_drew)); exact HO205.out, HBa⟩
 rw [if_neg c2] at H
 have c2b0 : (a0.toList == ([] : List UInt8)) = false := beq_eq_false_iff_ne.mpr c2
 have c2b1 : (a0.toList != ([] : List UInt8)) = true := bne_iff_ne.mpr c2
 replace H := Option.bind_eq_some_iff.mp H
 obtain ⟨t206, A50, H⟩ := H
 replace H : (spec_l02Read.l0 k a0 y203 t206 0) = some (r1, r2) := H
 have A5 := Aside0.mk A50
 clear A50
 have H' := Aside0.mk H
 clear H
 go_enter Tryd.func54, Tryd.ntmps54
 go_wp2_with (first | ((with_reducible refine gate_dst (N := 7) rfl ?_); refine Kd.R_lit k126 _ 126 ?hg (N := 7) ?hd (xs := ([] : List (S126))) (inner := []) (ok := fun _ => True) (okp := fun _ => True) ?hr ?hp (fun _ hk => hk) trivial (Below.refl _ _) (Nat.le_refl _) (by simp) ?_; (case hd => rfl); (case hg => rfl); (case hr => first | (go_simp; done) | (go_simp; rfl)); (case hp => exact (Reps.none _ _)); intro v204 w6 ho7 hb hg_ hnew_; clear hg_ hnew_; (first | rw [← Ny203.out] at ho7 | (simp only [Int.reduceToNat] at ho7; rw [← Ny203.out] at ho7)); have n0_ := Aside0.mk (Kd.R_lower ho7 (below_size HBa)); have n1_ := Aside0.mk (below_step HBa hb); clear HB; have HO205 := n0_; have HB := n1_; clear n0_ n1_; clear hb ho7) | ((with_reducible refine gate_callee (f := 91) rfl ?_); refine goesL_ (some 12) rfl rfl Tryd.func91 (by kernel_rfl) rfl #[.string a0] rfl MPz ?_; (with_reducible refine (spec_l02Cut.calls k a0 t206 _ A5.out).mono ?_); rintro e w8 ⟨v207, rfl, ho0, hb⟩; refine ⟨_, rfl, ?_⟩; have n0_ := Aside0.mk (Kd.R_below (KRz HO205) hb); have n1_ := Aside0.mk (Kd.R_lower ho0 (below_size HBa)); have n2_ := Aside0.mk (below_step HBa hb); clear HO205; clear HB; have HO205 := n0_; have HO208 := n1_; have HB := n2_; clear n0_ n1_ n2_; (try clear hb); (try clear hb2); (try clear hk); (try clear hi); (try clear ho0)))
 (try simp only [Act.put, List.setIfInBounds_toArray, List.set_cons_zero, List.set_cons_succ])
 go_loopg [4, 6] k (fun kq v4 v6 w' => ∃ (x4_1 : List (S126)) (x6_1 : Int), v6 = .int .i64 x6_1 ∧ Aside0 (spec_l02Read.l0 kq a0 x4_1 t206 x6_1 = some (r1, r2)) ∧ Aside0 (kq ≤ k) ∧ Aside0 (Kd.R k126 126 w' w.heap.size (fun _ => True) v4 x4_1) ∧ Aside0 (Kd.R Kd.string 9 w' w.heap.size (fun _ => True) v207 t206) ∧ Aside0 (Below w.heap.size w w'))
 case atStart => exact ⟨(y203), (0), EZc, H', ⟨Nat.le_refl _⟩, ⟨by (with_reducible repeat (first | apply Kd.R_alloc | apply Kd.R_drewN | apply Kd.R_drew)); exact HO205.out⟩, ⟨by (with_reducible repeat (first | apply Kd.R_alloc | apply Kd.R_drewN | apply Kd.R_drew)); exact HO208.out⟩, ⟨HBa⟩⟩
 case round =>
  clear H'
  try clear c2
  try clear c2b0
  try clear c2b1
  try clear p2
  try clear c5
  obtain ⟨x4_1, x6_1, rfl, HA, HK1, HO_4, HO_5, HB⟩ := hrel
  cases gk with
  | zero => exact absurd HA.out (by simp [spec_l02Read.l0])
  | succ k1 =>
   have H := HA.out
   clear HA
   simp only [spec_l02Read.l0] at H
   by_cases c9 : x6_1 < (t206.length : Int)
   rotate_left
   ·rw [if_neg c9] at H
    have c9b0 : decide (x6_1 < (t206.length : Int)) = false := decide_eq_false c9
    clear c9
    replace H := Option.bind_eq_some_iff.mp H
    obtain ⟨t215, A160, H⟩ := H
    replace H : (some (x4_1, (t215.toList == a0.toList))) = some (r1, r2) := H
    have A16 := Aside0.mk A160
    clear A160
    simp only [Option.some.injEq, Prod.mk.injEq] at H
    obtain ⟨rfl, rfl⟩ := H
    obtain ⟨Ao17, co17, eo17⟩ := Kd.R_slice HO_5.out
    subst eo17
    obtain ⟨Ao18, co18, eo18⟩ := Kd.R_slice HO_4.out
    subst eo18
    go_wp2_with (first | ((with_reducible refine gate_callee (f := 93) rfl ?_); refine goesL_ (some 29) rfl rfl Tryd.func93 (by kernel_rfl) rfl #[.slice Ao18 x4_1.length co18] rfl MPz ?_; (with_reducible refine (spec_DnText.calls k1 _ _ x4_1 t215 _ ?side1 ?side2 A16.out).mono ?_); (case side1 => repeat (first | exact (Kd.R_reads' HO_4.out).2.2 | (with_reducible refine Kd.C_alloc ?_ _) | (with_reducible refine Kd.C_drewN ?_ _) | (with_reducible refine Kd.C_drew ?_))); (case side2 => exact (Kd.R_reads' HO_4.out).2.1); rintro e w19 ⟨rfl, hb⟩; refine ⟨_, rfl, ?_⟩; have n0_ := Aside0.mk (Kd.R_below (KRz HO_4) hb); have n1_ := Aside0.mk (Kd.R_below (KRz HO_5) hb); have n2_ := Aside0.mk (below_step HBa hb); clear HO_4; clear HO_5; clear HB; have HO_4 := n0_; have HO_5 := n1_; have HB := n2_; clear n0_ n1_ n2_; (try clear hb); (try clear hb2); (try clear hk); (try clear hi)))
    go_ret2
    exact ⟨_, EZa, by (with_reducible repeat (first | apply Kd.R_alloc | apply Kd.R_drewN | apply Kd.R_drew)); exact HO_4.out, HBa⟩
   rw [if_pos c9] at H
   have c9b0 : decide (x6_1 < (t206.length : Int)) = true := decide_eq_true c9
   clear c9
   by_cases c10 : 0 ≤ x6_1
   rotate_left
   ·rw [if_neg c10] at H
    exact absurd H (by simp)
   rw [if_pos c10] at H
   have c10b0 : decide (0 ≤ x6_1) = true := decide_eq_true c10
   clear c10
   replace H := Option.bind_eq_some_iff.mp H
   obtain ⟨⟨t210, t211⟩, A110, H⟩ := H
   replace H : (if x4_1.length < 4398046511104 then (spec_l02Read.l0 k1 a0 (x4_1 ++ [(⟨t210, t211⟩ : S126)]) t206 (wrap64 (x6_1 + 1))) else (none)) = some (r1, r2) := H
   have A11 := Aside0.mk A110
   clear A110
   by_cases c12 : x4_1.length < 4398046511104
   rotate_left
   ·rw [if_neg c12] at H
    exact absurd H (by simp)
   rw [if_pos c12] at H
   have LMc12 := Aside0.mk c12
   clear c12
   obtain ⟨y212, hy212⟩ : ∃ y_ : List (S126), y_ = (x4_1 ++ [(⟨t210, t211⟩ : S126)]) := ⟨_, rfl⟩
   replace H : (spec_l02Read.l0 k1 a0 y212 t206 (wrap64 (x6_1 + 1))) = some (r1, r2) := by first | (rw [hy212]; with_reducible exact H) | (have H2_ := (Option.bind_some _ _).symm.trans H; rw [hy212]; with_reducible exact H2_) | (have H2_ := (Option.bind_some _ _).symm.trans H; with_reducible exact H2_) | with_reducible exact H | (rw [hy212]; exact H) | exact H
   have Ny212 := Aside0.mk hy212
   clear hy212
   have H' := Aside0.mk H
   clear H
   obtain ⟨Ao13, co13, eo13⟩ := Kd.R_slice HO_5.out
   subst eo13
   have p209 : 0 ≤ (x6_1 : Int) := ODz
   have q209 : x6_1 < (t206.length : Int) := ODz
   obtain ⟨ad209, e209, hx209_0⟩ := Kd.at_string (Kd.R_reads' HO_5.out).2.2 x6_1 p209 q209
   cases e209
   replace p209 := eq_true p209
   replace q209 := eq_true q209
   go_wp2_with (first | ((with_reducible refine gate_callee (f := 92) rfl ?_); refine goesL_ (some 24) rfl rfl Tryd.func92 (by kernel_rfl) rfl #[.string (rdOf ByteArray.empty t206 x6_1)] rfl MPz ?_; (with_reducible refine (spec_l02Rdn.calls k1 (rdOf ByteArray.empty t206 x6_1) t210 t211 _ A11.out).mono ?_); rintro e w14 ⟨rfl, hb⟩; refine ⟨_, rfl, ?_⟩; have n0_ := Aside0.mk (Kd.R_below (KRz HO_4) hb); have n1_ := Aside0.mk (Kd.R_below (KRz HO_5) hb); have n2_ := Aside0.mk (below_step HBa hb); clear HO_4; clear HO_5; clear HB; have HO_4 := n0_; have HO_5 := n1_; have HB := n2_; clear n0_ n1_ n2_; (try clear hb); (try clear hb2); (try clear hk); (try clear hi)) | ((with_reducible refine gate_builtin (b := .append) (xs := #[.tmp 19, .tmp 25]) rfl ?_); at_builtin; refine Kd.R_append k126 (w0 := w) w.heap.size rfl (.tmp 19) (.tmp 25) 78 126 (.agg #[(.string ⟨#[]⟩), (.string ⟨#[]⟩)]) 32 rfl Tryd.underlying78 info126 rfl (by decide) (by omega) u4 x4_1 (⟨t210, t211⟩ : S126) [.string t210, .string t211] (fun _ => True) (fun _ => False) rfl rfl ?aP (fun _ hk => hk.elim) ?aF ?aO ?aB ?aS ?aL ?_; (case aP => exact k126_mkM _ _ _ (⟨t210, t211⟩ : S126)); (case aB => exact HBa); (case aF => exact (fun _ _ => trivial)); (case aO => exact (KRz HO_4)); (case aS => exact (below_size HBa)); (case aL => have := LMc12.out; omega); intro v213 w15 ho hb hg hat; rw [← Ny212.out] at ho; have n0_ := Aside0.mk (Kd.R_over' (KRz HO_5) (Kd.R_typed (KRz HO_4)) (by decide) hg); have n1_ := Aside0.mk (hb); have n2_ := Aside0.mk (ho); clear HO_5; clear HB; clear HO_4; have HO_5 := n0_; have HB := n1_; have HO214 := n2_; clear n0_ n1_ n2_; clear ho hb hg hat))
   go_roundg k1
   case measure => have := HK1.out; omega
   case rel => exact ⟨(y212), (wrap64 (x6_1 + 1)), EZc, H', ⟨by have := HK1.out; omega⟩, ⟨by (with_reducible repeat (first | apply Kd.R_alloc | apply Kd.R_drewN | apply Kd.R_drew)); exact HO214.out⟩, ⟨by (with_reducible repeat (first | apply Kd.R_alloc | apply Kd.R_drewN | apply Kd.R_drew)); exact HO_5.out⟩, ⟨HBa⟩⟩
def spec_l08None.f (l0_0 : List (S126)) (l0_1 : List (S111)) : Option (Bool) := if (l0_0.length : Int) = 0 then (some ((l0_1.length : Int) == 0)) else (some false)
set_option maxHeartbeats 8000000 in
set_option maxRecDepth 100000 in
theorem spec_l08None.calls (A0_0 : Option Addr) (c0_0 : Nat) (l0_0 : List (S126)) (A0_1 : Option Addr) (c0_1 : Nat) (l0_1 : List (S111)) (r : Bool) (w : World) (hr0_0 : Kd.C k126 w A0_0 l0_0.length l0_0) (hc0_0 : l0_0.length ≤ c0_0) (hr0_1 : Kd.C k111 w A0_1 l0_1.length l0_1) (hc0_1 : l0_1.length ≤ c0_1) (h : spec_l08None.f l0_0 l0_1 = some r) :
  Calls Tryd.prog 95 #[.agg #[.slice A0_0 l0_0.length c0_0, .slice A0_1 l0_1.length c0_1]] w fun e w' => e = .returned (.bool r) ∧ Below w.heap.size w w' := by
 have hu81 := Tryd.underlying81
 have HR0_0 := Aside0.mk hr0_0
 have HC0_0 := Aside0.mk hc0_0
 clear hr0_0 hc0_0
 have HR0_1 := Aside0.mk hr0_1
 have HC0_1 := Aside0.mk hc0_1
 clear hr0_1 hc0_1
 have HB := Aside0.mk (Below.refl w.heap.size w)
 have H : (if (l0_0.length : Int) = 0 then (some ((l0_1.length : Int) == 0)) else (some false)) = some r := h
 clear h
 by_cases c2 : (l0_0.length : Int) = 0
 ·rw [if_pos c2] at H
  have c2b0 : ((l0_0.length : Int) == 0) = true := beq_iff_eq.mpr c2
  have c2b1 : ((l0_0.length : Int) != 0) = false := bne_eq_false_iff_eq.mpr c2
  clear c2
  obtain rfl := Option.some.inj H
  go_enter Tryd.func95, Tryd.ntmps95
  go_wp2_with (first | ((with_reducible refine gate_dst (N := 1) rfl ?_); (try (refine gate_guard (by rfl) ?_; dsimp only)); refine box_event ?hg (N := 1) ?hd (cs := #[.slice A0_0 l0_0.length c0_0, .slice A0_1 l0_1.length c0_1]) (t := 81) ?hr ?_; (case hd => rfl); (case hg => rfl); (case hr => first | (go_simp; done) | (go_simp; rfl)); intro gb216 hg w3 hbox hb; have n0_ := Aside0.mk (below_step HBa hb); have n1_ := Aside0.mk (hbox); have n2_ := BSz w hg HBa; have n3_ := BSz w hg HBa; clear HB; have HB := n0_; have BK216 := n1_; have GW216 := n2_; have GE216 := n3_; clear n0_ n1_ n2_ n3_; clear hb hbox hg; have hcz4_0 := C1z BK216; have hcz4_1 := C2z BK216; have hfz4_0 := blk_frozen BK216.out 0; have hfz4_1 := blk_frozen BK216.out 1))
  go_ret
  exact ⟨EZa, HBb GE216⟩
 rw [if_neg c2] at H
 have c2b0 : ((l0_0.length : Int) == 0) = false := beq_eq_false_iff_ne.mpr c2
 have c2b1 : ((l0_0.length : Int) != 0) = true := bne_iff_ne.mpr c2
 have c2b2 : ¬ (l0_0 = []) := fun h_ => c2 (by rw [h_]; rfl)
 obtain rfl := Option.some.inj H
 go_enter Tryd.func95, Tryd.ntmps95
 go_wp2_with (first | ((with_reducible refine gate_dst (N := 1) rfl ?_); (try (refine gate_guard (by rfl) ?_; dsimp only)); refine box_event ?hg (N := 1) ?hd (cs := #[.slice A0_0 l0_0.length c0_0, .slice A0_1 l0_1.length c0_1]) (t := 81) ?hr ?_; (case hd => rfl); (case hg => rfl); (case hr => first | (go_simp; done) | (go_simp; rfl)); intro gb216 hg w5 hbox hb; have n0_ := Aside0.mk (below_step HBa hb); have n1_ := Aside0.mk (hbox); have n2_ := BSz w hg HBa; have n3_ := BSz w hg HBa; clear HB; have HB := n0_; have BK216 := n1_; have GW216 := n2_; have GE216 := n3_; clear n0_ n1_ n2_ n3_; clear hb hbox hg; have hcz6_0 := C1z BK216; have hcz6_1 := C2z BK216; have hfz6_0 := blk_frozen BK216.out 0; have hfz6_1 := blk_frozen BK216.out 1))
 go_ret
 exact ⟨EZa, HBb GE216⟩
end Go.Proofs.YtgkjlfimjnhbbaaDoor.PFnExactChangesRight
