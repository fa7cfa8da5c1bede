import Derived.Test.YtmkeigielncpjaaGreatDoorQFnAclx0
import Derived.Test.YtmkeigielncpjaaGreatDoorQFnAclx1
import Derived.Test.YtmkeigielncpjaaGreatDoorQFnAclx3
import Derived.Test.YtmkeigielncpjaaGreatDoorQFnAclx5
import Derived.Test.YtmkeigielncpjaaGreatDoorQFnAclx6
namespace Go.Proofs.YtmkeigielncpjaaGreatDoor.PFnAcl
open Go.RowKit Go.Proofs.YtmkeigielncpjaaGreatDoorW.PrintWords Go.Proofs.YtmkeigielncpjaaGreatDoorW.PrintLast Go.Proofs.YtmkeigielncpjaaGreatDoorW.PrintMore
set_option maxRecDepth 100000
set_option maxHeartbeats 16000000
attribute [local go_sem] max2_int min2_int max_two min_two max_three min_three max_four min_four
set_option linter.unusedVariables false
set_option linter.unusedSimpArgs false
def Gs.f (k : Nat) (l0 : List (S96)) (l1 : List (S96)) : Option (Bool) := if (l0.length : Int) = (l1.length : Int) then ((Gr.f k l0).bind fun t231 => ((Gr.f k l1).bind fun t232 => (some (t231.toList == t232.toList)))) else (some false)
theorem Gs.mono : ∀ a0 a1 k, LeO (Gs.f k a0 a1) (Gs.f (k + 1) a0 a1) := by
 intro a0 a1 k
 unfold Gs.f
 with_reducible repeat' first | exact Gr.mono _ _ | exact LeO.refl _ | exact LeO.none _ | refine LeO.ite ?_ ?_ | refine LeO.bind ?_ (fun _ => ?_)
theorem Gs.calls (k : Nat) (A0 : Option Addr) (c0 : Nat) (l0 : List (S96)) (A1 : Option Addr) (c1 : Nat) (l1 : List (S96)) (r : Bool) (w : World) (hr0 : Kd.C k96 w A0 l0.length l0) (hc0 : l0.length ≤ c0) (hr1 : Kd.C k96 w A1 l1.length l1) (hc1 : l1.length ≤ c1) (h : Gs.f k l0 l1 = some r) :
  Calls Tryz.prog 140 #[.slice A0 l0.length c0, .slice A1 l1.length c1] w fun e w' => e = .returned (.bool r) ∧ Below w.heap.size w w' := by
 have HR0 := Aside0.mk hr0
 have HC0 := Aside0.mk hc0
 clear hr0 hc0
 have HR1 := Aside0.mk hr1
 have HC1 := Aside0.mk hc1
 clear hr1 hc1
 have HB := Aside0.mk (Below.refl w.heap.size w)
 have H : (if (l0.length : Int) = (l1.length : Int) then ((Gr.f k l0).bind fun t231 => ((Gr.f k l1).bind fun t232 => (some (t231.toList == t232.toList)))) else (some false)) = some r := h
 clear h
 by_cases c3 : (l0.length : Int) = (l1.length : Int)
 rotate_left
 ·rw [if_neg c3] at H
  obtain ⟨c3b0, c3b1⟩ := QFz c3
  have c3b2 : (l0.length == l1.length) = false := by first | simpa using c3 | (simp at c3 ⊢; omega)
  obtain rfl := Option.some.inj H
  clear H
  go_enter Tryz.func140, Tryz.ntmps140
  go_wp2
  go_ret
  exact ⟨EZa, HBa⟩
 rw [if_pos c3] at H
 obtain ⟨c3b0, c3b1⟩ := QTz c3
 have c3b2 : (l0.length == l1.length) = true := by first | simpa using c3 | (simp at c3 ⊢; omega)
 clear c3
 replace H := Option.bind_eq_some_iff.mp H
 obtain ⟨t231, A40, H⟩ := H
 replace H : ((Gr.f k l1).bind fun t232 => (some (t231.toList == t232.toList))) = some r := H
 have A4 := Aside0.mk A40
 clear A40
 replace H := Option.bind_eq_some_iff.mp H
 obtain ⟨t232, A50, H⟩ := H
 replace H : (some (t231.toList == t232.toList)) = some r := H
 have A5 := Aside0.mk A50
 clear A50
 obtain rfl := Option.some.inj H
 clear H
 go_enter Tryz.func140, Tryz.ntmps140
 go_wp2_with (first | (go_at_call 168; (with_reducible refine (Gr.calls k _ _ l0 t231 _ ?side1 ?side2 A4.out).mono ?_); (case side1 => exact KCz HR0.out); (case side2 => exact HC0.out); rintro e w6 ⟨rfl, hb⟩; have n0_ := Aside0.mk (below_step HBa hb); clear HB; have HB := n0_; clear n0_; (try clear hb); (try clear hb2); (try clear hk); (try clear hi)) | (go_at_call 168; (with_reducible refine (Gr.calls k _ _ l1 t232 _ ?side1 ?side2 A5.out).mono ?_); (case side1 => exact KCz (Kd.C_below HR1.out HB.out)); (case side2 => exact HC1.out); rintro e w7 ⟨rfl, hb⟩; have n0_ := Aside0.mk (below_step HBa hb); clear HB; have HB := n0_; clear n0_; (try clear hb); (try clear hb2); (try clear hk); (try clear hi)))
 go_ret
 exact ⟨EZa, HBa⟩
def Gt.f (k : Nat) (l0 : List (S96)) (l1 : List (S96)) : Option (Bool) := if (l0.length : Int) ≥ (l1.length : Int) then (if 0 ≤ (wrap64 ((l0.length : Int) - (l1.length : Int))) then (if (wrap64 ((l0.length : Int) - (l1.length : Int))) ≤ (l0.length : Int) then ((Gs.f k (l0.drop ((wrap64 ((l0.length : Int) - (l1.length : Int))) : Int).toNat) l1).bind fun t237 => (some t237)) else (none)) else (none)) else (some false)
theorem Gt.mono : ∀ a0 a1 k, LeO (Gt.f k a0 a1) (Gt.f (k + 1) a0 a1) := by
 intro a0 a1 k
 unfold Gt.f
 with_reducible repeat' first | exact Gs.mono _ _ _ | exact LeO.refl _ | exact LeO.none _ | refine LeO.ite ?_ ?_ | refine LeO.bind ?_ (fun _ => ?_)
theorem Gt.calls (k : Nat) (A0 : Option Addr) (c0 : Nat) (l0 : List (S96)) (A1 : Option Addr) (c1 : Nat) (l1 : List (S96)) (r : Bool) (w : World) (hr0 : Kd.C k96 w A0 l0.length l0) (hc0 : l0.length ≤ c0) (hr1 : Kd.C k96 w A1 l1.length l1) (hc1 : l1.length ≤ c1) (h : Gt.f k l0 l1 = some r) :
  Calls Tryz.prog 101 #[.slice A0 l0.length c0, .slice A1 l1.length c1] w fun e w' => e = .returned (.bool r) ∧ Below w.heap.size w w' := by
 have HR0 := Aside0.mk hr0
 have HC0 := Aside0.mk hc0
 clear hr0 hc0
 have HR1 := Aside0.mk hr1
 have HC1 := Aside0.mk hc1
 clear hr1 hc1
 have HB := Aside0.mk (Below.refl w.heap.size w)
 have H : (if (l0.length : Int) ≥ (l1.length : Int) then (if 0 ≤ (wrap64 ((l0.length : Int) - (l1.length : Int))) then (if (wrap64 ((l0.length : Int) - (l1.length : Int))) ≤ (l0.length : Int) then ((Gs.f k (l0.drop ((wrap64 ((l0.length : Int) - (l1.length : Int))) : Int).toNat) l1).bind fun t237 => (some t237)) else (none)) else (none)) else (some false)) = some r := h
 clear h
 by_cases c3 : (l0.length : Int) ≥ (l1.length : Int)
 rotate_left
 ·rw [if_neg c3] at H
  have c3b0 : decide ((l1.length : Int) ≤ (l0.length : Int)) = false := decide_eq_false c3
  have c3b1 : decide (l1.length ≤ l0.length) = false := decide_eq_false (fun h => c3 (Int.ofNat_le.mpr h))
  clear c3
  obtain rfl := Option.some.inj H
  clear H
  go_enter Tryz.func101, Tryz.ntmps101
  go_wp2
  go_ret
  exact ⟨EZa, HBa⟩
 rw [if_pos c3] at H
 have c3b0 : decide ((l1.length : Int) ≤ (l0.length : Int)) = true := decide_eq_true c3
 have c3b1 : decide (l1.length ≤ l0.length) = true := decide_eq_true (Int.ofNat_le.mp c3)
 clear c3
 obtain ⟨ji4, hji4⟩ : ∃ j_ : Int, (wrap64 ((l0.length : Int) - (l1.length : Int))) = j_ := ⟨_, rfl⟩
 replace H : (if 0 ≤ (ji4) then (if (ji4) ≤ (l0.length : Int) then ((Gs.f k (l0.drop ((ji4) : Int).toNat) l1).bind fun t237 => (some t237)) else (none)) else (none)) = some r := by first | (rw [hji4] at H; exact H) | (simp only [hji4] at H ⊢; exact H)
 have hji4w : (IntKind.i64.wrap ((l0.length : Int) - (l1.length : Int))) = ji4 := (i64_w _).trans hji4
 by_cases c5 : 0 ≤ (ji4)
 rotate_left
 ·rw [if_neg c5] at H
  exact absurd H (by simp)
 rw [if_pos c5] at H
 have c5b0 := eq_true c5
 have c5b1 := decide_eq_true c5
 clear c5
 by_cases c6 : (ji4) ≤ (l0.length : Int)
 rotate_left
 ·rw [if_neg c6] at H
  exact absurd H (by simp)
 rw [if_pos c6] at H
 have c6b0 := eq_true c6
 have c6b1 := decide_eq_true c6
 clear c6
 obtain ⟨y233, hy233⟩ : ∃ y_ : List (S96), y_ = (l0.drop ((ji4) : Int).toNat) := ⟨_, rfl⟩
 replace H : ((Gs.f k y233 l1).bind fun t237 => (some t237)) = some r := by first | (rw [hy233]; with_reducible exact H) | (have H2_ := (Option.bind_some _ _).symm.trans H; rw [hy233]; with_reducible exact H2_) | (have H2_ := (Option.bind_some _ _).symm.trans H; with_reducible exact H2_) | with_reducible exact H | (rw [hy233]; exact H) | exact H
 have Ny233 := Aside0.mk hy233
 clear hy233
 replace H := Option.bind_eq_some_iff.mp H
 obtain ⟨t237, A70, H⟩ := H
 replace H : (some t237) = some r := H
 have A7 := Aside0.mk A70
 clear A70
 obtain rfl := Option.some.inj H
 clear H
 have q8 : ((ji4) : Int) ≤ ((l0.length : Int) : Int) := ODz
 obtain ⟨i08, hi08, _, hsz8, _⟩ := info_parts info96
 have hroom8 : l0.length ≤ c0 := HC0.out
 have hC8 : Kd.C k96 _ A0 l0.length l0 := HR0.out
 have q08 : (0 : Int) ≤ ((ji4) : Int) := ODz
 have hcut8 := cut_from (P := Tryz.prog) 44 96 .i64 Tryz.underlying44 hi08 2 hsz8 A0 l0.length c0 (ji4) q08 q8
 have hr8 := Kd.C_drop (m := ((ji4) : Int).toNat) (c := c0) hC8 (by omega) hroom8
 obtain ⟨A8, hA8⟩ : ∃ A1, A1 = (if c0 = ((ji4) : Int).toNat then A0 else (A0 : Option Addr).map (·.add (((ji4) : Int).toNat * 2))) := ⟨_, rfl⟩
 obtain ⟨c8, hc8⟩ : ∃ c1, c1 = c0 - ((ji4) : Int).toNat := ⟨_, rfl⟩
 have hy8 : y233.length = l0.length - ((ji4) : Int).toNat := (by rw [Ny233.out, List.length_drop] <;> omega)
 rw [show (l0).drop ((ji4) : Int).toNat = y233 from Ny233.out.symm] at hr8
 replace hr8 : Kd.C k96 _ A8 y233.length y233 := (by rw [hA8]; exact hr8)
 rw [← hy8, ← hA8, ← hc8] at hcut8
 have HR236 := Aside0.mk hr8
 have HC236 := Aside0.mk (show y233.length ≤ c8 from by rw [hy8, hc8]; exact Nat.sub_le_sub_right hroom8 _)
 clear hr8 hC8 hroom8 hi08 hsz8 hc8
 have KY8 := Aside0.mk hy8
 have KA8 := Aside0.mk hA8
 clear hy8 hA8
 replace q8 := eq_true q8
 go_enter Tryz.func101, Tryz.ntmps101
 go_wp2_with (first | (go_at_call 140; (with_reducible refine (Gs.calls k _ _ y233 _ _ l1 t237 _ ?side1 ?side2 ?side3 ?side4 A7.out).mono ?_); (case side1 => exact KCz HR236.out); (case side2 => exact HC236.out); (case side3 => exact KCz HR1.out); (case side4 => exact HC1.out); rintro e w9 ⟨rfl, hb⟩; have n0_ := Aside0.mk (below_step HBa hb); clear HB; have HB := n0_; clear n0_; (try clear hb); (try clear hb2); (try clear hk); (try clear hi)))
 go_ret
 exact ⟨by first | rfl | (simp only [bne_nil_, beq_nil_]; rfl) | (simp [errW_none, errW_some] <;> rfl) | (simp only [← hji4]; first | rfl | (simp [errW_none, errW_some] <;> rfl)) | (simp [*, errW_none, errW_some] <;> rfl), HBa⟩
def Qg.l0 : Nat → List ByteArray → ByteArray → Int → Int → Option (Int)
 | 0, _, _, _, _ => none
 | k + 1, x0, x1, x7, x8 => if x8 < x7 then (if 0 ≤ x8 then (if x8 < (x0.length : Int) then (if x1.toList = (rdOf ByteArray.empty x0 x8).toList then (some x8) else (Qg.l0 k x0 x1 x7 (wrap64 (x8 + 1)))) else (none)) else (none)) else (some (-1))
def Qg.f (k : Nat) (l0 : List ByteArray) (a1 : ByteArray) : Option (Int) := Qg.l0 k l0 a1 (l0.length : Int) 0
theorem Qg.mono_l : ∀ k, (∀ y0 y1 y2 y3, LeO (Qg.l0 k y0 y1 y2 y3) (Qg.l0 (k + 1) y0 y1 y2 y3))
 | 0 => fun _ _ _ _ r h => by simp [Qg.l0] at h
 | k + 1 => by
  have ih0 := Qg.mono_l k
  ·intro y0 y1 y2 y3
   unfold Qg.l0
   with_reducible repeat' first | exact ih0 _ _ _ _ | exact LeO.refl _ | exact LeO.none _ | refine LeO.ite ?_ ?_ | refine LeO.bind ?_ (fun _ => ?_)
theorem Qg.mono : ∀ a0 a1 k, LeO (Qg.f k a0 a1) (Qg.f (k + 1) a0 a1) := by
 intro a0 a1 k
 have ih0 := Qg.mono_l k
 unfold Qg.f
 with_reducible repeat' first | exact ih0 _ _ _ _ | exact LeO.refl _ | exact LeO.none _ | refine LeO.ite ?_ ?_ | refine LeO.bind ?_ (fun _ => ?_)
theorem Qg.calls (k : Nat) (A0 : Option Addr) (c0 : Nat) (l0 : List ByteArray) (a1 : ByteArray) (r : Int) (w : World) (hr0 : Kd.C Kd.string w A0 l0.length l0) (hc0 : l0.length ≤ c0) (h : Qg.f k l0 a1 = some r) :
  Calls Tryz.prog 141 #[.slice A0 l0.length c0, .string a1] w fun e w' => e = .returned (.int .i64 r) ∧ Drawn0 w w' := by
 have HR0 := Aside0.mk hr0
 have HC0 := Aside0.mk hc0
 clear hr0 hc0
 have H : (Qg.l0 k l0 a1 (l0.length : Int) 0) = some r := h
 clear h
 have H' := Aside0.mk H
 clear H
 go_enter Tryz.func141, Tryz.ntmps141
 go_wp2
 go_loopg [8] k (fun kq v8 w' => ∃ (x8_1 : Int), v8 = .int .i64 x8_1 ∧ Aside0 (Qg.l0 kq l0 a1 (l0.length : Int) x8_1 = some r) ∧ Aside0 (kq ≤ k) ∧ Drawn0 w w')
 case atStart => exact ⟨(0), EZc, H', ⟨Nat.le_refl _⟩, DRz⟩
 case round =>
  clear H'
  obtain ⟨x8_1, rfl, HA, HK1, ⟨m1, rfl⟩⟩ := hrel
  cases gk with
  | zero => exact absurd HA.out (by simp [Qg.l0])
  | succ k1 =>
   have H := HA.out
   clear HA
   simp only [Qg.l0] at H
   by_cases c3 : x8_1 < (l0.length : Int)
   rotate_left
   ·rw [if_neg c3] at H
    have c3b0 := decide_eq_false c3
    clear c3
    obtain rfl := Option.some.inj H
    clear H
    go_wp2
    go_ret
    exact ⟨EZb, DRz⟩
   rw [if_pos c3] at H
   have c3b0 := decide_eq_true c3
   clear c3
   by_cases c4 : 0 ≤ x8_1
   rotate_left
   ·rw [if_neg c4] at H
    exact absurd H (by simp)
   rw [if_pos c4] at H
   have c4b0 := decide_eq_true c4
   clear c4
   by_cases c5 : x8_1 < (l0.length : Int)
   rotate_left
   ·rw [if_neg c5] at H
    exact absurd H (by simp)
   rw [if_pos c5] at H
   have c5b0 := decide_eq_true c5
   clear c5
   by_cases c6 : a1.toList = (rdOf ByteArray.empty l0 x8_1).toList
   ·rw [if_pos c6] at H
    obtain ⟨c6b0, c6b1⟩ := QTz c6
    clear c6
    obtain rfl := Option.some.inj H
    clear H
    have p238 : 0 ≤ (x8_1 : Int) := ODz
    have q238 : x8_1 < (l0.length : Int) := ODz
    obtain ⟨ad238, e238, hx238_0⟩ := Kd.at_string HR0.out x8_1 p238 q238
    cases e238
    replace p238 := eq_true p238
    replace q238 := eq_true q238
    go_wp2
    go_ret
    exact ⟨EZb, DRz⟩
   rw [if_neg c6] at H
   obtain ⟨c6b0, c6b1⟩ := QFz c6
   have H' := Aside0.mk H
   clear H
   have p238 : 0 ≤ (x8_1 : Int) := ODz
   have q238 : x8_1 < (l0.length : Int) := ODz
   obtain ⟨ad238, e238, hx238_0⟩ := Kd.at_string HR0.out x8_1 p238 q238
   cases e238
   replace p238 := eq_true p238
   replace q238 := eq_true q238
   go_wp2
   go_roundg k1
   case measure => have := HK1.out; omega
   case rel => exact ⟨(wrap64 (x8_1 + 1)), EZc, H', ⟨by have := HK1.out; omega⟩, DRz⟩
def Qf.f (k : Nat) (l0 : List ByteArray) (a1 : ByteArray) : Option (Bool) := (Qg.f k l0 a1).bind fun t239 => (some (decide (t239 ≥ 0)))
theorem Qf.mono : ∀ a0 a1 k, LeO (Qf.f k a0 a1) (Qf.f (k + 1) a0 a1) := by
 intro a0 a1 k
 unfold Qf.f
 with_reducible repeat' first | exact Qg.mono _ _ _ | exact LeO.refl _ | exact LeO.none _ | refine LeO.ite ?_ ?_ | refine LeO.bind ?_ (fun _ => ?_)
theorem Qf.calls (k : Nat) (A0 : Option Addr) (c0 : Nat) (l0 : List ByteArray) (a1 : ByteArray) (r : Bool) (w : World) (hr0 : Kd.C Kd.string w A0 l0.length l0) (hc0 : l0.length ≤ c0) (h : Qf.f k l0 a1 = some r) :
  Calls Tryz.prog 102 #[.slice A0 l0.length c0, .string a1] w fun e w' => e = .returned (.bool r) ∧ Drawn0 w w' := by
 have HR0 := Aside0.mk hr0
 have HC0 := Aside0.mk hc0
 clear hr0 hc0
 have H : ((Qg.f k l0 a1).bind fun t239 => (some (decide (t239 ≥ 0)))) = some r := h
 clear h
 replace H := Option.bind_eq_some_iff.mp H
 obtain ⟨t239, A30, H⟩ := H
 replace H : (some (decide (t239 ≥ 0))) = some r := H
 have A3 := Aside0.mk A30
 clear A30
 obtain rfl := Option.some.inj H
 clear H
 go_enter Tryz.func102, Tryz.ntmps102
 go_wp2_with (first | ((with_reducible refine gate_callee (f := 141) rfl ?_); refine goesL_ (some 7) rfl rfl Tryz.func141 (by kernel_rfl) rfl #[.slice A0 l0.length c0, .string a1] rfl MPz ?_; (with_reducible refine (Qg.calls k _ _ l0 a1 t239 _ ?side1 ?side2 A3.out).mono ?_); (case side1 => exact KCz HR0.out); (case side2 => exact HC0.out); rintro e w' ⟨rfl, ⟨nd, rfl⟩⟩; refine ⟨_, rfl, ?_⟩))
 go_ret
 exact ⟨EZb, DRz⟩
def Gm.clo2 (k : Nat) (attr : ByteArray) (right : Int) (ld l1 : List (S96)) (l2 : List ByteArray) (a3 : Int) : Option Bool :=
 (Gt.f k ld l1).bind fun t => if t = true then (if a3 = right then (if (l2.length : Int) = 0 then some true else Qf.f k l2 attr) else some false) else some false
def Gm.clo (k : Nat) (who attr : ByteArray) (right : Int) (ld : List (S96)) (a0 : ByteArray) (l1 : List (S96)) (l2 : List ByteArray) (a3 : Int) : Option Bool :=
 if a0.toList = ([42] : List UInt8) then Gm.clo2 k attr right ld l1 l2 a3 else if a0.toList = who.toList then Gm.clo2 k attr right ld l1 l2 a3 else some false
def Gm.ix (k : Nat) (who attr : ByteArray) (right : Int) (ld : List (S96)) : List S57 → Int → Option Int
 | [], _ => some (-1)
 | x :: xs, i => (Gm.clo k who attr right ld x.f0 x.f1 x.f2 x.f3).bind fun b => if b = true then some i else Gm.ix k who attr right ld xs (i + 1)
def Gm.f (k : Nat) (l0 : List (S57)) (a1 : ByteArray) (l2 : List (S96)) (a3 : ByteArray) (a4 : Int) : Option (Bool) :=
 (Gm.ix k a1 a3 a4 l2 l0 0).bind fun t => if 0 ≤ t then some (rd_T57 l0 t).f4 else some false
theorem Gm.mono_clo2 (k : Nat) (attr : ByteArray) (right : Int) (ld l1 : List (S96)) (l2 : List ByteArray) (a3 : Int) : LeO (Gm.clo2 k attr right ld l1 l2 a3) (Gm.clo2 (k + 1) attr right ld l1 l2 a3) :=
 LeO.bind (Gt.mono _ _ _) (fun _ => LeO.ite (LeO.ite (LeO.ite (LeO.refl _) (Qf.mono _ _ _)) (LeO.refl _)) (LeO.refl _))
theorem Gm.mono_clo (k : Nat) (who attr : ByteArray) (right : Int) (ld : List (S96)) (a0 : ByteArray) (l1 : List (S96)) (l2 : List ByteArray) (a3 : Int) : LeO (Gm.clo k who attr right ld a0 l1 l2 a3) (Gm.clo (k + 1) who attr right ld a0 l1 l2 a3) :=
 LeO.ite (Gm.mono_clo2 _ _ _ _ _ _ _) (LeO.ite (Gm.mono_clo2 _ _ _ _ _ _ _) (LeO.refl _))
theorem Gm.mono_ix (k : Nat) (who attr : ByteArray) (right : Int) (ld : List (S96)) : ∀ (l : List S57) (i : Int), LeO (Gm.ix k who attr right ld l i) (Gm.ix (k + 1) who attr right ld l i)
 | [], _ => LeO.refl _
 | x :: xs, i => LeO.bind (Gm.mono_clo _ _ _ _ _ _ _ _ _) (fun b => LeO.ite (LeO.refl _) (Gm.mono_ix k who attr right ld xs (i + 1)))
theorem Gm.mono : ∀ a0 a1 a2 a3 a4 k, LeO (Gm.f k a0 a1 a2 a3 a4) (Gm.f (k + 1) a0 a1 a2 a3 a4) := fun _ _ _ _ _ _ => LeO.bind (Gm.mono_ix _ _ _ _ _ _ _) (fun _ => LeO.refl _)
theorem Gm.ix_lt (k : Nat) (who attr : ByteArray) (right : Int) (ld : List (S96)) : ∀ (l : List S57) (i : Int) (r : Int), 0 ≤ i → Gm.ix k who attr right ld l i = some r → r < 0 ∨ r < i + l.length
 | [], i, r, h0, h => by simp only [Gm.ix, Option.some.injEq] at h; omega
 | x :: xs, i, r, h0, h => by
  simp only [Gm.ix] at h
  obtain ⟨b, _, h⟩ := Option.bind_eq_some_iff.1 h
  cases b
  ·have := Gm.ix_lt k who attr right ld xs (i + 1) r (by omega) h
   simp only [List.length_cons]; omega
  ·simp at h; simp only [List.length_cons]; omega
theorem Gm.clo_calls (k n : Nat) (who attr : ByteArray) (right : Int) (Ad : Option Addr) (cd : Nat) (ld : List (S96)) (a0 : ByteArray) (A1 : Option Addr) (c1 : Nat) (l1 : List (S96)) (A2 : Option Addr) (c2 : Nat) (l2 : List ByteArray) (a3 : Int) (a4 : Bool) (r : Bool) (w : World) (hw : w.cell? ⟨n, 0, none⟩ = some (.string who)) (hd : w.cell? ⟨n + 1, 0, none⟩ = some (.slice Ad ld.length cd)) (ha : w.cell? ⟨n + 1 + 1, 0, none⟩ = some (.string attr)) (hr : w.cell? ⟨n + 1 + 1 + 1, 0, none⟩ = some (.int .i64 right)) (hrd : Kd.C k96 w Ad ld.length ld) (hcd : ld.length ≤ cd) (hr1 : Kd.C k96 w A1 l1.length l1) (hc1 : l1.length ≤ c1) (hr2 : Kd.C Kd.string w A2 l2.length l2) (hc2 : l2.length ≤ c2) (h : Gm.clo k who attr right ld a0 l1 l2 a3 = some r) :
  Calls Tryz.prog 100 #[.agg #[.string a0, .slice A1 l1.length c1, .slice A2 l2.length c2, .int .i64 a3, .bool a4], .pointer (some ⟨n, 0, none⟩), .pointer (some ⟨n + 1, 0, none⟩), .pointer (some ⟨n + 1 + 1 + 1, 0, none⟩), .pointer (some ⟨n + 1 + 1, 0, none⟩)] w fun e w' => e = .returned (.bool r) ∧ Below w.heap.size w w' := by
 have hu := Tryz.underlying57
 have Hw := Aside0.mk hw
 have Hd := Aside0.mk hd
 have Ha := Aside0.mk ha
 have Hr := Aside0.mk hr
 have HRD := Aside0.mk hrd
 have HCD := Aside0.mk hcd
 have HR1 := Aside0.mk hr1
 have HC1 := Aside0.mk hc1
 have HR2 := Aside0.mk hr2
 have HC2 := Aside0.mk hc2
 clear hw hd ha hr hrd hcd hr1 hc1 hr2 hc2
 have HB := Aside0.mk (Below.refl w.heap.size w)
 unfold Gm.clo at h
 by_cases ca : a0.toList = ([42] : List UInt8)
 ·rw [if_pos ca] at h
  have cab0 : (a0.toList == ([42] : List UInt8)) = true := beq_iff_eq.mpr ca
  have cab1 : (a0.toList != ([42] : List UInt8)) = false := bne_eq_false_iff_eq.mpr ca
  clear ca
  unfold Gm.clo2 at h
  obtain ⟨t, A60, h⟩ := Option.bind_eq_some_iff.1 h
  have A6 := Aside0.mk A60
  clear A60
  cases t with
  | false =>
   rw [if_neg (by decide)] at h
   obtain rfl := Option.some.inj h
   clear h
   go_enter Tryz.func100, Tryz.ntmps100
   go_wp2_with (first | ((with_reducible refine gate_dst (N := 5) rfl ?_); (try (refine gate_guard (by rfl) ?_; dsimp only)); refine box_event ?hg (N := 5) ?hd (cs := #[.string a0, .slice A1 l1.length c1, .slice A2 l2.length c2, .int .i64 a3, .bool a4]) (t := 57) ?hr ?_; (case hd => rfl); (case hg => rfl); (case hr => first | (go_simp; done) | (go_simp; rfl)); intro gb hg w9 hbox hb; have n0_ := Aside0.mk (below_step HB.out hb); have n1_ := Aside0.mk hbox; clear HB; have HB := n0_; have BK := n1_; clear n0_ n1_; clear hb hbox hg; have hcz0 := C1z BK; have hfz0 := blk_frozen BK.out 0; have hcz1 := C2z BK; have hfz1 := blk_frozen BK.out 1; have hcz2 := C3z BK; have hfz2 := blk_frozen BK.out 2; have hcz3 := C4z BK; have hfz3 := blk_frozen BK.out 3; have hcz4 := C5z BK; have hfz4 := blk_frozen BK.out 4; have hw_w9 : w9.cell? ⟨n, 0, none⟩ = some (.string who) := (HB.out.cell (World.block_lt_of_cell? w _ Hw.out)).trans Hw.out; have hd_w9 : w9.cell? ⟨n + 1, 0, none⟩ = some (.slice Ad ld.length cd) := (HB.out.cell (World.block_lt_of_cell? w _ Hd.out)).trans Hd.out; have ha_w9 : w9.cell? ⟨n + 1 + 1, 0, none⟩ = some (.string attr) := (HB.out.cell (World.block_lt_of_cell? w _ Ha.out)).trans Ha.out; have hr_w9 : w9.cell? ⟨n + 1 + 1 + 1, 0, none⟩ = some (.int .i64 right) := (HB.out.cell (World.block_lt_of_cell? w _ Hr.out)).trans Hr.out) | (go_at_call 101; (with_reducible refine (Gt.calls k _ _ ld _ _ l1 false _ ?side1 HCD.out ?side3 HC1.out A6.out).mono ?_); (case side1 => exact KCz (Kd.C_below HRD.out HB.out)); (case side3 => exact KCz (Kd.C_below HR1.out HB.out)); rintro e w15 ⟨rfl, hb⟩; have n0_ := Aside0.mk (blk_below (g := gb) (o := .cells #[.string a0, .slice A1 l1.length c1, .slice A2 l2.length c2, .int .i64 a3, .bool a4] 57 (0, 0)) BK.out hb); have n1_ := Aside0.mk (below_step HB.out hb); clear BK; clear HB; have BK := n0_; have HB := n1_; clear n0_ n1_; clear hb; have hcy0 := C1z BK; have hfy0 := blk_frozen BK.out 0; have hcy1 := C2z BK; have hfy1 := blk_frozen BK.out 1; have hcy2 := C3z BK; have hfy2 := blk_frozen BK.out 2; have hcy3 := C4z BK; have hfy3 := blk_frozen BK.out 3; have hcy4 := C5z BK; have hfy4 := blk_frozen BK.out 4; have hw_w15 : w15.cell? ⟨n, 0, none⟩ = some (.string who) := (HB.out.cell (World.block_lt_of_cell? w _ Hw.out)).trans Hw.out; have hd_w15 : w15.cell? ⟨n + 1, 0, none⟩ = some (.slice Ad ld.length cd) := (HB.out.cell (World.block_lt_of_cell? w _ Hd.out)).trans Hd.out; have ha_w15 : w15.cell? ⟨n + 1 + 1, 0, none⟩ = some (.string attr) := (HB.out.cell (World.block_lt_of_cell? w _ Ha.out)).trans Ha.out; have hr_w15 : w15.cell? ⟨n + 1 + 1 + 1, 0, none⟩ = some (.int .i64 right) := (HB.out.cell (World.block_lt_of_cell? w _ Hr.out)).trans Hr.out))
   go_ret
   exact ⟨by first | rfl | (simp [*]; done), HBa⟩
  | true =>
   rw [if_pos rfl] at h
   by_cases cr : a3 = right
   rotate_left
   ·rw [if_neg cr] at h
    obtain rfl := Option.some.inj h
    clear h
    have crb0 : (a3 == right) = false := beq_eq_false_iff_ne.mpr cr
    have crb1 : (a3 != right) = true := bne_iff_ne.mpr cr
    go_enter Tryz.func100, Tryz.ntmps100
    go_wp2_with (first | ((with_reducible refine gate_dst (N := 5) rfl ?_); (try (refine gate_guard (by rfl) ?_; dsimp only)); refine box_event ?hg (N := 5) ?hd (cs := #[.string a0, .slice A1 l1.length c1, .slice A2 l2.length c2, .int .i64 a3, .bool a4]) (t := 57) ?hr ?_; (case hd => rfl); (case hg => rfl); (case hr => first | (go_simp; done) | (go_simp; rfl)); intro gb hg w9 hbox hb; have n0_ := Aside0.mk (below_step HB.out hb); have n1_ := Aside0.mk hbox; clear HB; have HB := n0_; have BK := n1_; clear n0_ n1_; clear hb hbox hg; have hcz0 := C1z BK; have hfz0 := blk_frozen BK.out 0; have hcz1 := C2z BK; have hfz1 := blk_frozen BK.out 1; have hcz2 := C3z BK; have hfz2 := blk_frozen BK.out 2; have hcz3 := C4z BK; have hfz3 := blk_frozen BK.out 3; have hcz4 := C5z BK; have hfz4 := blk_frozen BK.out 4; have hw_w9 : w9.cell? ⟨n, 0, none⟩ = some (.string who) := (HB.out.cell (World.block_lt_of_cell? w _ Hw.out)).trans Hw.out; have hd_w9 : w9.cell? ⟨n + 1, 0, none⟩ = some (.slice Ad ld.length cd) := (HB.out.cell (World.block_lt_of_cell? w _ Hd.out)).trans Hd.out; have ha_w9 : w9.cell? ⟨n + 1 + 1, 0, none⟩ = some (.string attr) := (HB.out.cell (World.block_lt_of_cell? w _ Ha.out)).trans Ha.out; have hr_w9 : w9.cell? ⟨n + 1 + 1 + 1, 0, none⟩ = some (.int .i64 right) := (HB.out.cell (World.block_lt_of_cell? w _ Hr.out)).trans Hr.out) | (go_at_call 101; (with_reducible refine (Gt.calls k _ _ ld _ _ l1 true _ ?side1 HCD.out ?side3 HC1.out A6.out).mono ?_); (case side1 => exact KCz (Kd.C_below HRD.out HB.out)); (case side3 => exact KCz (Kd.C_below HR1.out HB.out)); rintro e w15 ⟨rfl, hb⟩; have n0_ := Aside0.mk (blk_below (g := gb) (o := .cells #[.string a0, .slice A1 l1.length c1, .slice A2 l2.length c2, .int .i64 a3, .bool a4] 57 (0, 0)) BK.out hb); have n1_ := Aside0.mk (below_step HB.out hb); clear BK; clear HB; have BK := n0_; have HB := n1_; clear n0_ n1_; clear hb; have hcy0 := C1z BK; have hfy0 := blk_frozen BK.out 0; have hcy1 := C2z BK; have hfy1 := blk_frozen BK.out 1; have hcy2 := C3z BK; have hfy2 := blk_frozen BK.out 2; have hcy3 := C4z BK; have hfy3 := blk_frozen BK.out 3; have hcy4 := C5z BK; have hfy4 := blk_frozen BK.out 4; have hw_w15 : w15.cell? ⟨n, 0, none⟩ = some (.string who) := (HB.out.cell (World.block_lt_of_cell? w _ Hw.out)).trans Hw.out; have hd_w15 : w15.cell? ⟨n + 1, 0, none⟩ = some (.slice Ad ld.length cd) := (HB.out.cell (World.block_lt_of_cell? w _ Hd.out)).trans Hd.out; have ha_w15 : w15.cell? ⟨n + 1 + 1, 0, none⟩ = some (.string attr) := (HB.out.cell (World.block_lt_of_cell? w _ Ha.out)).trans Ha.out; have hr_w15 : w15.cell? ⟨n + 1 + 1 + 1, 0, none⟩ = some (.int .i64 right) := (HB.out.cell (World.block_lt_of_cell? w _ Hr.out)).trans Hr.out))
    go_ret
    exact ⟨by first | rfl | (simp [*]; done), HBa⟩
   rw [if_pos cr] at h
   have crb0 : (a3 == right) = true := beq_iff_eq.mpr cr
   have crb1 : (a3 != right) = false := bne_eq_false_iff_eq.mpr cr
   clear cr
   by_cases cl : (l2.length : Int) = 0
   ·rw [if_pos cl] at h
    obtain rfl := Option.some.inj h
    clear h
    have clb0 : ((l2.length : Int) == 0) = true := beq_iff_eq.mpr cl
    have clb1 : ((l2.length : Int) != 0) = false := bne_eq_false_iff_eq.mpr cl
    clear cl
    go_enter Tryz.func100, Tryz.ntmps100
    go_wp2_with (first | ((with_reducible refine gate_dst (N := 5) rfl ?_); (try (refine gate_guard (by rfl) ?_; dsimp only)); refine box_event ?hg (N := 5) ?hd (cs := #[.string a0, .slice A1 l1.length c1, .slice A2 l2.length c2, .int .i64 a3, .bool a4]) (t := 57) ?hr ?_; (case hd => rfl); (case hg => rfl); (case hr => first | (go_simp; done) | (go_simp; rfl)); intro gb hg w9 hbox hb; have n0_ := Aside0.mk (below_step HB.out hb); have n1_ := Aside0.mk hbox; clear HB; have HB := n0_; have BK := n1_; clear n0_ n1_; clear hb hbox hg; have hcz0 := C1z BK; have hfz0 := blk_frozen BK.out 0; have hcz1 := C2z BK; have hfz1 := blk_frozen BK.out 1; have hcz2 := C3z BK; have hfz2 := blk_frozen BK.out 2; have hcz3 := C4z BK; have hfz3 := blk_frozen BK.out 3; have hcz4 := C5z BK; have hfz4 := blk_frozen BK.out 4; have hw_w9 : w9.cell? ⟨n, 0, none⟩ = some (.string who) := (HB.out.cell (World.block_lt_of_cell? w _ Hw.out)).trans Hw.out; have hd_w9 : w9.cell? ⟨n + 1, 0, none⟩ = some (.slice Ad ld.length cd) := (HB.out.cell (World.block_lt_of_cell? w _ Hd.out)).trans Hd.out; have ha_w9 : w9.cell? ⟨n + 1 + 1, 0, none⟩ = some (.string attr) := (HB.out.cell (World.block_lt_of_cell? w _ Ha.out)).trans Ha.out; have hr_w9 : w9.cell? ⟨n + 1 + 1 + 1, 0, none⟩ = some (.int .i64 right) := (HB.out.cell (World.block_lt_of_cell? w _ Hr.out)).trans Hr.out) | (go_at_call 101; (with_reducible refine (Gt.calls k _ _ ld _ _ l1 true _ ?side1 HCD.out ?side3 HC1.out A6.out).mono ?_); (case side1 => exact KCz (Kd.C_below HRD.out HB.out)); (case side3 => exact KCz (Kd.C_below HR1.out HB.out)); rintro e w15 ⟨rfl, hb⟩; have n0_ := Aside0.mk (blk_below (g := gb) (o := .cells #[.string a0, .slice A1 l1.length c1, .slice A2 l2.length c2, .int .i64 a3, .bool a4] 57 (0, 0)) BK.out hb); have n1_ := Aside0.mk (below_step HB.out hb); clear BK; clear HB; have BK := n0_; have HB := n1_; clear n0_ n1_; clear hb; have hcy0 := C1z BK; have hfy0 := blk_frozen BK.out 0; have hcy1 := C2z BK; have hfy1 := blk_frozen BK.out 1; have hcy2 := C3z BK; have hfy2 := blk_frozen BK.out 2; have hcy3 := C4z BK; have hfy3 := blk_frozen BK.out 3; have hcy4 := C5z BK; have hfy4 := blk_frozen BK.out 4; have hw_w15 : w15.cell? ⟨n, 0, none⟩ = some (.string who) := (HB.out.cell (World.block_lt_of_cell? w _ Hw.out)).trans Hw.out; have hd_w15 : w15.cell? ⟨n + 1, 0, none⟩ = some (.slice Ad ld.length cd) := (HB.out.cell (World.block_lt_of_cell? w _ Hd.out)).trans Hd.out; have ha_w15 : w15.cell? ⟨n + 1 + 1, 0, none⟩ = some (.string attr) := (HB.out.cell (World.block_lt_of_cell? w _ Ha.out)).trans Ha.out; have hr_w15 : w15.cell? ⟨n + 1 + 1 + 1, 0, none⟩ = some (.int .i64 right) := (HB.out.cell (World.block_lt_of_cell? w _ Hr.out)).trans Hr.out))
    go_ret
    exact ⟨by first | rfl | (simp [*]; done), HBa⟩
   rw [if_neg cl] at h
   have A8 := Aside0.mk h
   clear h
   have clb0 : ((l2.length : Int) == 0) = false := beq_eq_false_iff_ne.mpr cl
   have clb1 : ((l2.length : Int) != 0) = true := bne_iff_ne.mpr cl
   have clb2 : ¬ (l2 = []) := fun h_ => cl (by rw [h_]; rfl)
   clear cl
   go_enter Tryz.func100, Tryz.ntmps100
   go_wp2_with (first | ((with_reducible refine gate_dst (N := 5) rfl ?_); (try (refine gate_guard (by rfl) ?_; dsimp only)); refine box_event ?hg (N := 5) ?hd (cs := #[.string a0, .slice A1 l1.length c1, .slice A2 l2.length c2, .int .i64 a3, .bool a4]) (t := 57) ?hr ?_; (case hd => rfl); (case hg => rfl); (case hr => first | (go_simp; done) | (go_simp; rfl)); intro gb hg w9 hbox hb; have n0_ := Aside0.mk (below_step HB.out hb); have n1_ := Aside0.mk hbox; clear HB; have HB := n0_; have BK := n1_; clear n0_ n1_; clear hb hbox hg; have hcz0 := C1z BK; have hfz0 := blk_frozen BK.out 0; have hcz1 := C2z BK; have hfz1 := blk_frozen BK.out 1; have hcz2 := C3z BK; have hfz2 := blk_frozen BK.out 2; have hcz3 := C4z BK; have hfz3 := blk_frozen BK.out 3; have hcz4 := C5z BK; have hfz4 := blk_frozen BK.out 4; have hw_w9 : w9.cell? ⟨n, 0, none⟩ = some (.string who) := (HB.out.cell (World.block_lt_of_cell? w _ Hw.out)).trans Hw.out; have hd_w9 : w9.cell? ⟨n + 1, 0, none⟩ = some (.slice Ad ld.length cd) := (HB.out.cell (World.block_lt_of_cell? w _ Hd.out)).trans Hd.out; have ha_w9 : w9.cell? ⟨n + 1 + 1, 0, none⟩ = some (.string attr) := (HB.out.cell (World.block_lt_of_cell? w _ Ha.out)).trans Ha.out; have hr_w9 : w9.cell? ⟨n + 1 + 1 + 1, 0, none⟩ = some (.int .i64 right) := (HB.out.cell (World.block_lt_of_cell? w _ Hr.out)).trans Hr.out) | (go_at_call 101; (with_reducible refine (Gt.calls k _ _ ld _ _ l1 true _ ?side1 HCD.out ?side3 HC1.out A6.out).mono ?_); (case side1 => exact KCz (Kd.C_below HRD.out HB.out)); (case side3 => exact KCz (Kd.C_below HR1.out HB.out)); rintro e w15 ⟨rfl, hb⟩; have n0_ := Aside0.mk (blk_below (g := gb) (o := .cells #[.string a0, .slice A1 l1.length c1, .slice A2 l2.length c2, .int .i64 a3, .bool a4] 57 (0, 0)) BK.out hb); have n1_ := Aside0.mk (below_step HB.out hb); clear BK; clear HB; have BK := n0_; have HB := n1_; clear n0_ n1_; clear hb; have hcy0 := C1z BK; have hfy0 := blk_frozen BK.out 0; have hcy1 := C2z BK; have hfy1 := blk_frozen BK.out 1; have hcy2 := C3z BK; have hfy2 := blk_frozen BK.out 2; have hcy3 := C4z BK; have hfy3 := blk_frozen BK.out 3; have hcy4 := C5z BK; have hfy4 := blk_frozen BK.out 4; have hw_w15 : w15.cell? ⟨n, 0, none⟩ = some (.string who) := (HB.out.cell (World.block_lt_of_cell? w _ Hw.out)).trans Hw.out; have hd_w15 : w15.cell? ⟨n + 1, 0, none⟩ = some (.slice Ad ld.length cd) := (HB.out.cell (World.block_lt_of_cell? w _ Hd.out)).trans Hd.out; have ha_w15 : w15.cell? ⟨n + 1 + 1, 0, none⟩ = some (.string attr) := (HB.out.cell (World.block_lt_of_cell? w _ Ha.out)).trans Ha.out; have hr_w15 : w15.cell? ⟨n + 1 + 1 + 1, 0, none⟩ = some (.int .i64 right) := (HB.out.cell (World.block_lt_of_cell? w _ Hr.out)).trans Hr.out) | (go_at_call 102; (with_reducible refine (Qf.calls k _ _ l2 attr r _ ?side1 HC2.out A8.out).mono ?_); (case side1 => exact KCz (Kd.C_below HR2.out HB.out)); rintro e w16 ⟨rfl, ⟨nd, rfl⟩⟩))
   go_ret
   exact ⟨by first | rfl | (simp [*]; done), HBa⟩
 rw [if_neg ca] at h
 have cab0 : (a0.toList == ([42] : List UInt8)) = false := beq_eq_false_iff_ne.mpr ca
 have cab1 : (a0.toList != ([42] : List UInt8)) = true := bne_iff_ne.mpr ca
 by_cases cb : a0.toList = who.toList
 rotate_left
 ·rw [if_neg cb] at h
  obtain rfl := Option.some.inj h
  clear h
  have cbb0 : (a0.toList == who.toList) = false := beq_eq_false_iff_ne.mpr cb
  have cbb1 : (a0.toList != who.toList) = true := bne_iff_ne.mpr cb
  go_enter Tryz.func100, Tryz.ntmps100
  go_wp2_with (first | ((with_reducible refine gate_dst (N := 5) rfl ?_); (try (refine gate_guard (by rfl) ?_; dsimp only)); refine box_event ?hg (N := 5) ?hd (cs := #[.string a0, .slice A1 l1.length c1, .slice A2 l2.length c2, .int .i64 a3, .bool a4]) (t := 57) ?hr ?_; (case hd => rfl); (case hg => rfl); (case hr => first | (go_simp; done) | (go_simp; rfl)); intro gb hg w9 hbox hb; have n0_ := Aside0.mk (below_step HB.out hb); have n1_ := Aside0.mk hbox; clear HB; have HB := n0_; have BK := n1_; clear n0_ n1_; clear hb hbox hg; have hcz0 := C1z BK; have hfz0 := blk_frozen BK.out 0; have hcz1 := C2z BK; have hfz1 := blk_frozen BK.out 1; have hcz2 := C3z BK; have hfz2 := blk_frozen BK.out 2; have hcz3 := C4z BK; have hfz3 := blk_frozen BK.out 3; have hcz4 := C5z BK; have hfz4 := blk_frozen BK.out 4; have hw_w9 : w9.cell? ⟨n, 0, none⟩ = some (.string who) := (HB.out.cell (World.block_lt_of_cell? w _ Hw.out)).trans Hw.out; have hd_w9 : w9.cell? ⟨n + 1, 0, none⟩ = some (.slice Ad ld.length cd) := (HB.out.cell (World.block_lt_of_cell? w _ Hd.out)).trans Hd.out; have ha_w9 : w9.cell? ⟨n + 1 + 1, 0, none⟩ = some (.string attr) := (HB.out.cell (World.block_lt_of_cell? w _ Ha.out)).trans Ha.out; have hr_w9 : w9.cell? ⟨n + 1 + 1 + 1, 0, none⟩ = some (.int .i64 right) := (HB.out.cell (World.block_lt_of_cell? w _ Hr.out)).trans Hr.out))
  go_ret
  exact ⟨by first | rfl | (simp [*]; done), HBa⟩
 rw [if_pos cb] at h
 have cbb0 : (a0.toList == who.toList) = true := beq_iff_eq.mpr cb
 have cbb1 : (a0.toList != who.toList) = false := bne_eq_false_iff_eq.mpr cb
 clear cb
 unfold Gm.clo2 at h
 obtain ⟨t, A60, h⟩ := Option.bind_eq_some_iff.1 h
 have A6 := Aside0.mk A60
 clear A60
 cases t with
 | false =>
  rw [if_neg (by decide)] at h
  obtain rfl := Option.some.inj h
  clear h
  go_enter Tryz.func100, Tryz.ntmps100
  go_wp2_with (first | ((with_reducible refine gate_dst (N := 5) rfl ?_); (try (refine gate_guard (by rfl) ?_; dsimp only)); refine box_event ?hg (N := 5) ?hd (cs := #[.string a0, .slice A1 l1.length c1, .slice A2 l2.length c2, .int .i64 a3, .bool a4]) (t := 57) ?hr ?_; (case hd => rfl); (case hg => rfl); (case hr => first | (go_simp; done) | (go_simp; rfl)); intro gb hg w9 hbox hb; have n0_ := Aside0.mk (below_step HB.out hb); have n1_ := Aside0.mk hbox; clear HB; have HB := n0_; have BK := n1_; clear n0_ n1_; clear hb hbox hg; have hcz0 := C1z BK; have hfz0 := blk_frozen BK.out 0; have hcz1 := C2z BK; have hfz1 := blk_frozen BK.out 1; have hcz2 := C3z BK; have hfz2 := blk_frozen BK.out 2; have hcz3 := C4z BK; have hfz3 := blk_frozen BK.out 3; have hcz4 := C5z BK; have hfz4 := blk_frozen BK.out 4; have hw_w9 : w9.cell? ⟨n, 0, none⟩ = some (.string who) := (HB.out.cell (World.block_lt_of_cell? w _ Hw.out)).trans Hw.out; have hd_w9 : w9.cell? ⟨n + 1, 0, none⟩ = some (.slice Ad ld.length cd) := (HB.out.cell (World.block_lt_of_cell? w _ Hd.out)).trans Hd.out; have ha_w9 : w9.cell? ⟨n + 1 + 1, 0, none⟩ = some (.string attr) := (HB.out.cell (World.block_lt_of_cell? w _ Ha.out)).trans Ha.out; have hr_w9 : w9.cell? ⟨n + 1 + 1 + 1, 0, none⟩ = some (.int .i64 right) := (HB.out.cell (World.block_lt_of_cell? w _ Hr.out)).trans Hr.out) | (go_at_call 101; (with_reducible refine (Gt.calls k _ _ ld _ _ l1 false _ ?side1 HCD.out ?side3 HC1.out A6.out).mono ?_); (case side1 => exact KCz (Kd.C_below HRD.out HB.out)); (case side3 => exact KCz (Kd.C_below HR1.out HB.out)); rintro e w15 ⟨rfl, hb⟩; have n0_ := Aside0.mk (blk_below (g := gb) (o := .cells #[.string a0, .slice A1 l1.length c1, .slice A2 l2.length c2, .int .i64 a3, .bool a4] 57 (0, 0)) BK.out hb); have n1_ := Aside0.mk (below_step HB.out hb); clear BK; clear HB; have BK := n0_; have HB := n1_; clear n0_ n1_; clear hb; have hcy0 := C1z BK; have hfy0 := blk_frozen BK.out 0; have hcy1 := C2z BK; have hfy1 := blk_frozen BK.out 1; have hcy2 := C3z BK; have hfy2 := blk_frozen BK.out 2; have hcy3 := C4z BK; have hfy3 := blk_frozen BK.out 3; have hcy4 := C5z BK; have hfy4 := blk_frozen BK.out 4; have hw_w15 : w15.cell? ⟨n, 0, none⟩ = some (.string who) := (HB.out.cell (World.block_lt_of_cell? w _ Hw.out)).trans Hw.out; have hd_w15 : w15.cell? ⟨n + 1, 0, none⟩ = some (.slice Ad ld.length cd) := (HB.out.cell (World.block_lt_of_cell? w _ Hd.out)).trans Hd.out; have ha_w15 : w15.cell? ⟨n + 1 + 1, 0, none⟩ = some (.string attr) := (HB.out.cell (World.block_lt_of_cell? w _ Ha.out)).trans Ha.out; have hr_w15 : w15.cell? ⟨n + 1 + 1 + 1, 0, none⟩ = some (.int .i64 right) := (HB.out.cell (World.block_lt_of_cell? w _ Hr.out)).trans Hr.out))
  go_ret
  exact ⟨by first | rfl | (simp [*]; done), HBa⟩
 | true =>
  rw [if_pos rfl] at h
  by_cases cr : a3 = right
  rotate_left
  ·rw [if_neg cr] at h
   obtain rfl := Option.some.inj h
   clear h
   have crb0 : (a3 == right) = false := beq_eq_false_iff_ne.mpr cr
   have crb1 : (a3 != right) = true := bne_iff_ne.mpr cr
   go_enter Tryz.func100, Tryz.ntmps100
   go_wp2_with (first | ((with_reducible refine gate_dst (N := 5) rfl ?_); (try (refine gate_guard (by rfl) ?_; dsimp only)); refine box_event ?hg (N := 5) ?hd (cs := #[.string a0, .slice A1 l1.length c1, .slice A2 l2.length c2, .int .i64 a3, .bool a4]) (t := 57) ?hr ?_; (case hd => rfl); (case hg => rfl); (case hr => first | (go_simp; done) | (go_simp; rfl)); intro gb hg w9 hbox hb; have n0_ := Aside0.mk (below_step HB.out hb); have n1_ := Aside0.mk hbox; clear HB; have HB := n0_; have BK := n1_; clear n0_ n1_; clear hb hbox hg; have hcz0 := C1z BK; have hfz0 := blk_frozen BK.out 0; have hcz1 := C2z BK; have hfz1 := blk_frozen BK.out 1; have hcz2 := C3z BK; have hfz2 := blk_frozen BK.out 2; have hcz3 := C4z BK; have hfz3 := blk_frozen BK.out 3; have hcz4 := C5z BK; have hfz4 := blk_frozen BK.out 4; have hw_w9 : w9.cell? ⟨n, 0, none⟩ = some (.string who) := (HB.out.cell (World.block_lt_of_cell? w _ Hw.out)).trans Hw.out; have hd_w9 : w9.cell? ⟨n + 1, 0, none⟩ = some (.slice Ad ld.length cd) := (HB.out.cell (World.block_lt_of_cell? w _ Hd.out)).trans Hd.out; have ha_w9 : w9.cell? ⟨n + 1 + 1, 0, none⟩ = some (.string attr) := (HB.out.cell (World.block_lt_of_cell? w _ Ha.out)).trans Ha.out; have hr_w9 : w9.cell? ⟨n + 1 + 1 + 1, 0, none⟩ = some (.int .i64 right) := (HB.out.cell (World.block_lt_of_cell? w _ Hr.out)).trans Hr.out) | (go_at_call 101; (with_reducible refine (Gt.calls k _ _ ld _ _ l1 true _ ?side1 HCD.out ?side3 HC1.out A6.out).mono ?_); (case side1 => exact KCz (Kd.C_below HRD.out HB.out)); (case side3 => exact KCz (Kd.C_below HR1.out HB.out)); rintro e w15 ⟨rfl, hb⟩; have n0_ := Aside0.mk (blk_below (g := gb) (o := .cells #[.string a0, .slice A1 l1.length c1, .slice A2 l2.length c2, .int .i64 a3, .bool a4] 57 (0, 0)) BK.out hb); have n1_ := Aside0.mk (below_step HB.out hb); clear BK; clear HB; have BK := n0_; have HB := n1_; clear n0_ n1_; clear hb; have hcy0 := C1z BK; have hfy0 := blk_frozen BK.out 0; have hcy1 := C2z BK; have hfy1 := blk_frozen BK.out 1; have hcy2 := C3z BK; have hfy2 := blk_frozen BK.out 2; have hcy3 := C4z BK; have hfy3 := blk_frozen BK.out 3; have hcy4 := C5z BK; have hfy4 := blk_frozen BK.out 4; have hw_w15 : w15.cell? ⟨n, 0, none⟩ = some (.string who) := (HB.out.cell (World.block_lt_of_cell? w _ Hw.out)).trans Hw.out; have hd_w15 : w15.cell? ⟨n + 1, 0, none⟩ = some (.slice Ad ld.length cd) := (HB.out.cell (World.block_lt_of_cell? w _ Hd.out)).trans Hd.out; have ha_w15 : w15.cell? ⟨n + 1 + 1, 0, none⟩ = some (.string attr) := (HB.out.cell (World.block_lt_of_cell? w _ Ha.out)).trans Ha.out; have hr_w15 : w15.cell? ⟨n + 1 + 1 + 1, 0, none⟩ = some (.int .i64 right) := (HB.out.cell (World.block_lt_of_cell? w _ Hr.out)).trans Hr.out))
   go_ret
   exact ⟨by first | rfl | (simp [*]; done), HBa⟩
  rw [if_pos cr] at h
  have crb0 : (a3 == right) = true := beq_iff_eq.mpr cr
  have crb1 : (a3 != right) = false := bne_eq_false_iff_eq.mpr cr
  clear cr
  by_cases cl : (l2.length : Int) = 0
  ·rw [if_pos cl] at h
   obtain rfl := Option.some.inj h
   clear h
   have clb0 : ((l2.length : Int) == 0) = true := beq_iff_eq.mpr cl
   have clb1 : ((l2.length : Int) != 0) = false := bne_eq_false_iff_eq.mpr cl
   clear cl
   go_enter Tryz.func100, Tryz.ntmps100
   go_wp2_with (first | ((with_reducible refine gate_dst (N := 5) rfl ?_); (try (refine gate_guard (by rfl) ?_; dsimp only)); refine box_event ?hg (N := 5) ?hd (cs := #[.string a0, .slice A1 l1.length c1, .slice A2 l2.length c2, .int .i64 a3, .bool a4]) (t := 57) ?hr ?_; (case hd => rfl); (case hg => rfl); (case hr => first | (go_simp; done) | (go_simp; rfl)); intro gb hg w9 hbox hb; have n0_ := Aside0.mk (below_step HB.out hb); have n1_ := Aside0.mk hbox; clear HB; have HB := n0_; have BK := n1_; clear n0_ n1_; clear hb hbox hg; have hcz0 := C1z BK; have hfz0 := blk_frozen BK.out 0; have hcz1 := C2z BK; have hfz1 := blk_frozen BK.out 1; have hcz2 := C3z BK; have hfz2 := blk_frozen BK.out 2; have hcz3 := C4z BK; have hfz3 := blk_frozen BK.out 3; have hcz4 := C5z BK; have hfz4 := blk_frozen BK.out 4; have hw_w9 : w9.cell? ⟨n, 0, none⟩ = some (.string who) := (HB.out.cell (World.block_lt_of_cell? w _ Hw.out)).trans Hw.out; have hd_w9 : w9.cell? ⟨n + 1, 0, none⟩ = some (.slice Ad ld.length cd) := (HB.out.cell (World.block_lt_of_cell? w _ Hd.out)).trans Hd.out; have ha_w9 : w9.cell? ⟨n + 1 + 1, 0, none⟩ = some (.string attr) := (HB.out.cell (World.block_lt_of_cell? w _ Ha.out)).trans Ha.out; have hr_w9 : w9.cell? ⟨n + 1 + 1 + 1, 0, none⟩ = some (.int .i64 right) := (HB.out.cell (World.block_lt_of_cell? w _ Hr.out)).trans Hr.out) | (go_at_call 101; (with_reducible refine (Gt.calls k _ _ ld _ _ l1 true _ ?side1 HCD.out ?side3 HC1.out A6.out).mono ?_); (case side1 => exact KCz (Kd.C_below HRD.out HB.out)); (case side3 => exact KCz (Kd.C_below HR1.out HB.out)); rintro e w15 ⟨rfl, hb⟩; have n0_ := Aside0.mk (blk_below (g := gb) (o := .cells #[.string a0, .slice A1 l1.length c1, .slice A2 l2.length c2, .int .i64 a3, .bool a4] 57 (0, 0)) BK.out hb); have n1_ := Aside0.mk (below_step HB.out hb); clear BK; clear HB; have BK := n0_; have HB := n1_; clear n0_ n1_; clear hb; have hcy0 := C1z BK; have hfy0 := blk_frozen BK.out 0; have hcy1 := C2z BK; have hfy1 := blk_frozen BK.out 1; have hcy2 := C3z BK; have hfy2 := blk_frozen BK.out 2; have hcy3 := C4z BK; have hfy3 := blk_frozen BK.out 3; have hcy4 := C5z BK; have hfy4 := blk_frozen BK.out 4; have hw_w15 : w15.cell? ⟨n, 0, none⟩ = some (.string who) := (HB.out.cell (World.block_lt_of_cell? w _ Hw.out)).trans Hw.out; have hd_w15 : w15.cell? ⟨n + 1, 0, none⟩ = some (.slice Ad ld.length cd) := (HB.out.cell (World.block_lt_of_cell? w _ Hd.out)).trans Hd.out; have ha_w15 : w15.cell? ⟨n + 1 + 1, 0, none⟩ = some (.string attr) := (HB.out.cell (World.block_lt_of_cell? w _ Ha.out)).trans Ha.out; have hr_w15 : w15.cell? ⟨n + 1 + 1 + 1, 0, none⟩ = some (.int .i64 right) := (HB.out.cell (World.block_lt_of_cell? w _ Hr.out)).trans Hr.out))
   go_ret
   exact ⟨by first | rfl | (simp [*]; done), HBa⟩
  rw [if_neg cl] at h
  have A8 := Aside0.mk h
  clear h
  have clb0 : ((l2.length : Int) == 0) = false := beq_eq_false_iff_ne.mpr cl
  have clb1 : ((l2.length : Int) != 0) = true := bne_iff_ne.mpr cl
  have clb2 : ¬ (l2 = []) := fun h_ => cl (by rw [h_]; rfl)
  clear cl
  go_enter Tryz.func100, Tryz.ntmps100
  go_wp2_with (first | ((with_reducible refine gate_dst (N := 5) rfl ?_); (try (refine gate_guard (by rfl) ?_; dsimp only)); refine box_event ?hg (N := 5) ?hd (cs := #[.string a0, .slice A1 l1.length c1, .slice A2 l2.length c2, .int .i64 a3, .bool a4]) (t := 57) ?hr ?_; (case hd => rfl); (case hg => rfl); (case hr => first | (go_simp; done) | (go_simp; rfl)); intro gb hg w9 hbox hb; have n0_ := Aside0.mk (below_step HB.out hb); have n1_ := Aside0.mk hbox; clear HB; have HB := n0_; have BK := n1_; clear n0_ n1_; clear hb hbox hg; have hcz0 := C1z BK; have hfz0 := blk_frozen BK.out 0; have hcz1 := C2z BK; have hfz1 := blk_frozen BK.out 1; have hcz2 := C3z BK; have hfz2 := blk_frozen BK.out 2; have hcz3 := C4z BK; have hfz3 := blk_frozen BK.out 3; have hcz4 := C5z BK; have hfz4 := blk_frozen BK.out 4; have hw_w9 : w9.cell? ⟨n, 0, none⟩ = some (.string who) := (HB.out.cell (World.block_lt_of_cell? w _ Hw.out)).trans Hw.out; have hd_w9 : w9.cell? ⟨n + 1, 0, none⟩ = some (.slice Ad ld.length cd) := (HB.out.cell (World.block_lt_of_cell? w _ Hd.out)).trans Hd.out; have ha_w9 : w9.cell? ⟨n + 1 + 1, 0, none⟩ = some (.string attr) := (HB.out.cell (World.block_lt_of_cell? w _ Ha.out)).trans Ha.out; have hr_w9 : w9.cell? ⟨n + 1 + 1 + 1, 0, none⟩ = some (.int .i64 right) := (HB.out.cell (World.block_lt_of_cell? w _ Hr.out)).trans Hr.out) | (go_at_call 101; (with_reducible refine (Gt.calls k _ _ ld _ _ l1 true _ ?side1 HCD.out ?side3 HC1.out A6.out).mono ?_); (case side1 => exact KCz (Kd.C_below HRD.out HB.out)); (case side3 => exact KCz (Kd.C_below HR1.out HB.out)); rintro e w15 ⟨rfl, hb⟩; have n0_ := Aside0.mk (blk_below (g := gb) (o := .cells #[.string a0, .slice A1 l1.length c1, .slice A2 l2.length c2, .int .i64 a3, .bool a4] 57 (0, 0)) BK.out hb); have n1_ := Aside0.mk (below_step HB.out hb); clear BK; clear HB; have BK := n0_; have HB := n1_; clear n0_ n1_; clear hb; have hcy0 := C1z BK; have hfy0 := blk_frozen BK.out 0; have hcy1 := C2z BK; have hfy1 := blk_frozen BK.out 1; have hcy2 := C3z BK; have hfy2 := blk_frozen BK.out 2; have hcy3 := C4z BK; have hfy3 := blk_frozen BK.out 3; have hcy4 := C5z BK; have hfy4 := blk_frozen BK.out 4; have hw_w15 : w15.cell? ⟨n, 0, none⟩ = some (.string who) := (HB.out.cell (World.block_lt_of_cell? w _ Hw.out)).trans Hw.out; have hd_w15 : w15.cell? ⟨n + 1, 0, none⟩ = some (.slice Ad ld.length cd) := (HB.out.cell (World.block_lt_of_cell? w _ Hd.out)).trans Hd.out; have ha_w15 : w15.cell? ⟨n + 1 + 1, 0, none⟩ = some (.string attr) := (HB.out.cell (World.block_lt_of_cell? w _ Ha.out)).trans Ha.out; have hr_w15 : w15.cell? ⟨n + 1 + 1 + 1, 0, none⟩ = some (.int .i64 right) := (HB.out.cell (World.block_lt_of_cell? w _ Hr.out)).trans Hr.out) | (go_at_call 102; (with_reducible refine (Qf.calls k _ _ l2 attr r _ ?side1 HC2.out A8.out).mono ?_); (case side1 => exact KCz (Kd.C_below HR2.out HB.out)); rintro e w16 ⟨rfl, ⟨nd, rfl⟩⟩))
  go_ret
  exact ⟨by first | rfl | (simp [*]; done), HBa⟩
theorem Gm.index (k n : Nat) (who attr : ByteArray) (right : Int) (Ad : Option Addr) (cd : Nat) (ld : List (S96)) (A0 : Option Addr) (c0 : Nat) (l0 : List (S57)) (r : Int) (w : World) (hw : w.cell? ⟨n, 0, none⟩ = some (.string who)) (hd : w.cell? ⟨n + 1, 0, none⟩ = some (.slice Ad ld.length cd)) (ha : w.cell? ⟨n + 1 + 1, 0, none⟩ = some (.string attr)) (hr : w.cell? ⟨n + 1 + 1 + 1, 0, none⟩ = some (.int .i64 right)) (hrd : Kd.C k96 w Ad ld.length ld) (hcd : ld.length ≤ cd) (hr0 : Kd.C k57 w A0 l0.length l0) (h : Gm.ix k who attr right ld l0 0 = some r) :
  Calls Tryz.prog 99 #[.slice A0 l0.length c0, .func (.func 100) #[] #[.pointer (some ⟨n, 0, none⟩), .pointer (some ⟨n + 1, 0, none⟩), .pointer (some ⟨n + 1 + 1 + 1, 0, none⟩), .pointer (some ⟨n + 1 + 1, 0, none⟩)]] w fun e w' => e = .returned (.int .i64 r) ∧ Below w.heap.size w w' := by
 have hu := Tryz.underlying57
 have HR0 := Aside0.mk hr0
 have Hw := Aside0.mk hw
 have Hd := Aside0.mk hd
 have Ha := Aside0.mk ha
 have Hr := Aside0.mk hr
 have HRD := Aside0.mk hrd
 have HCD := Aside0.mk hcd
 clear hr0 hw hd ha hr hrd hcd
 have HB := Aside0.mk (Below.refl w.heap.size w)
 have H' := Aside0.mk h
 clear h
 go_enter Tryz.func99, Tryz.ntmps99
 go_wp2
 go_loopg [5, 8] l0.length (fun kq _ v8 w' => ∃ j : Nat, v8 = .int .i64 (j : Int) ∧ Aside0 (Gm.ix k who attr right ld (l0.drop j) (j : Int) = some r) ∧ Aside0 (l0.length - j ≤ kq) ∧ Aside0 (Below w.heap.size w w'))
 case atStart => exact ⟨0, rfl, H', ⟨by omega⟩, HB⟩
 case round =>
  clear H'
  obtain ⟨j, rfl, HA, HK, HB⟩ := hrel
  by_cases c1 : (j : Int) < (l0.length : Int)
  rotate_left
  ·have c1b0 := decide_eq_false c1
   have c1b1 : decide (j < l0.length) = false := decide_eq_false (by omega)
   have H := HA.out
   rw [List.drop_of_length_le (by omega)] at H
   simp only [Gm.ix] at H
   obtain rfl := Option.some.inj H
   clear c1
   go_wp2
   go_ret
   exact ⟨rfl, HB.out⟩
  have c1b0 := decide_eq_true c1
  have c1b1 : decide (j < l0.length) = true := decide_eq_true (by omega)
  have H := HA.out
  clear HA
  have hj : j < l0.length := by omega
  have p1 : 0 ≤ (j : Int) := by omega
  obtain ⟨ad1, B1, b1, B2, b2, e1, hx1_0, hx1_1, hx1_2, hx1_3, hx1_4, m1, g1, m2, g2⟩ := at_T57 HR0.out (j : Int) p1 c1
  cases e1
  replace hx1_0 := HXz HB hx1_0
  replace hx1_1 := HXz HB hx1_1
  replace hx1_2 := HXz HB hx1_2
  replace hx1_3 := HXz HB hx1_3
  replace hx1_4 := HXz HB hx1_4
  simp only [Int.toNat_natCast] at hx1_0 hx1_1 hx1_2 hx1_3 hx1_4
  have G1 := Aside0.mk g1
  have G2 := Aside0.mk g2
  have L1 := Aside0.mk m1
  have L2 := Aside0.mk m2
  clear g1 g2 m1 m2
  have hel : l0.drop j = rd_T57 l0 (j : Int) :: l0.drop (j + 1) := by
   rw [List.drop_eq_getElem_cons hj]
   congr 1
   unfold rd_T57
   rw [List.getD_eq_getElem?_getD, show (j : Int).toNat = j from rfl, List.getElem?_eq_getElem hj]; rfl
  rw [hel] at H
  simp only [Gm.ix] at H
  obtain ⟨b, Ab0, H⟩ := Option.bind_eq_some_iff.1 H
  have Ab := Aside0.mk Ab0
  clear Ab0 hel
  have c1i := eq_true c1
  cases b with
  | false =>
   simp only [Bool.false_eq_true, if_false] at H
   have HN := Aside0.mk H
   clear H
   have HJ := Aside0.mk hj
   clear hj c1
   go_wp2_with (go_at_call 100; refine (Gm.clo_calls k n who attr right Ad cd ld _ _ _ _ _ _ _ _ _ false _ ?sw ?sd ?sa ?sr ?s0 HCD.out ?s1 L1.out ?s2 L2.out Ab.out).mono ?_; (case sw => exact (HB.out.cell (World.block_lt_of_cell? w _ Hw.out)).trans Hw.out); (case sd => exact (HB.out.cell (World.block_lt_of_cell? w _ Hd.out)).trans Hd.out); (case sa => exact (HB.out.cell (World.block_lt_of_cell? w _ Ha.out)).trans Ha.out); (case sr => exact (HB.out.cell (World.block_lt_of_cell? w _ Hr.out)).trans Hr.out); (case s0 => exact KCz (Kd.C_below HRD.out HB.out)); (case s1 => exact KCz (Kd.C_below G1.out HB.out)); (case s2 => exact KCz (Kd.C_below G2.out HB.out)); rintro e w5 ⟨rfl, hb⟩; have n0_ := Aside0.mk (below_step HB.out hb); clear HB; have HB := n0_; clear n0_ hb)
   go_roundg (l0.length - (j + 1))
   case measure => have := HK.out; have := HJ.out; omega
   case rel => exact ⟨j + 1, by have hb := HR0.out.2.1; have := HJ.out; first | rfl | go_num | (congr 1; unfold wrap64; omega), by have h2 := HN.out; rw [show (j : Int) + 1 = ((j + 1 : Nat) : Int) by omega] at h2; exact ⟨h2⟩, ⟨Nat.le_refl _⟩, HB⟩
  | true =>
   simp only [if_true] at H
   obtain rfl := Option.some.inj H
   clear hj c1
   go_wp2_with (go_at_call 100; refine (Gm.clo_calls k n who attr right Ad cd ld _ _ _ _ _ _ _ _ _ true _ ?sw ?sd ?sa ?sr ?s0 HCD.out ?s1 L1.out ?s2 L2.out Ab.out).mono ?_; (case sw => exact (HB.out.cell (World.block_lt_of_cell? w _ Hw.out)).trans Hw.out); (case sd => exact (HB.out.cell (World.block_lt_of_cell? w _ Hd.out)).trans Hd.out); (case sa => exact (HB.out.cell (World.block_lt_of_cell? w _ Ha.out)).trans Ha.out); (case sr => exact (HB.out.cell (World.block_lt_of_cell? w _ Hr.out)).trans Hr.out); (case s0 => exact KCz (Kd.C_below HRD.out HB.out)); (case s1 => exact KCz (Kd.C_below G1.out HB.out)); (case s2 => exact KCz (Kd.C_below G2.out HB.out)); rintro e w5 ⟨rfl, hb⟩; have n0_ := Aside0.mk (below_step HB.out hb); clear HB; have HB := n0_; clear n0_ hb)
   go_ret
   exact ⟨rfl, HB.out⟩
theorem Gm.calls (k : Nat) (A0 : Option Addr) (c0 : Nat) (l0 : List (S57)) (a1 : ByteArray) (A2 : Option Addr) (c2 : Nat) (l2 : List (S96)) (a3 : ByteArray) (a4 : Int) (r : Bool) (w : World) (hr0 : Kd.C k57 w A0 l0.length l0) (hc0 : l0.length ≤ c0) (hr2 : Kd.C k96 w A2 l2.length l2) (hc2 : l2.length ≤ c2) (h : Gm.f k l0 a1 l2 a3 a4 = some r) :
  Calls Tryz.prog 62 #[.slice A0 l0.length c0, .string a1, .slice A2 l2.length c2, .string a3, .int .i64 a4] w fun e w' => e = .returned (.bool r) ∧ Below w.heap.size w w' := by
 have hu := Tryz.underlying57
 unfold Gm.f at h
 obtain ⟨t, At, h⟩ := Option.bind_eq_some_iff.1 h
 have hlt := Gm.ix_lt k a1 a3 a4 l2 l0 0 t (by omega) At
 have HR0 := Aside0.mk hr0
 have HR2 := Aside0.mk hr2
 have HC2 := Aside0.mk hc2
 have AT := Aside0.mk At
 clear hr0 hc0 hr2 hc2 At
 have HB := Aside0.mk (Below.refl w.heap.size w)
 by_cases ct : 0 ≤ t
 rotate_left
 ·rw [if_neg ct] at h
  obtain rfl := Option.some.inj h
  have ctb0 : decide (0 ≤ t) = false := decide_eq_false ct
  clear h hlt ct
  go_enter Tryz.func62, Tryz.ntmps62
  go_wp2_with (go_at_call 99; refine (Gm.index k w.heap.size a1 a3 a4 A2 c2 l2 _ _ l0 t _ ?sw ?sd ?sa ?sr ?s0 HC2.out ?s1 AT.out).mono ?_; (case sw => exact ((((Boxed.new w 9 (.string a1)).alloc _).alloc _).alloc _).cell); (case sd => have h_ := (((Boxed.new (w.alloc (.cells #[.string a1] 9)) 44 (.slice A2 l2.length c2)).alloc (.cells #[.string a3] 9)).alloc (.cells #[.int .i64 a4] 2)).cell; simpa only [World.size_alloc] using h_); (case sa => have h_ := ((Boxed.new ((w.alloc (.cells #[.string a1] 9)).alloc (.cells #[.slice A2 l2.length c2] 44)) 9 (.string a3)).alloc (.cells #[.int .i64 a4] 2)).cell; simpa only [World.size_alloc] using h_); (case sr => have h_ := (Boxed.new (((w.alloc (.cells #[.string a1] 9)).alloc (.cells #[.slice A2 l2.length c2] 44)).alloc (.cells #[.string a3] 9)) 2 (.int .i64 a4)).cell; simpa only [World.size_alloc] using h_); (case s0 => repeat (first | exact HR2.out | (with_reducible refine Kd.C_alloc ?_ _))); (case s1 => repeat (first | exact HR0.out | (with_reducible refine Kd.C_alloc ?_ _))); rintro e w5 ⟨rfl, hb⟩; have n0_ := Aside0.mk (below_step HBa hb); clear HB; have HB := n0_; clear n0_ hb)
  go_ret
  exact ⟨by first | rfl | (simp [*]; done), HB.out⟩
 rw [if_pos ct] at h
 obtain rfl := Option.some.inj h
 have cti : t < (l0.length : Int) := by omega
 have ctb0 : decide (0 ≤ t) = true := decide_eq_true ct
 have cte := eq_true ct
 have ctib0 : decide (t < (l0.length : Int)) = true := decide_eq_true cti
 have ctie := eq_true cti
 obtain ⟨ad1, B1, b1, B2, b2, e1, hx1_0, hx1_1, hx1_2, hx1_3, hx1_4, m1, g1, m2, g2⟩ := at_T57 HR0.out t ct cti
 cases e1
 have Hx := Aside0.mk hx1_4
 clear hx1_0 hx1_1 hx1_2 hx1_3 hx1_4 m1 g1 m2 g2 h hlt ct cti
 go_enter Tryz.func62, Tryz.ntmps62
 go_wp2_with (go_at_call 99; refine (Gm.index k w.heap.size a1 a3 a4 A2 c2 l2 _ _ l0 t _ ?sw ?sd ?sa ?sr ?s0 HC2.out ?s1 AT.out).mono ?_; (case sw => exact ((((Boxed.new w 9 (.string a1)).alloc _).alloc _).alloc _).cell); (case sd => have h_ := (((Boxed.new (w.alloc (.cells #[.string a1] 9)) 44 (.slice A2 l2.length c2)).alloc (.cells #[.string a3] 9)).alloc (.cells #[.int .i64 a4] 2)).cell; simpa only [World.size_alloc] using h_); (case sa => have h_ := ((Boxed.new ((w.alloc (.cells #[.string a1] 9)).alloc (.cells #[.slice A2 l2.length c2] 44)) 9 (.string a3)).alloc (.cells #[.int .i64 a4] 2)).cell; simpa only [World.size_alloc] using h_); (case sr => have h_ := (Boxed.new (((w.alloc (.cells #[.string a1] 9)).alloc (.cells #[.slice A2 l2.length c2] 44)).alloc (.cells #[.string a3] 9)) 2 (.int .i64 a4)).cell; simpa only [World.size_alloc] using h_); (case s0 => repeat (first | exact HR2.out | (with_reducible refine Kd.C_alloc ?_ _))); (case s1 => repeat (first | exact HR0.out | (with_reducible refine Kd.C_alloc ?_ _))); rintro e w5 ⟨rfl, hb⟩; have n0_ := Aside0.mk (below_step HBa hb); clear HB; have HB := n0_; clear n0_ hb; have hy4 := (HB.out.cell (World.block_lt_of_cell? w _ Hx.out)).trans Hx.out)
 go_ret
 exact ⟨by first | rfl | (simp [*]; done), HB.out⟩
def Gc.f (k : Nat) (l0 : List (S57)) (a1 : ByteArray) (l2 : List (S96)) (a3 : ByteArray) (a4 : Int) : Option (Bool) := (Gv.f k (([a1, a3] : List ByteArray))).bind fun t243 => (if t243 = true then (some false) else ((Ga.f k l0).bind fun t244 => (if t244 = true then ((Gj.f a1).bind fun t245 => (if t245 = true then (if (l2.length : Int) = 0 then (some false) else ((Gd.f k l2).bind fun t246 => (if t246 = true then (if a3.toList = ([] : List UInt8) then ((Qa.f a4).bind fun t247 => (if t247 = true then ((Gm.f k l0 a1 l2 a3 a4).bind fun t248 => (some t248)) else (some false))) else ((Gj.f a3).bind fun t249 => (if t249 = true then ((Qa.f a4).bind fun t250 => (if t250 = true then ((Gm.f k l0 a1 l2 a3 a4).bind fun t251 => (some t251)) else (some false))) else (some false)))) else (some false)))) else (some false))) else (some false))))
theorem Gc.mono : ∀ a0 a1 a2 a3 a4 k, LeO (Gc.f k a0 a1 a2 a3 a4) (Gc.f (k + 1) a0 a1 a2 a3 a4) := by
 intro a0 a1 a2 a3 a4 k
 unfold Gc.f
 with_reducible repeat' first | exact Ga.mono _ _ | exact Gd.mono _ _ | exact Gm.mono _ _ _ _ _ _ | exact Gv.mono _ _ | exact LeO.refl _ | exact LeO.none _ | refine LeO.ite ?_ ?_ | refine LeO.bind ?_ (fun _ => ?_)
theorem Gc.calls (k : Nat) (A0 : Option Addr) (c0 : Nat) (l0 : List (S57)) (a1 : ByteArray) (A2 : Option Addr) (c2 : Nat) (l2 : List (S96)) (a3 : ByteArray) (a4 : Int) (r : Bool) (w : World) (hr0 : Kd.C k57 w A0 l0.length l0) (hc0 : l0.length ≤ c0) (hr2 : Kd.C k96 w A2 l2.length l2) (hc2 : l2.length ≤ c2) (h : Gc.f k l0 a1 l2 a3 a4 = some r) :
  Calls Tryz.prog 27 #[.slice A0 l0.length c0, .string a1, .slice A2 l2.length c2, .string a3, .int .i64 a4] w fun e w' => e = .returned (.bool r) ∧ Below w.heap.size w w' := by
 have HR0 := Aside0.mk hr0
 have HC0 := Aside0.mk hc0
 clear hr0 hc0
 have HR2 := Aside0.mk hr2
 have HC2 := Aside0.mk hc2
 clear hr2 hc2
 have HB := Aside0.mk (Below.refl w.heap.size w)
 have H : ((Gv.f k (([a1, a3] : List ByteArray))).bind fun t243 => (if t243 = true then (some false) else ((Ga.f k l0).bind fun t244 => (if t244 = true then ((Gj.f a1).bind fun t245 => (if t245 = true then (if (l2.length : Int) = 0 then (some false) else ((Gd.f k l2).bind fun t246 => (if t246 = true then (if a3.toList = ([] : List UInt8) then ((Qa.f a4).bind fun t247 => (if t247 = true then ((Gm.f k l0 a1 l2 a3 a4).bind fun t248 => (some t248)) else (some false))) else ((Gj.f a3).bind fun t249 => (if t249 = true then ((Qa.f a4).bind fun t250 => (if t250 = true then ((Gm.f k l0 a1 l2 a3 a4).bind fun t251 => (some t251)) else (some false))) else (some false)))) else (some false)))) else (some false))) else (some false))))) = some r := h
 clear h
 obtain ⟨y240, hy240⟩ : ∃ y_ : List ByteArray, y_ = (([a1, a3] : List ByteArray)) := ⟨_, rfl⟩
 replace H : ((Gv.f k y240).bind fun t243 => (if t243 = true then (some false) else ((Ga.f k l0).bind fun t244 => (if t244 = true then ((Gj.f a1).bind fun t245 => (if t245 = true then (if (l2.length : Int) = 0 then (some false) else ((Gd.f k l2).bind fun t246 => (if t246 = true then (if a3.toList = ([] : List UInt8) then ((Qa.f a4).bind fun t247 => (if t247 = true then ((Gm.f k l0 a1 l2 a3 a4).bind fun t248 => (some t248)) else (some false))) else ((Gj.f a3).bind fun t249 => (if t249 = true then ((Qa.f a4).bind fun t250 => (if t250 = true then ((Gm.f k l0 a1 l2 a3 a4).bind fun t251 => (some t251)) else (some false))) else (some false)))) else (some false)))) else (some false))) else (some false))))) = some r := by first | (rw [hy240]; with_reducible exact H) | (have H2_ := (Option.bind_some _ _).symm.trans H; rw [hy240]; with_reducible exact H2_) | (have H2_ := (Option.bind_some _ _).symm.trans H; with_reducible exact H2_) | with_reducible exact H | (rw [hy240]; exact H) | exact H
 have Ny240 := Aside0.mk hy240
 clear hy240
 replace H := Option.bind_eq_some_iff.mp H
 obtain ⟨t243, A60, H⟩ := H
 replace H : (if t243 = true then (some false) else ((Ga.f k l0).bind fun t244 => (if t244 = true then ((Gj.f a1).bind fun t245 => (if t245 = true then (if (l2.length : Int) = 0 then (some false) else ((Gd.f k l2).bind fun t246 => (if t246 = true then (if a3.toList = ([] : List UInt8) then ((Qa.f a4).bind fun t247 => (if t247 = true then ((Gm.f k l0 a1 l2 a3 a4).bind fun t248 => (some t248)) else (some false))) else ((Gj.f a3).bind fun t249 => (if t249 = true then ((Qa.f a4).bind fun t250 => (if t250 = true then ((Gm.f k l0 a1 l2 a3 a4).bind fun t251 => (some t251)) else (some false))) else (some false)))) else (some false)))) else (some false))) else (some false)))) = some r := H
 have A6 := Aside0.mk A60
 clear A60
 by_cases c7 : t243 = true
 ·subst c7
  have H1 : (some false) = some r := by rw [if_pos rfl] at H; exact H
  clear H
  have H := H1
  clear H1
  obtain rfl := Option.some.inj H
  clear H
  go_enter Tryz.func27, Tryz.ntmps27
  go_wp2_with (first | ((with_reducible refine gate_dst (N := 13) rfl ?_); (try (refine gate_guard (by rfl) ?_; dsimp only)); refine Kd.R_lit Kd.string _ 9 ?hg (N := 13) ?hd (xs := ([a1, a3] : List ByteArray)) (inner := [.string a1, .string a3]) (ok := fun _ => True) (okp := fun _ => True) ?hr ?hp (fun _ hk => hk) trivial (Below.refl _ _) (Nat.le_refl _) (by simp) ?_; (case hd => rfl); (case hg => rfl); (case hr => first | (go_simp; done) | (go_simp; rfl)); (case hp => exact (Reps.one (show Kd.M Kd.string _ _ _ a1 [.string a1] from rfl) (Reps.one (show Kd.M Kd.string _ _ _ a3 [.string a3] from rfl) (Reps.none _ _)))); intro v241 w8 ho9 hb hg_ hnew_; clear hg_ hnew_; (first | rw [← Ny240.out] at ho9 | (simp only [Int.reduceToNat] at ho9; rw [← Ny240.out] at ho9)); have n0_ := Aside0.mk (Kd.R_lower ho9 (below_size HBa)); have n1_ := Aside0.mk (below_step HBa hb); clear HB; have HO242 := n0_; have HB := n1_; clear n0_ n1_; clear hb ho9; obtain ⟨Ao10, co10, eo10⟩ := Kd.R_slice HO242.out; subst eo10) | ((with_reducible refine gate_callee (f := 43) rfl ?_); refine goesL_ (some 14) rfl rfl Tryz.func43 (by kernel_rfl) rfl #[.slice Ao10 y240.length co10] rfl MPz ?_; (with_reducible refine (Gv.calls k _ _ y240 true _ ?side1 ?side2 A6.out).mono ?_); (case side1 => repeat (first | exact (Kd.R_reads' HO242.out).2.2 | (with_reducible refine Kd.C_alloc ?_ _) | (with_reducible refine Kd.C_drewN ?_ _) | (with_reducible refine Kd.C_drew ?_))); (case side2 => exact (Kd.R_reads' HO242.out).2.1); rintro e w' ⟨rfl, ⟨nd, rfl⟩⟩; refine ⟨_, rfl, ?_⟩))
  go_ret
  exact ⟨EZa, HBa⟩
 replace c7 := Bool.eq_false_iff.mpr c7
 subst c7
 have H1 : ((Ga.f k l0).bind fun t244 => (if t244 = true then ((Gj.f a1).bind fun t245 => (if t245 = true then (if (l2.length : Int) = 0 then (some false) else ((Gd.f k l2).bind fun t246 => (if t246 = true then (if a3.toList = ([] : List UInt8) then ((Qa.f a4).bind fun t247 => (if t247 = true then ((Gm.f k l0 a1 l2 a3 a4).bind fun t248 => (some t248)) else (some false))) else ((Gj.f a3).bind fun t249 => (if t249 = true then ((Qa.f a4).bind fun t250 => (if t250 = true then ((Gm.f k l0 a1 l2 a3 a4).bind fun t251 => (some t251)) else (some false))) else (some false)))) else (some false)))) else (some false))) else (some false))) = some r := by rw [if_neg (show ¬ (false = true) by decide)] at H; exact H
 clear H
 have H := H1
 clear H1
 replace H := Option.bind_eq_some_iff.mp H
 obtain ⟨t244, A110, H⟩ := H
 replace H : (if t244 = true then ((Gj.f a1).bind fun t245 => (if t245 = true then (if (l2.length : Int) = 0 then (some false) else ((Gd.f k l2).bind fun t246 => (if t246 = true then (if a3.toList = ([] : List UInt8) then ((Qa.f a4).bind fun t247 => (if t247 = true then ((Gm.f k l0 a1 l2 a3 a4).bind fun t248 => (some t248)) else (some false))) else ((Gj.f a3).bind fun t249 => (if t249 = true then ((Qa.f a4).bind fun t250 => (if t250 = true then ((Gm.f k l0 a1 l2 a3 a4).bind fun t251 => (some t251)) else (some false))) else (some false)))) else (some false)))) else (some false))) else (some false)) = some r := H
 have A11 := Aside0.mk A110
 clear A110
 by_cases c12 : t244 = true
 rotate_left
 ·replace c12 := Bool.eq_false_iff.mpr c12
  subst c12
  have H1 : (some false) = some r := by rw [if_neg (show ¬ (false = true) by decide)] at H; exact H
  clear H
  have H := H1
  clear H1
  obtain rfl := Option.some.inj H
  clear H
  go_enter Tryz.func27, Tryz.ntmps27
  go_wp2_with (first | ((with_reducible refine gate_dst (N := 13) rfl ?_); (try (refine gate_guard (by rfl) ?_; dsimp only)); refine Kd.R_lit Kd.string _ 9 ?hg (N := 13) ?hd (xs := ([a1, a3] : List ByteArray)) (inner := [.string a1, .string a3]) (ok := fun _ => True) (okp := fun _ => True) ?hr ?hp (fun _ hk => hk) trivial (Below.refl _ _) (Nat.le_refl _) (by simp) ?_; (case hd => rfl); (case hg => rfl); (case hr => first | (go_simp; done) | (go_simp; rfl)); (case hp => exact (Reps.one (show Kd.M Kd.string _ _ _ a1 [.string a1] from rfl) (Reps.one (show Kd.M Kd.string _ _ _ a3 [.string a3] from rfl) (Reps.none _ _)))); intro v241 w78 ho79 hb hg_ hnew_; clear hg_ hnew_; (first | rw [← Ny240.out] at ho79 | (simp only [Int.reduceToNat] at ho79; rw [← Ny240.out] at ho79)); have n0_ := Aside0.mk (Kd.R_lower ho79 (below_size HBa)); have n1_ := Aside0.mk (below_step HBa hb); clear HB; have HO242 := n0_; have HB := n1_; clear n0_ n1_; clear hb ho79; obtain ⟨Ao80, co80, eo80⟩ := Kd.R_slice HO242.out; subst eo80) | ((with_reducible refine gate_callee (f := 43) rfl ?_); refine goesL_ (some 14) rfl rfl Tryz.func43 (by kernel_rfl) rfl #[.slice Ao80 y240.length co80] rfl MPz ?_; (with_reducible refine (Gv.calls k _ _ y240 false _ ?side1 ?side2 A6.out).mono ?_); (case side1 => repeat (first | exact (Kd.R_reads' HO242.out).2.2 | (with_reducible refine Kd.C_alloc ?_ _) | (with_reducible refine Kd.C_drewN ?_ _) | (with_reducible refine Kd.C_drew ?_))); (case side2 => exact (Kd.R_reads' HO242.out).2.1); rintro e w' ⟨rfl, ⟨nd, rfl⟩⟩; refine ⟨_, rfl, ?_⟩) | (go_at_call 29; (with_reducible refine (Ga.calls k _ _ l0 false _ ?side1 ?side2 A11.out).mono ?_); (case side1 => repeat (first | exact (Kd.C_below HR0.out HBa) | (with_reducible refine Kd.C_alloc ?_ _) | (with_reducible refine Kd.C_drewN ?_ _) | (with_reducible refine Kd.C_drew ?_))); (case side2 => exact HC0.out); rintro e w81 ⟨rfl, hb⟩; have n0_ := Aside0.mk (Kd.R_below (KRz HO242) hb); have n1_ := Aside0.mk (below_step HBa hb); clear HO242; clear HB; have HO242 := n0_; have HB := n1_; clear n0_ n1_; (try clear hb); (try clear hb2); (try clear hk); (try clear hi)))
  go_ret
  exact ⟨EZa, HBa⟩
 subst c12
 have H1 : ((Gj.f a1).bind fun t245 => (if t245 = true then (if (l2.length : Int) = 0 then (some false) else ((Gd.f k l2).bind fun t246 => (if t246 = true then (if a3.toList = ([] : List UInt8) then ((Qa.f a4).bind fun t247 => (if t247 = true then ((Gm.f k l0 a1 l2 a3 a4).bind fun t248 => (some t248)) else (some false))) else ((Gj.f a3).bind fun t249 => (if t249 = true then ((Qa.f a4).bind fun t250 => (if t250 = true then ((Gm.f k l0 a1 l2 a3 a4).bind fun t251 => (some t251)) else (some false))) else (some false)))) else (some false)))) else (some false))) = some r := by rw [if_pos rfl] at H; exact H
 clear H
 have H := H1
 clear H1
 replace H := Option.bind_eq_some_iff.mp H
 obtain ⟨t245, A130, H⟩ := H
 replace H : (if t245 = true then (if (l2.length : Int) = 0 then (some false) else ((Gd.f k l2).bind fun t246 => (if t246 = true then (if a3.toList = ([] : List UInt8) then ((Qa.f a4).bind fun t247 => (if t247 = true then ((Gm.f k l0 a1 l2 a3 a4).bind fun t248 => (some t248)) else (some false))) else ((Gj.f a3).bind fun t249 => (if t249 = true then ((Qa.f a4).bind fun t250 => (if t250 = true then ((Gm.f k l0 a1 l2 a3 a4).bind fun t251 => (some t251)) else (some false))) else (some false)))) else (some false)))) else (some false)) = some r := H
 have A13 := Aside0.mk A130
 clear A130
 by_cases c14 : t245 = true
 rotate_left
 ·replace c14 := Bool.eq_false_iff.mpr c14
  subst c14
  have H1 : (some false) = some r := by rw [if_neg (show ¬ (false = true) by decide)] at H; exact H
  clear H
  have H := H1
  clear H1
  obtain rfl := Option.some.inj H
  clear H
  go_enter Tryz.func27, Tryz.ntmps27
  go_wp2_with (first | ((with_reducible refine gate_dst (N := 13) rfl ?_); (try (refine gate_guard (by rfl) ?_; dsimp only)); refine Kd.R_lit Kd.string _ 9 ?hg (N := 13) ?hd (xs := ([a1, a3] : List ByteArray)) (inner := [.string a1, .string a3]) (ok := fun _ => True) (okp := fun _ => True) ?hr ?hp (fun _ hk => hk) trivial (Below.refl _ _) (Nat.le_refl _) (by simp) ?_; (case hd => rfl); (case hg => rfl); (case hr => first | (go_simp; done) | (go_simp; rfl)); (case hp => exact (Reps.one (show Kd.M Kd.string _ _ _ a1 [.string a1] from rfl) (Reps.one (show Kd.M Kd.string _ _ _ a3 [.string a3] from rfl) (Reps.none _ _)))); intro v241 w73 ho74 hb hg_ hnew_; clear hg_ hnew_; (first | rw [← Ny240.out] at ho74 | (simp only [Int.reduceToNat] at ho74; rw [← Ny240.out] at ho74)); have n0_ := Aside0.mk (Kd.R_lower ho74 (below_size HBa)); have n1_ := Aside0.mk (below_step HBa hb); clear HB; have HO242 := n0_; have HB := n1_; clear n0_ n1_; clear hb ho74; obtain ⟨Ao75, co75, eo75⟩ := Kd.R_slice HO242.out; subst eo75) | ((with_reducible refine gate_callee (f := 43) rfl ?_); refine goesL_ (some 14) rfl rfl Tryz.func43 (by kernel_rfl) rfl #[.slice Ao75 y240.length co75] rfl MPz ?_; (with_reducible refine (Gv.calls k _ _ y240 false _ ?side1 ?side2 A6.out).mono ?_); (case side1 => repeat (first | exact (Kd.R_reads' HO242.out).2.2 | (with_reducible refine Kd.C_alloc ?_ _) | (with_reducible refine Kd.C_drewN ?_ _) | (with_reducible refine Kd.C_drew ?_))); (case side2 => exact (Kd.R_reads' HO242.out).2.1); rintro e w' ⟨rfl, ⟨nd, rfl⟩⟩; refine ⟨_, rfl, ?_⟩) | (go_at_call 29; (with_reducible refine (Ga.calls k _ _ l0 true _ ?side1 ?side2 A11.out).mono ?_); (case side1 => repeat (first | exact (Kd.C_below HR0.out HBa) | (with_reducible refine Kd.C_alloc ?_ _) | (with_reducible refine Kd.C_drewN ?_ _) | (with_reducible refine Kd.C_drew ?_))); (case side2 => exact HC0.out); rintro e w76 ⟨rfl, hb⟩; have n0_ := Aside0.mk (Kd.R_below (KRz HO242) hb); have n1_ := Aside0.mk (below_step HBa hb); clear HO242; clear HB; have HO242 := n0_; have HB := n1_; clear n0_ n1_; (try clear hb); (try clear hb2); (try clear hk); (try clear hi)) | (go_at_call 59; (with_reducible refine (Gj.calls a1 false _ A13.out).mono ?_); rintro e w77 ⟨rfl, hb⟩; have n0_ := Aside0.mk (Kd.R_below (KRz HO242) hb); have n1_ := Aside0.mk (below_step HBa hb); clear HO242; clear HB; have HO242 := n0_; have HB := n1_; clear n0_ n1_; (try clear hb); (try clear hb2); (try clear hk); (try clear hi)))
  go_ret
  exact ⟨EZa, HBa⟩
 subst c14
 have H1 : (if (l2.length : Int) = 0 then (some false) else ((Gd.f k l2).bind fun t246 => (if t246 = true then (if a3.toList = ([] : List UInt8) then ((Qa.f a4).bind fun t247 => (if t247 = true then ((Gm.f k l0 a1 l2 a3 a4).bind fun t248 => (some t248)) else (some false))) else ((Gj.f a3).bind fun t249 => (if t249 = true then ((Qa.f a4).bind fun t250 => (if t250 = true then ((Gm.f k l0 a1 l2 a3 a4).bind fun t251 => (some t251)) else (some false))) else (some false)))) else (some false)))) = some r := by rw [if_pos rfl] at H; exact H
 clear H
 have H := H1
 clear H1
 by_cases c15 : (l2.length : Int) = 0
 ·rw [if_pos c15] at H
  obtain ⟨c15b0, c15b1⟩ := QTz c15
  clear c15
  obtain rfl := Option.some.inj H
  clear H
  go_enter Tryz.func27, Tryz.ntmps27
  go_wp2_with (first | ((with_reducible refine gate_dst (N := 13) rfl ?_); (try (refine gate_guard (by rfl) ?_; dsimp only)); refine Kd.R_lit Kd.string _ 9 ?hg (N := 13) ?hd (xs := ([a1, a3] : List ByteArray)) (inner := [.string a1, .string a3]) (ok := fun _ => True) (okp := fun _ => True) ?hr ?hp (fun _ hk => hk) trivial (Below.refl _ _) (Nat.le_refl _) (by simp) ?_; (case hd => rfl); (case hg => rfl); (case hr => first | (go_simp; done) | (go_simp; rfl)); (case hp => exact (Reps.one (show Kd.M Kd.string _ _ _ a1 [.string a1] from rfl) (Reps.one (show Kd.M Kd.string _ _ _ a3 [.string a3] from rfl) (Reps.none _ _)))); intro v241 w16 ho17 hb hg_ hnew_; clear hg_ hnew_; (first | rw [← Ny240.out] at ho17 | (simp only [Int.reduceToNat] at ho17; rw [← Ny240.out] at ho17)); have n0_ := Aside0.mk (Kd.R_lower ho17 (below_size HBa)); have n1_ := Aside0.mk (below_step HBa hb); clear HB; have HO242 := n0_; have HB := n1_; clear n0_ n1_; clear hb ho17; obtain ⟨Ao18, co18, eo18⟩ := Kd.R_slice HO242.out; subst eo18) | ((with_reducible refine gate_callee (f := 43) rfl ?_); refine goesL_ (some 14) rfl rfl Tryz.func43 (by kernel_rfl) rfl #[.slice Ao18 y240.length co18] rfl MPz ?_; (with_reducible refine (Gv.calls k _ _ y240 false _ ?side1 ?side2 A6.out).mono ?_); (case side1 => repeat (first | exact (Kd.R_reads' HO242.out).2.2 | (with_reducible refine Kd.C_alloc ?_ _) | (with_reducible refine Kd.C_drewN ?_ _) | (with_reducible refine Kd.C_drew ?_))); (case side2 => exact (Kd.R_reads' HO242.out).2.1); rintro e w' ⟨rfl, ⟨nd, rfl⟩⟩; refine ⟨_, rfl, ?_⟩) | (go_at_call 29; (with_reducible refine (Ga.calls k _ _ l0 true _ ?side1 ?side2 A11.out).mono ?_); (case side1 => repeat (first | exact (Kd.C_below HR0.out HBa) | (with_reducible refine Kd.C_alloc ?_ _) | (with_reducible refine Kd.C_drewN ?_ _) | (with_reducible refine Kd.C_drew ?_))); (case side2 => exact HC0.out); rintro e w19 ⟨rfl, hb⟩; have n0_ := Aside0.mk (Kd.R_below (KRz HO242) hb); have n1_ := Aside0.mk (below_step HBa hb); clear HO242; clear HB; have HO242 := n0_; have HB := n1_; clear n0_ n1_; (try clear hb); (try clear hb2); (try clear hk); (try clear hi)) | (go_at_call 59; (with_reducible refine (Gj.calls a1 true _ A13.out).mono ?_); rintro e w20 ⟨rfl, hb⟩; have n0_ := Aside0.mk (Kd.R_below (KRz HO242) hb); have n1_ := Aside0.mk (below_step HBa hb); clear HO242; clear HB; have HO242 := n0_; have HB := n1_; clear n0_ n1_; (try clear hb); (try clear hb2); (try clear hk); (try clear hi)))
  go_ret
  exact ⟨EZa, HBa⟩
 rw [if_neg c15] at H
 obtain ⟨c15b0, c15b1⟩ := QFz c15
 have c15b2 : ¬ (l2 = []) := fun h_ => c15 (by rw [h_]; rfl)
 replace H := Option.bind_eq_some_iff.mp H
 obtain ⟨t246, A210, H⟩ := H
 replace H : (if t246 = true then (if a3.toList = ([] : List UInt8) then ((Qa.f a4).bind fun t247 => (if t247 = true then ((Gm.f k l0 a1 l2 a3 a4).bind fun t248 => (some t248)) else (some false))) else ((Gj.f a3).bind fun t249 => (if t249 = true then ((Qa.f a4).bind fun t250 => (if t250 = true then ((Gm.f k l0 a1 l2 a3 a4).bind fun t251 => (some t251)) else (some false))) else (some false)))) else (some false)) = some r := H
 have A21 := Aside0.mk A210
 clear A210
 by_cases c22 : t246 = true
 rotate_left
 ·replace c22 := Bool.eq_false_iff.mpr c22
  subst c22
  have H1 : (some false) = some r := by rw [if_neg (show ¬ (false = true) by decide)] at H; exact H
  clear H
  have H := H1
  clear H1
  obtain rfl := Option.some.inj H
  clear H
  go_enter Tryz.func27, Tryz.ntmps27
  go_wp2_with (first | ((with_reducible refine gate_dst (N := 13) rfl ?_); (try (refine gate_guard (by rfl) ?_; dsimp only)); refine Kd.R_lit Kd.string _ 9 ?hg (N := 13) ?hd (xs := ([a1, a3] : List ByteArray)) (inner := [.string a1, .string a3]) (ok := fun _ => True) (okp := fun _ => True) ?hr ?hp (fun _ hk => hk) trivial (Below.refl _ _) (Nat.le_refl _) (by simp) ?_; (case hd => rfl); (case hg => rfl); (case hr => first | (go_simp; done) | (go_simp; rfl)); (case hp => exact (Reps.one (show Kd.M Kd.string _ _ _ a1 [.string a1] from rfl) (Reps.one (show Kd.M Kd.string _ _ _ a3 [.string a3] from rfl) (Reps.none _ _)))); intro v241 w67 ho68 hb hg_ hnew_; clear hg_ hnew_; (first | rw [← Ny240.out] at ho68 | (simp only [Int.reduceToNat] at ho68; rw [← Ny240.out] at ho68)); have n0_ := Aside0.mk (Kd.R_lower ho68 (below_size HBa)); have n1_ := Aside0.mk (below_step HBa hb); clear HB; have HO242 := n0_; have HB := n1_; clear n0_ n1_; clear hb ho68; obtain ⟨Ao69, co69, eo69⟩ := Kd.R_slice HO242.out; subst eo69) | ((with_reducible refine gate_callee (f := 43) rfl ?_); refine goesL_ (some 14) rfl rfl Tryz.func43 (by kernel_rfl) rfl #[.slice Ao69 y240.length co69] rfl MPz ?_; (with_reducible refine (Gv.calls k _ _ y240 false _ ?side1 ?side2 A6.out).mono ?_); (case side1 => repeat (first | exact (Kd.R_reads' HO242.out).2.2 | (with_reducible refine Kd.C_alloc ?_ _) | (with_reducible refine Kd.C_drewN ?_ _) | (with_reducible refine Kd.C_drew ?_))); (case side2 => exact (Kd.R_reads' HO242.out).2.1); rintro e w' ⟨rfl, ⟨nd, rfl⟩⟩; refine ⟨_, rfl, ?_⟩) | (go_at_call 29; (with_reducible refine (Ga.calls k _ _ l0 true _ ?side1 ?side2 A11.out).mono ?_); (case side1 => repeat (first | exact (Kd.C_below HR0.out HBa) | (with_reducible refine Kd.C_alloc ?_ _) | (with_reducible refine Kd.C_drewN ?_ _) | (with_reducible refine Kd.C_drew ?_))); (case side2 => exact HC0.out); rintro e w70 ⟨rfl, hb⟩; have n0_ := Aside0.mk (Kd.R_below (KRz HO242) hb); have n1_ := Aside0.mk (below_step HBa hb); clear HO242; clear HB; have HO242 := n0_; have HB := n1_; clear n0_ n1_; (try clear hb); (try clear hb2); (try clear hk); (try clear hi)) | (go_at_call 59; (with_reducible refine (Gj.calls a1 true _ A13.out).mono ?_); rintro e w71 ⟨rfl, hb⟩; have n0_ := Aside0.mk (Kd.R_below (KRz HO242) hb); have n1_ := Aside0.mk (below_step HBa hb); clear HO242; clear HB; have HO242 := n0_; have HB := n1_; clear n0_ n1_; (try clear hb); (try clear hb2); (try clear hk); (try clear hi)) | (go_at_call 60; (with_reducible refine (Gd.calls k _ _ l2 false _ ?side1 ?side2 A21.out).mono ?_); (case side1 => exact KCz (Kd.C_below HR2.out HB.out)); (case side2 => exact HC2.out); rintro e w72 ⟨rfl, hb⟩; have n0_ := Aside0.mk (Kd.R_below (KRz HO242) hb); have n1_ := Aside0.mk (below_step HBa hb); clear HO242; clear HB; have HO242 := n0_; have HB := n1_; clear n0_ n1_; (try clear hb); (try clear hb2); (try clear hk); (try clear hi)))
  go_ret
  exact ⟨EZa, HBa⟩
 subst c22
 have H1 : (if a3.toList = ([] : List UInt8) then ((Qa.f a4).bind fun t247 => (if t247 = true then ((Gm.f k l0 a1 l2 a3 a4).bind fun t248 => (some t248)) else (some false))) else ((Gj.f a3).bind fun t249 => (if t249 = true then ((Qa.f a4).bind fun t250 => (if t250 = true then ((Gm.f k l0 a1 l2 a3 a4).bind fun t251 => (some t251)) else (some false))) else (some false)))) = some r := by rw [if_pos rfl] at H; exact H
 clear H
 have H := H1
 clear H1
 by_cases c23 : a3.toList = ([] : List UInt8)
 ·rw [if_pos c23] at H
  obtain ⟨c23b0, c23b1⟩ := QTz c23
  clear c23
  replace H := Option.bind_eq_some_iff.mp H
  obtain ⟨t247, A240, H⟩ := H
  replace H : (if t247 = true then ((Gm.f k l0 a1 l2 a3 a4).bind fun t248 => (some t248)) else (some false)) = some r := H
  have A24 := Aside0.mk A240
  clear A240
  by_cases c25 : t247 = true
  ·subst c25
   have H1 : ((Gm.f k l0 a1 l2 a3 a4).bind fun t248 => (some t248)) = some r := by rw [if_pos rfl] at H; exact H
   clear H
   have H := H1
   clear H1
   replace H := Option.bind_eq_some_iff.mp H
   obtain ⟨t248, A260, H⟩ := H
   replace H : (some t248) = some r := H
   have A26 := Aside0.mk A260
   clear A260
   obtain rfl := Option.some.inj H
   clear H
   go_enter Tryz.func27, Tryz.ntmps27
   go_wp2_with (first | ((with_reducible refine gate_dst (N := 13) rfl ?_); (try (refine gate_guard (by rfl) ?_; dsimp only)); refine Kd.R_lit Kd.string _ 9 ?hg (N := 13) ?hd (xs := ([a1, a3] : List ByteArray)) (inner := [.string a1, .string a3]) (ok := fun _ => True) (okp := fun _ => True) ?hr ?hp (fun _ hk => hk) trivial (Below.refl _ _) (Nat.le_refl _) (by simp) ?_; (case hd => rfl); (case hg => rfl); (case hr => first | (go_simp; done) | (go_simp; rfl)); (case hp => exact (Reps.one (show Kd.M Kd.string _ _ _ a1 [.string a1] from rfl) (Reps.one (show Kd.M Kd.string _ _ _ a3 [.string a3] from rfl) (Reps.none _ _)))); intro v241 w27 ho28 hb hg_ hnew_; clear hg_ hnew_; (first | rw [← Ny240.out] at ho28 | (simp only [Int.reduceToNat] at ho28; rw [← Ny240.out] at ho28)); have n0_ := Aside0.mk (Kd.R_lower ho28 (below_size HBa)); have n1_ := Aside0.mk (below_step HBa hb); clear HB; have HO242 := n0_; have HB := n1_; clear n0_ n1_; clear hb ho28; obtain ⟨Ao29, co29, eo29⟩ := Kd.R_slice HO242.out; subst eo29) | ((with_reducible refine gate_callee (f := 43) rfl ?_); refine goesL_ (some 14) rfl rfl Tryz.func43 (by kernel_rfl) rfl #[.slice Ao29 y240.length co29] rfl MPz ?_; (with_reducible refine (Gv.calls k _ _ y240 false _ ?side1 ?side2 A6.out).mono ?_); (case side1 => repeat (first | exact (Kd.R_reads' HO242.out).2.2 | (with_reducible refine Kd.C_alloc ?_ _) | (with_reducible refine Kd.C_drewN ?_ _) | (with_reducible refine Kd.C_drew ?_))); (case side2 => exact (Kd.R_reads' HO242.out).2.1); rintro e w' ⟨rfl, ⟨nd, rfl⟩⟩; refine ⟨_, rfl, ?_⟩) | (go_at_call 29; (with_reducible refine (Ga.calls k _ _ l0 true _ ?side1 ?side2 A11.out).mono ?_); (case side1 => repeat (first | exact (Kd.C_below HR0.out HBa) | (with_reducible refine Kd.C_alloc ?_ _) | (with_reducible refine Kd.C_drewN ?_ _) | (with_reducible refine Kd.C_drew ?_))); (case side2 => exact HC0.out); rintro e w30 ⟨rfl, hb⟩; have n0_ := Aside0.mk (Kd.R_below (KRz HO242) hb); have n1_ := Aside0.mk (below_step HBa hb); clear HO242; clear HB; have HO242 := n0_; have HB := n1_; clear n0_ n1_; (try clear hb); (try clear hb2); (try clear hk); (try clear hi)) | (go_at_call 59; (with_reducible refine (Gj.calls a1 true _ A13.out).mono ?_); rintro e w31 ⟨rfl, hb⟩; have n0_ := Aside0.mk (Kd.R_below (KRz HO242) hb); have n1_ := Aside0.mk (below_step HBa hb); clear HO242; clear HB; have HO242 := n0_; have HB := n1_; clear n0_ n1_; (try clear hb); (try clear hb2); (try clear hk); (try clear hi)) | (go_at_call 60; (with_reducible refine (Gd.calls k _ _ l2 true _ ?side1 ?side2 A21.out).mono ?_); (case side1 => exact KCz (Kd.C_below HR2.out HB.out)); (case side2 => exact HC2.out); rintro e w32 ⟨rfl, hb⟩; have n0_ := Aside0.mk (Kd.R_below (KRz HO242) hb); have n1_ := Aside0.mk (below_step HBa hb); clear HO242; clear HB; have HO242 := n0_; have HB := n1_; clear n0_ n1_; (try clear hb); (try clear hb2); (try clear hk); (try clear hi)) | (go_at_call 61; (with_reducible refine (Qa.calls a4 true _ A24.out).mono ?_); rintro e w' ⟨rfl, ⟨nd, rfl⟩⟩) | ((with_reducible refine gate_callee (f := 62) rfl ?_); refine goesL_ (some 54) rfl rfl Tryz.func62 (by kernel_rfl) rfl #[.slice A0 l0.length c0, .string a1, .slice A2 l2.length c2, .string a3, .int .i64 a4] rfl MPz ?_; (with_reducible refine (Gm.calls k _ _ l0 a1 _ _ l2 a3 a4 t248 _ ?side1 ?side2 ?side3 ?side4 A26.out).mono ?_); (case side1 => repeat (first | exact (Kd.C_below HR0.out HBa) | (with_reducible refine Kd.C_alloc ?_ _) | (with_reducible refine Kd.C_drewN ?_ _) | (with_reducible refine Kd.C_drew ?_))); (case side2 => exact HC0.out); (case side3 => repeat (first | exact (Kd.C_below HR2.out HBa) | (with_reducible refine Kd.C_alloc ?_ _) | (with_reducible refine Kd.C_drewN ?_ _) | (with_reducible refine Kd.C_drew ?_))); (case side4 => exact HC2.out); rintro e w33 ⟨rfl, hb⟩; refine ⟨_, rfl, ?_⟩; have n0_ := Aside0.mk (Kd.R_below (KRz HO242) hb); have n1_ := Aside0.mk (below_step HBa hb); clear HO242; clear HB; have HO242 := n0_; have HB := n1_; clear n0_ n1_; (try clear hb); (try clear hb2); (try clear hk); (try clear hi)))
   go_ret
   exact ⟨EZa, HBa⟩
  replace c25 := Bool.eq_false_iff.mpr c25
  subst c25
  have H1 : (some false) = some r := by rw [if_neg (show ¬ (false = true) by decide)] at H; exact H
  clear H
  have H := H1
  clear H1
  obtain rfl := Option.some.inj H
  clear H
  go_enter Tryz.func27, Tryz.ntmps27
  go_wp2_with (first | ((with_reducible refine gate_dst (N := 13) rfl ?_); (try (refine gate_guard (by rfl) ?_; dsimp only)); refine Kd.R_lit Kd.string _ 9 ?hg (N := 13) ?hd (xs := ([a1, a3] : List ByteArray)) (inner := [.string a1, .string a3]) (ok := fun _ => True) (okp := fun _ => True) ?hr ?hp (fun _ hk => hk) trivial (Below.refl _ _) (Nat.le_refl _) (by simp) ?_; (case hd => rfl); (case hg => rfl); (case hr => first | (go_simp; done) | (go_simp; rfl)); (case hp => exact (Reps.one (show Kd.M Kd.string _ _ _ a1 [.string a1] from rfl) (Reps.one (show Kd.M Kd.string _ _ _ a3 [.string a3] from rfl) (Reps.none _ _)))); intro v241 w34 ho35 hb hg_ hnew_; clear hg_ hnew_; (first | rw [← Ny240.out] at ho35 | (simp only [Int.reduceToNat] at ho35; rw [← Ny240.out] at ho35)); have n0_ := Aside0.mk (Kd.R_lower ho35 (below_size HBa)); have n1_ := Aside0.mk (below_step HBa hb); clear HB; have HO242 := n0_; have HB := n1_; clear n0_ n1_; clear hb ho35; obtain ⟨Ao36, co36, eo36⟩ := Kd.R_slice HO242.out; subst eo36) | ((with_reducible refine gate_callee (f := 43) rfl ?_); refine goesL_ (some 14) rfl rfl Tryz.func43 (by kernel_rfl) rfl #[.slice Ao36 y240.length co36] rfl MPz ?_; (with_reducible refine (Gv.calls k _ _ y240 false _ ?side1 ?side2 A6.out).mono ?_); (case side1 => repeat (first | exact (Kd.R_reads' HO242.out).2.2 | (with_reducible refine Kd.C_alloc ?_ _) | (with_reducible refine Kd.C_drewN ?_ _) | (with_reducible refine Kd.C_drew ?_))); (case side2 => exact (Kd.R_reads' HO242.out).2.1); rintro e w' ⟨rfl, ⟨nd, rfl⟩⟩; refine ⟨_, rfl, ?_⟩) | (go_at_call 29; (with_reducible refine (Ga.calls k _ _ l0 true _ ?side1 ?side2 A11.out).mono ?_); (case side1 => repeat (first | exact (Kd.C_below HR0.out HBa) | (with_reducible refine Kd.C_alloc ?_ _) | (with_reducible refine Kd.C_drewN ?_ _) | (with_reducible refine Kd.C_drew ?_))); (case side2 => exact HC0.out); rintro e w37 ⟨rfl, hb⟩; have n0_ := Aside0.mk (Kd.R_below (KRz HO242) hb); have n1_ := Aside0.mk (below_step HBa hb); clear HO242; clear HB; have HO242 := n0_; have HB := n1_; clear n0_ n1_; (try clear hb); (try clear hb2); (try clear hk); (try clear hi)) | (go_at_call 59; (with_reducible refine (Gj.calls a1 true _ A13.out).mono ?_); rintro e w38 ⟨rfl, hb⟩; have n0_ := Aside0.mk (Kd.R_below (KRz HO242) hb); have n1_ := Aside0.mk (below_step HBa hb); clear HO242; clear HB; have HO242 := n0_; have HB := n1_; clear n0_ n1_; (try clear hb); (try clear hb2); (try clear hk); (try clear hi)) | (go_at_call 60; (with_reducible refine (Gd.calls k _ _ l2 true _ ?side1 ?side2 A21.out).mono ?_); (case side1 => exact KCz (Kd.C_below HR2.out HB.out)); (case side2 => exact HC2.out); rintro e w39 ⟨rfl, hb⟩; have n0_ := Aside0.mk (Kd.R_below (KRz HO242) hb); have n1_ := Aside0.mk (below_step HBa hb); clear HO242; clear HB; have HO242 := n0_; have HB := n1_; clear n0_ n1_; (try clear hb); (try clear hb2); (try clear hk); (try clear hi)) | (go_at_call 61; (with_reducible refine (Qa.calls a4 false _ A24.out).mono ?_); rintro e w' ⟨rfl, ⟨nd, rfl⟩⟩))
  go_ret
  exact ⟨EZa, HBa⟩
 rw [if_neg c23] at H
 obtain ⟨c23b0, c23b1⟩ := QFz c23
 replace H := Option.bind_eq_some_iff.mp H
 obtain ⟨t249, A400, H⟩ := H
 replace H : (if t249 = true then ((Qa.f a4).bind fun t250 => (if t250 = true then ((Gm.f k l0 a1 l2 a3 a4).bind fun t251 => (some t251)) else (some false))) else (some false)) = some r := H
 have A40 := Aside0.mk A400
 clear A400
 by_cases c41 : t249 = true
 rotate_left
 ·replace c41 := Bool.eq_false_iff.mpr c41
  subst c41
  have H1 : (some false) = some r := by rw [if_neg (show ¬ (false = true) by decide)] at H; exact H
  clear H
  have H := H1
  clear H1
  obtain rfl := Option.some.inj H
  clear H
  go_enter Tryz.func27, Tryz.ntmps27
  go_wp2_with (first | ((with_reducible refine gate_dst (N := 13) rfl ?_); (try (refine gate_guard (by rfl) ?_; dsimp only)); refine Kd.R_lit Kd.string _ 9 ?hg (N := 13) ?hd (xs := ([a1, a3] : List ByteArray)) (inner := [.string a1, .string a3]) (ok := fun _ => True) (okp := fun _ => True) ?hr ?hp (fun _ hk => hk) trivial (Below.refl _ _) (Nat.le_refl _) (by simp) ?_; (case hd => rfl); (case hg => rfl); (case hr => first | (go_simp; done) | (go_simp; rfl)); (case hp => exact (Reps.one (show Kd.M Kd.string _ _ _ a1 [.string a1] from rfl) (Reps.one (show Kd.M Kd.string _ _ _ a3 [.string a3] from rfl) (Reps.none _ _)))); intro v241 w60 ho61 hb hg_ hnew_; clear hg_ hnew_; (first | rw [← Ny240.out] at ho61 | (simp only [Int.reduceToNat] at ho61; rw [← Ny240.out] at ho61)); have n0_ := Aside0.mk (Kd.R_lower ho61 (below_size HBa)); have n1_ := Aside0.mk (below_step HBa hb); clear HB; have HO242 := n0_; have HB := n1_; clear n0_ n1_; clear hb ho61; obtain ⟨Ao62, co62, eo62⟩ := Kd.R_slice HO242.out; subst eo62) | ((with_reducible refine gate_callee (f := 43) rfl ?_); refine goesL_ (some 14) rfl rfl Tryz.func43 (by kernel_rfl) rfl #[.slice Ao62 y240.length co62] rfl MPz ?_; (with_reducible refine (Gv.calls k _ _ y240 false _ ?side1 ?side2 A6.out).mono ?_); (case side1 => repeat (first | exact (Kd.R_reads' HO242.out).2.2 | (with_reducible refine Kd.C_alloc ?_ _) | (with_reducible refine Kd.C_drewN ?_ _) | (with_reducible refine Kd.C_drew ?_))); (case side2 => exact (Kd.R_reads' HO242.out).2.1); rintro e w' ⟨rfl, ⟨nd, rfl⟩⟩; refine ⟨_, rfl, ?_⟩) | (go_at_call 29; (with_reducible refine (Ga.calls k _ _ l0 true _ ?side1 ?side2 A11.out).mono ?_); (case side1 => repeat (first | exact (Kd.C_below HR0.out HBa) | (with_reducible refine Kd.C_alloc ?_ _) | (with_reducible refine Kd.C_drewN ?_ _) | (with_reducible refine Kd.C_drew ?_))); (case side2 => exact HC0.out); rintro e w63 ⟨rfl, hb⟩; have n0_ := Aside0.mk (Kd.R_below (KRz HO242) hb); have n1_ := Aside0.mk (below_step HBa hb); clear HO242; clear HB; have HO242 := n0_; have HB := n1_; clear n0_ n1_; (try clear hb); (try clear hb2); (try clear hk); (try clear hi)) | (go_at_call 59; (with_reducible refine (Gj.calls a1 true _ A13.out).mono ?_); rintro e w64 ⟨rfl, hb⟩; have n0_ := Aside0.mk (Kd.R_below (KRz HO242) hb); have n1_ := Aside0.mk (below_step HBa hb); clear HO242; clear HB; have HO242 := n0_; have HB := n1_; clear n0_ n1_; (try clear hb); (try clear hb2); (try clear hk); (try clear hi)) | (go_at_call 60; (with_reducible refine (Gd.calls k _ _ l2 true _ ?side1 ?side2 A21.out).mono ?_); (case side1 => exact KCz (Kd.C_below HR2.out HB.out)); (case side2 => exact HC2.out); rintro e w65 ⟨rfl, hb⟩; have n0_ := Aside0.mk (Kd.R_below (KRz HO242) hb); have n1_ := Aside0.mk (below_step HBa hb); clear HO242; clear HB; have HO242 := n0_; have HB := n1_; clear n0_ n1_; (try clear hb); (try clear hb2); (try clear hk); (try clear hi)) | (go_at_call 59; (with_reducible refine (Gj.calls a3 false _ A40.out).mono ?_); rintro e w66 ⟨rfl, hb⟩; have n0_ := Aside0.mk (Kd.R_below (KRz HO242) hb); have n1_ := Aside0.mk (below_step HBa hb); clear HO242; clear HB; have HO242 := n0_; have HB := n1_; clear n0_ n1_; (try clear hb); (try clear hb2); (try clear hk); (try clear hi)))
  go_ret
  exact ⟨EZa, HBa⟩
 subst c41
 have H1 : ((Qa.f a4).bind fun t250 => (if t250 = true then ((Gm.f k l0 a1 l2 a3 a4).bind fun t251 => (some t251)) else (some false))) = some r := by rw [if_pos rfl] at H; exact H
 clear H
 have H := H1
 clear H1
 replace H := Option.bind_eq_some_iff.mp H
 obtain ⟨t250, A420, H⟩ := H
 replace H : (if t250 = true then ((Gm.f k l0 a1 l2 a3 a4).bind fun t251 => (some t251)) else (some false)) = some r := H
 have A42 := Aside0.mk A420
 clear A420
 by_cases c43 : t250 = true
 ·subst c43
  have H1 : ((Gm.f k l0 a1 l2 a3 a4).bind fun t251 => (some t251)) = some r := by rw [if_pos rfl] at H; exact H
  clear H
  have H := H1
  clear H1
  replace H := Option.bind_eq_some_iff.mp H
  obtain ⟨t251, A440, H⟩ := H
  replace H : (some t251) = some r := H
  have A44 := Aside0.mk A440
  clear A440
  obtain rfl := Option.some.inj H
  clear H
  go_enter Tryz.func27, Tryz.ntmps27
  go_wp2_with (first | ((with_reducible refine gate_dst (N := 13) rfl ?_); (try (refine gate_guard (by rfl) ?_; dsimp only)); refine Kd.R_lit Kd.string _ 9 ?hg (N := 13) ?hd (xs := ([a1, a3] : List ByteArray)) (inner := [.string a1, .string a3]) (ok := fun _ => True) (okp := fun _ => True) ?hr ?hp (fun _ hk => hk) trivial (Below.refl _ _) (Nat.le_refl _) (by simp) ?_; (case hd => rfl); (case hg => rfl); (case hr => first | (go_simp; done) | (go_simp; rfl)); (case hp => exact (Reps.one (show Kd.M Kd.string _ _ _ a1 [.string a1] from rfl) (Reps.one (show Kd.M Kd.string _ _ _ a3 [.string a3] from rfl) (Reps.none _ _)))); intro v241 w45 ho46 hb hg_ hnew_; clear hg_ hnew_; (first | rw [← Ny240.out] at ho46 | (simp only [Int.reduceToNat] at ho46; rw [← Ny240.out] at ho46)); have n0_ := Aside0.mk (Kd.R_lower ho46 (below_size HBa)); have n1_ := Aside0.mk (below_step HBa hb); clear HB; have HO242 := n0_; have HB := n1_; clear n0_ n1_; clear hb ho46; obtain ⟨Ao47, co47, eo47⟩ := Kd.R_slice HO242.out; subst eo47) | ((with_reducible refine gate_callee (f := 43) rfl ?_); refine goesL_ (some 14) rfl rfl Tryz.func43 (by kernel_rfl) rfl #[.slice Ao47 y240.length co47] rfl MPz ?_; (with_reducible refine (Gv.calls k _ _ y240 false _ ?side1 ?side2 A6.out).mono ?_); (case side1 => repeat (first | exact (Kd.R_reads' HO242.out).2.2 | (with_reducible refine Kd.C_alloc ?_ _) | (with_reducible refine Kd.C_drewN ?_ _) | (with_reducible refine Kd.C_drew ?_))); (case side2 => exact (Kd.R_reads' HO242.out).2.1); rintro e w' ⟨rfl, ⟨nd, rfl⟩⟩; refine ⟨_, rfl, ?_⟩) | (go_at_call 29; (with_reducible refine (Ga.calls k _ _ l0 true _ ?side1 ?side2 A11.out).mono ?_); (case side1 => repeat (first | exact (Kd.C_below HR0.out HBa) | (with_reducible refine Kd.C_alloc ?_ _) | (with_reducible refine Kd.C_drewN ?_ _) | (with_reducible refine Kd.C_drew ?_))); (case side2 => exact HC0.out); rintro e w48 ⟨rfl, hb⟩; have n0_ := Aside0.mk (Kd.R_below (KRz HO242) hb); have n1_ := Aside0.mk (below_step HBa hb); clear HO242; clear HB; have HO242 := n0_; have HB := n1_; clear n0_ n1_; (try clear hb); (try clear hb2); (try clear hk); (try clear hi)) | (go_at_call 59; (with_reducible refine (Gj.calls a1 true _ A13.out).mono ?_); rintro e w49 ⟨rfl, hb⟩; have n0_ := Aside0.mk (Kd.R_below (KRz HO242) hb); have n1_ := Aside0.mk (below_step HBa hb); clear HO242; clear HB; have HO242 := n0_; have HB := n1_; clear n0_ n1_; (try clear hb); (try clear hb2); (try clear hk); (try clear hi)) | (go_at_call 60; (with_reducible refine (Gd.calls k _ _ l2 true _ ?side1 ?side2 A21.out).mono ?_); (case side1 => exact KCz (Kd.C_below HR2.out HB.out)); (case side2 => exact HC2.out); rintro e w50 ⟨rfl, hb⟩; have n0_ := Aside0.mk (Kd.R_below (KRz HO242) hb); have n1_ := Aside0.mk (below_step HBa hb); clear HO242; clear HB; have HO242 := n0_; have HB := n1_; clear n0_ n1_; (try clear hb); (try clear hb2); (try clear hk); (try clear hi)) | (go_at_call 59; (with_reducible refine (Gj.calls a3 true _ A40.out).mono ?_); rintro e w51 ⟨rfl, hb⟩; have n0_ := Aside0.mk (Kd.R_below (KRz HO242) hb); have n1_ := Aside0.mk (below_step HBa hb); clear HO242; clear HB; have HO242 := n0_; have HB := n1_; clear n0_ n1_; (try clear hb); (try clear hb2); (try clear hk); (try clear hi)) | (go_at_call 61; (with_reducible refine (Qa.calls a4 true _ A42.out).mono ?_); rintro e w' ⟨rfl, ⟨nd, rfl⟩⟩) | ((with_reducible refine gate_callee (f := 62) rfl ?_); refine goesL_ (some 54) rfl rfl Tryz.func62 (by kernel_rfl) rfl #[.slice A0 l0.length c0, .string a1, .slice A2 l2.length c2, .string a3, .int .i64 a4] rfl MPz ?_; (with_reducible refine (Gm.calls k _ _ l0 a1 _ _ l2 a3 a4 t251 _ ?side1 ?side2 ?side3 ?side4 A44.out).mono ?_); (case side1 => repeat (first | exact (Kd.C_below HR0.out HBa) | (with_reducible refine Kd.C_alloc ?_ _) | (with_reducible refine Kd.C_drewN ?_ _) | (with_reducible refine Kd.C_drew ?_))); (case side2 => exact HC0.out); (case side3 => repeat (first | exact (Kd.C_below HR2.out HBa) | (with_reducible refine Kd.C_alloc ?_ _) | (with_reducible refine Kd.C_drewN ?_ _) | (with_reducible refine Kd.C_drew ?_))); (case side4 => exact HC2.out); rintro e w52 ⟨rfl, hb⟩; refine ⟨_, rfl, ?_⟩; have n0_ := Aside0.mk (Kd.R_below (KRz HO242) hb); have n1_ := Aside0.mk (below_step HBa hb); clear HO242; clear HB; have HO242 := n0_; have HB := n1_; clear n0_ n1_; (try clear hb); (try clear hb2); (try clear hk); (try clear hi)))
  go_ret
  exact ⟨EZa, HBa⟩
 replace c43 := Bool.eq_false_iff.mpr c43
 subst c43
 have H1 : (some false) = some r := by rw [if_neg (show ¬ (false = true) by decide)] at H; exact H
 clear H
 have H := H1
 clear H1
 obtain rfl := Option.some.inj H
 clear H
 go_enter Tryz.func27, Tryz.ntmps27
 go_wp2_with (first | ((with_reducible refine gate_dst (N := 13) rfl ?_); (try (refine gate_guard (by rfl) ?_; dsimp only)); refine Kd.R_lit Kd.string _ 9 ?hg (N := 13) ?hd (xs := ([a1, a3] : List ByteArray)) (inner := [.string a1, .string a3]) (ok := fun _ => True) (okp := fun _ => True) ?hr ?hp (fun _ hk => hk) trivial (Below.refl _ _) (Nat.le_refl _) (by simp) ?_; (case hd => rfl); (case hg => rfl); (case hr => first | (go_simp; done) | (go_simp; rfl)); (case hp => exact (Reps.one (show Kd.M Kd.string _ _ _ a1 [.string a1] from rfl) (Reps.one (show Kd.M Kd.string _ _ _ a3 [.string a3] from rfl) (Reps.none _ _)))); intro v241 w53 ho54 hb hg_ hnew_; clear hg_ hnew_; (first | rw [← Ny240.out] at ho54 | (simp only [Int.reduceToNat] at ho54; rw [← Ny240.out] at ho54)); have n0_ := Aside0.mk (Kd.R_lower ho54 (below_size HBa)); have n1_ := Aside0.mk (below_step HBa hb); clear HB; have HO242 := n0_; have HB := n1_; clear n0_ n1_; clear hb ho54; obtain ⟨Ao55, co55, eo55⟩ := Kd.R_slice HO242.out; subst eo55) | ((with_reducible refine gate_callee (f := 43) rfl ?_); refine goesL_ (some 14) rfl rfl Tryz.func43 (by kernel_rfl) rfl #[.slice Ao55 y240.length co55] rfl MPz ?_; (with_reducible refine (Gv.calls k _ _ y240 false _ ?side1 ?side2 A6.out).mono ?_); (case side1 => repeat (first | exact (Kd.R_reads' HO242.out).2.2 | (with_reducible refine Kd.C_alloc ?_ _) | (with_reducible refine Kd.C_drewN ?_ _) | (with_reducible refine Kd.C_drew ?_))); (case side2 => exact (Kd.R_reads' HO242.out).2.1); rintro e w' ⟨rfl, ⟨nd, rfl⟩⟩; refine ⟨_, rfl, ?_⟩) | (go_at_call 29; (with_reducible refine (Ga.calls k _ _ l0 true _ ?side1 ?side2 A11.out).mono ?_); (case side1 => repeat (first | exact (Kd.C_below HR0.out HBa) | (with_reducible refine Kd.C_alloc ?_ _) | (with_reducible refine Kd.C_drewN ?_ _) | (with_reducible refine Kd.C_drew ?_))); (case side2 => exact HC0.out); rintro e w56 ⟨rfl, hb⟩; have n0_ := Aside0.mk (Kd.R_below (KRz HO242) hb); have n1_ := Aside0.mk (below_step HBa hb); clear HO242; clear HB; have HO242 := n0_; have HB := n1_; clear n0_ n1_; (try clear hb); (try clear hb2); (try clear hk); (try clear hi)) | (go_at_call 59; (with_reducible refine (Gj.calls a1 true _ A13.out).mono ?_); rintro e w57 ⟨rfl, hb⟩; have n0_ := Aside0.mk (Kd.R_below (KRz HO242) hb); have n1_ := Aside0.mk (below_step HBa hb); clear HO242; clear HB; have HO242 := n0_; have HB := n1_; clear n0_ n1_; (try clear hb); (try clear hb2); (try clear hk); (try clear hi)) | (go_at_call 60; (with_reducible refine (Gd.calls k _ _ l2 true _ ?side1 ?side2 A21.out).mono ?_); (case side1 => exact KCz (Kd.C_below HR2.out HB.out)); (case side2 => exact HC2.out); rintro e w58 ⟨rfl, hb⟩; have n0_ := Aside0.mk (Kd.R_below (KRz HO242) hb); have n1_ := Aside0.mk (below_step HBa hb); clear HO242; clear HB; have HO242 := n0_; have HB := n1_; clear n0_ n1_; (try clear hb); (try clear hb2); (try clear hk); (try clear hi)) | (go_at_call 59; (with_reducible refine (Gj.calls a3 true _ A40.out).mono ?_); rintro e w59 ⟨rfl, hb⟩; have n0_ := Aside0.mk (Kd.R_below (KRz HO242) hb); have n1_ := Aside0.mk (below_step HBa hb); clear HO242; clear HB; have HO242 := n0_; have HB := n1_; clear n0_ n1_; (try clear hb); (try clear hb2); (try clear hk); (try clear hi)) | (go_at_call 61; (with_reducible refine (Qa.calls a4 false _ A42.out).mono ?_); rintro e w' ⟨rfl, ⟨nd, rfl⟩⟩))
 go_ret
 exact ⟨EZa, HBa⟩
def Qx.f (a0 : Int) (a1 : Int) (a2 : Int) : Option (Bool) := if a0 ≥ a1 then (some (decide (a0 ≤ a2))) else (some false)
theorem Qx.calls (a0 : Int) (a1 : Int) (a2 : Int) (r : Bool) (w : World) (h : Qx.f a0 a1 a2 = some r) :
  Calls Tryz.prog 63 #[.int .i64 a0, .int .i64 a1, .int .i64 a2] w fun e w' => e = .returned (.bool r) ∧ Drawn0 w w' := by
 have H : (if a0 ≥ a1 then (some (decide (a0 ≤ a2))) else (some false)) = some r := h
 clear h
 by_cases c4 : a0 ≥ a1
 ·rw [if_pos c4] at H
  have c4b0 : decide (a1 ≤ a0) = true := decide_eq_true c4
  clear c4
  obtain rfl := Option.some.inj H
  clear H
  go_enter Tryz.func63, Tryz.ntmps63
  go_wp2
  go_ret
  exact ⟨EZb, DRz⟩
 rw [if_neg c4] at H
 have c4b0 : decide (a1 ≤ a0) = false := decide_eq_false c4
 clear c4
 obtain rfl := Option.some.inj H
 clear H
 go_enter Tryz.func63, Tryz.ntmps63
 go_wp2
 go_ret
 exact ⟨EZb, DRz⟩
def Vk.l0 : Nat → List ByteArray → Int → Option (Bool)
 | 0, _, _ => none
 | k + 1, x0, x3 => if x3 < (x0.length : Int) then (if 0 ≤ x3 then ((Qq.f k (rdOf ByteArray.empty x0 x3)).bind fun t253 => (if t253 = true then (if x3 > 0 then (if 0 ≤ (wrap64 (x3 - 1)) then (if (wrap64 (x3 - 1)) < (x0.length : Int) then (if ((Op.bytesLess ((rdOf ByteArray.empty x0 (wrap64 (x3 - 1))).toList) ((rdOf ByteArray.empty x0 x3).toList)) = true) then (Vk.l0 k x0 (wrap64 (x3 + 1))) else (some false)) else (none)) else (none)) else (Vk.l0 k x0 (wrap64 (x3 + 1)))) else (some false))) else (none)) else (some true)
def Vk.f (k : Nat) (l0 : List ByteArray) : Option (Bool) := Vk.l0 k l0 0
theorem Vk.mono_l : ∀ k, (∀ y0 y1, LeO (Vk.l0 k y0 y1) (Vk.l0 (k + 1) y0 y1))
 | 0 => fun _ _ r h => by simp [Vk.l0] at h
 | k + 1 => by
  have ih0 := Vk.mono_l k
  ·intro y0 y1
   unfold Vk.l0
   with_reducible repeat' first | exact ih0 _ _ | exact Qq.mono _ _ | exact LeO.refl _ | exact LeO.none _ | refine LeO.ite ?_ ?_ | refine LeO.bind ?_ (fun _ => ?_)
theorem Vk.mono : ∀ a0 k, LeO (Vk.f k a0) (Vk.f (k + 1) a0) := by
 intro a0 k
 have ih0 := Vk.mono_l k
 unfold Vk.f
 with_reducible repeat' first | exact ih0 _ _ | exact Qq.mono _ _ | exact LeO.refl _ | exact LeO.none _ | refine LeO.ite ?_ ?_ | refine LeO.bind ?_ (fun _ => ?_)
theorem Vk.calls (k : Nat) (A0 : Option Addr) (c0 : Nat) (l0 : List ByteArray) (r : Bool) (w : World) (hr0 : Kd.C Kd.string w A0 l0.length l0) (hc0 : l0.length ≤ c0) (h : Vk.f k l0 = some r) :
  Calls Tryz.prog 106 #[.slice A0 l0.length c0] w fun e w' => e = .returned (.bool r) ∧ Drawn0 w w' := by
 have HR0 := Aside0.mk hr0
 have HC0 := Aside0.mk hc0
 clear hr0 hc0
 have H : (Vk.l0 k l0 0) = some r := h
 clear h
 have H' := Aside0.mk H
 clear H
 go_enter Tryz.func106, Tryz.ntmps106
 go_wp2
 repeat (go_quiet (fail); try go_wp2)
 go_loopg [3] k (fun kq v3 w' => ∃ (x3_1 : Int), v3 = .int .i64 x3_1 ∧ Aside0 (Vk.l0 kq l0 x3_1 = some r) ∧ Aside0 (kq ≤ k) ∧ Drawn0 w w')
 case atStart => exact ⟨(0), EZc, H', ⟨Nat.le_refl _⟩, DRz⟩
 case round =>
  clear H'
  obtain ⟨x3_1, rfl, HA, HK1, ⟨m1, rfl⟩⟩ := hrel
  cases gk with
  | zero => exact absurd HA.out (by simp [Vk.l0])
  | succ k1 =>
   have H := HA.out
   clear HA
   simp only [Vk.l0] at H
   by_cases c2 : x3_1 < (l0.length : Int)
   rotate_left
   ·rw [if_neg c2] at H
    have c2b0 := decide_eq_false c2
    clear c2
    obtain rfl := Option.some.inj H
    clear H
    go_wp2
    repeat (go_quiet (fail); try go_wp2)
    go_ret
    exact ⟨EZb, DRz⟩
   rw [if_pos c2] at H
   have c2b0 := decide_eq_true c2
   clear c2
   by_cases c3 : 0 ≤ x3_1
   rotate_left
   ·rw [if_neg c3] at H
    exact absurd H (by simp)
   rw [if_pos c3] at H
   have c3b0 := decide_eq_true c3
   clear c3
   replace H := Option.bind_eq_some_iff.mp H
   obtain ⟨t253, A40, H⟩ := H
   replace H : (if t253 = true then (if x3_1 > 0 then (if 0 ≤ (wrap64 (x3_1 - 1)) then (if (wrap64 (x3_1 - 1)) < (l0.length : Int) then (if ((Op.bytesLess ((rdOf ByteArray.empty l0 (wrap64 (x3_1 - 1))).toList) ((rdOf ByteArray.empty l0 x3_1).toList)) = true) then (Vk.l0 k1 l0 (wrap64 (x3_1 + 1))) else (some false)) else (none)) else (none)) else (Vk.l0 k1 l0 (wrap64 (x3_1 + 1)))) else (some false)) = some r := H
   have A4 := Aside0.mk A40
   clear A40
   by_cases c5 : t253 = true
   rotate_left
   ·replace c5 := Bool.eq_false_iff.mpr c5
    subst c5
    have H1 : (some false) = some r := by rw [if_neg (show ¬ (false = true) by decide)] at H; exact H
    clear H
    have H := H1
    clear H1
    obtain rfl := Option.some.inj H
    clear H
    have p252 : 0 ≤ (x3_1 : Int) := ODz
    have q252 : x3_1 < (l0.length : Int) := ODz
    obtain ⟨ad252, e252, hx252_0⟩ := Kd.at_string HR0.out x3_1 p252 q252
    cases e252
    replace p252 := eq_true p252
    replace q252 := eq_true q252
    go_wp2_with (first | (go_at_call 36; (with_reducible refine (Qq.calls k1 (rdOf ByteArray.empty l0 x3_1) false _ A4.out).mono ?_); rintro e w' ⟨rfl, ⟨nd, rfl⟩⟩; (try first | exact ⟨rfl, _, World.drewN_drewN _ _ _⟩ | exact ⟨rfl, _, Eq.trans (World.drewN_drewN _ _ _) (congrArg (World.drewN _) (Nat.add_assoc _ _ _))⟩)))
    repeat (go_quiet (first | (go_at_call 36; (with_reducible refine (Qq.calls k1 (rdOf ByteArray.empty l0 x3_1) false _ A4.out).mono ?_); rintro e w' ⟨rfl, ⟨nd, rfl⟩⟩; (try first | exact ⟨rfl, _, World.drewN_drewN _ _ _⟩ | exact ⟨rfl, _, Eq.trans (World.drewN_drewN _ _ _) (congrArg (World.drewN _) (Nat.add_assoc _ _ _))⟩))); try go_wp2_with (first | (go_at_call 36; (with_reducible refine (Qq.calls k1 (rdOf ByteArray.empty l0 x3_1) false _ A4.out).mono ?_); rintro e w' ⟨rfl, ⟨nd, rfl⟩⟩; (try first | exact ⟨rfl, _, World.drewN_drewN _ _ _⟩ | exact ⟨rfl, _, Eq.trans (World.drewN_drewN _ _ _) (congrArg (World.drewN _) (Nat.add_assoc _ _ _))⟩))))
    go_ret
    exact ⟨EZb, DRz⟩
   subst c5
   have H1 : (if x3_1 > 0 then (if 0 ≤ (wrap64 (x3_1 - 1)) then (if (wrap64 (x3_1 - 1)) < (l0.length : Int) then (if ((Op.bytesLess ((rdOf ByteArray.empty l0 (wrap64 (x3_1 - 1))).toList) ((rdOf ByteArray.empty l0 x3_1).toList)) = true) then (Vk.l0 k1 l0 (wrap64 (x3_1 + 1))) else (some false)) else (none)) else (none)) else (Vk.l0 k1 l0 (wrap64 (x3_1 + 1)))) = some r := by rw [if_pos rfl] at H; exact H
   clear H
   have H := H1
   clear H1
   by_cases c6 : x3_1 > 0
   rotate_left
   ·rw [if_neg c6] at H
    have c6b0 : decide (0 < x3_1) = false := decide_eq_false c6
    clear c6
    have H' := Aside0.mk H
    clear H
    have p252 : 0 ≤ (x3_1 : Int) := ODz
    have q252 : x3_1 < (l0.length : Int) := ODz
    obtain ⟨ad252, e252, hx252_0⟩ := Kd.at_string HR0.out x3_1 p252 q252
    cases e252
    replace p252 := eq_true p252
    replace q252 := eq_true q252
    go_wp2_with (first | (go_at_call 36; (with_reducible refine (Qq.calls k1 (rdOf ByteArray.empty l0 x3_1) true _ A4.out).mono ?_); rintro e w' ⟨rfl, ⟨nd, rfl⟩⟩; (try first | exact ⟨rfl, _, World.drewN_drewN _ _ _⟩ | exact ⟨rfl, _, Eq.trans (World.drewN_drewN _ _ _) (congrArg (World.drewN _) (Nat.add_assoc _ _ _))⟩)))
    repeat (go_quiet (first | (go_at_call 36; (with_reducible refine (Qq.calls k1 (rdOf ByteArray.empty l0 x3_1) true _ A4.out).mono ?_); rintro e w' ⟨rfl, ⟨nd, rfl⟩⟩; (try first | exact ⟨rfl, _, World.drewN_drewN _ _ _⟩ | exact ⟨rfl, _, Eq.trans (World.drewN_drewN _ _ _) (congrArg (World.drewN _) (Nat.add_assoc _ _ _))⟩))); try go_wp2_with (first | (go_at_call 36; (with_reducible refine (Qq.calls k1 (rdOf ByteArray.empty l0 x3_1) true _ A4.out).mono ?_); rintro e w' ⟨rfl, ⟨nd, rfl⟩⟩; (try first | exact ⟨rfl, _, World.drewN_drewN _ _ _⟩ | exact ⟨rfl, _, Eq.trans (World.drewN_drewN _ _ _) (congrArg (World.drewN _) (Nat.add_assoc _ _ _))⟩))))
    go_roundg k1
    case measure => have := HK1.out; omega
    case rel => exact ⟨(wrap64 (x3_1 + 1)), EZc, H', ⟨by have := HK1.out; omega⟩, DRz⟩
   rw [if_pos c6] at H
   have c6b0 : decide (0 < x3_1) = true := decide_eq_true c6
   clear c6
   obtain ⟨ji7, hji7⟩ : ∃ j_ : Int, (wrap64 (x3_1 - 1)) = j_ := ⟨_, rfl⟩
   replace H : (if 0 ≤ (ji7) then (if (ji7) < (l0.length : Int) then (if ((Op.bytesLess ((rdOf ByteArray.empty l0 (ji7)).toList) ((rdOf ByteArray.empty l0 x3_1).toList)) = true) then (Vk.l0 k1 l0 (wrap64 (x3_1 + 1))) else (some false)) else (none)) else (none)) = some r := by first | (rw [hji7] at H; exact H) | (simp only [hji7] at H ⊢; exact H)
   (try rw [hji7] at A4)
   have hji7w : (IntKind.i64.wrap (x3_1 - 1)) = ji7 := (i64_w _).trans hji7
   by_cases c8 : 0 ≤ (ji7)
   rotate_left
   ·rw [if_neg c8] at H
    exact absurd H (by simp)
   rw [if_pos c8] at H
   have c8b0 := decide_eq_true c8
   clear c8
   by_cases c9 : (ji7) < (l0.length : Int)
   rotate_left
   ·rw [if_neg c9] at H
    exact absurd H (by simp)
   rw [if_pos c9] at H
   have c9b0 := decide_eq_true c9
   clear c9
   by_cases c10 : ((Op.bytesLess ((rdOf ByteArray.empty l0 (ji7)).toList) ((rdOf ByteArray.empty l0 x3_1).toList)) = true)
   ·rw [if_pos c10] at H
    have c10b0 : (Op.bytesLess ((rdOf ByteArray.empty l0 (ji7)).toList) ((rdOf ByteArray.empty l0 x3_1).toList)) = true := c10
    clear c10
    have H' := Aside0.mk H
    clear H
    have p252 : 0 ≤ (x3_1 : Int) := ODz
    have q252 : x3_1 < (l0.length : Int) := ODz
    obtain ⟨ad252, e252, hx252_0⟩ := Kd.at_string HR0.out x3_1 p252 q252
    cases e252
    replace p252 := eq_true p252
    replace q252 := eq_true q252
    go_wp2_with (first | (go_at_call 36; (with_reducible refine (Qq.calls k1 (rdOf ByteArray.empty l0 x3_1) true _ A4.out).mono ?_); rintro e w' ⟨rfl, ⟨nd, rfl⟩⟩; (try first | exact ⟨rfl, _, World.drewN_drewN _ _ _⟩ | exact ⟨rfl, _, Eq.trans (World.drewN_drewN _ _ _) (congrArg (World.drewN _) (Nat.add_assoc _ _ _))⟩); have p254 : 0 ≤ ((ji7) : Int) := ODz; have q254 : (ji7) < (l0.length : Int) := ODz; obtain ⟨ad254, e254, hx254_0⟩ := Kd.at_string HR0.out (ji7) p254 q254; obtain rfl : ad252 = ad254 := (by injection e254); replace p254 := eq_true p254; replace q254 := eq_true q254; have p255 : 0 ≤ (x3_1 : Int) := ODz; have q255 : x3_1 < (l0.length : Int) := ODz; obtain ⟨ad255, e255, hx255_0⟩ := Kd.at_string HR0.out x3_1 p255 q255; obtain rfl : ad252 = ad255 := (by injection e255); replace p255 := eq_true p255; replace q255 := eq_true q255))
    repeat (go_quiet (first | (go_at_call 36; (with_reducible refine (Qq.calls k1 (rdOf ByteArray.empty l0 x3_1) true _ A4.out).mono ?_); rintro e w' ⟨rfl, ⟨nd, rfl⟩⟩; (try first | exact ⟨rfl, _, World.drewN_drewN _ _ _⟩ | exact ⟨rfl, _, Eq.trans (World.drewN_drewN _ _ _) (congrArg (World.drewN _) (Nat.add_assoc _ _ _))⟩); have p254 : 0 ≤ ((ji7) : Int) := ODz; have q254 : (ji7) < (l0.length : Int) := ODz; obtain ⟨ad254, e254, hx254_0⟩ := Kd.at_string HR0.out (ji7) p254 q254; obtain rfl : ad252 = ad254 := (by injection e254); replace p254 := eq_true p254; replace q254 := eq_true q254; have p255 : 0 ≤ (x3_1 : Int) := ODz; have q255 : x3_1 < (l0.length : Int) := ODz; obtain ⟨ad255, e255, hx255_0⟩ := Kd.at_string HR0.out x3_1 p255 q255; obtain rfl : ad252 = ad255 := (by injection e255); replace p255 := eq_true p255; replace q255 := eq_true q255)); try go_wp2_with (first | (go_at_call 36; (with_reducible refine (Qq.calls k1 (rdOf ByteArray.empty l0 x3_1) true _ A4.out).mono ?_); rintro e w' ⟨rfl, ⟨nd, rfl⟩⟩; (try first | exact ⟨rfl, _, World.drewN_drewN _ _ _⟩ | exact ⟨rfl, _, Eq.trans (World.drewN_drewN _ _ _) (congrArg (World.drewN _) (Nat.add_assoc _ _ _))⟩); have p254 : 0 ≤ ((ji7) : Int) := ODz; have q254 : (ji7) < (l0.length : Int) := ODz; obtain ⟨ad254, e254, hx254_0⟩ := Kd.at_string HR0.out (ji7) p254 q254; obtain rfl : ad252 = ad254 := (by injection e254); replace p254 := eq_true p254; replace q254 := eq_true q254; have p255 : 0 ≤ (x3_1 : Int) := ODz; have q255 : x3_1 < (l0.length : Int) := ODz; obtain ⟨ad255, e255, hx255_0⟩ := Kd.at_string HR0.out x3_1 p255 q255; obtain rfl : ad252 = ad255 := (by injection e255); replace p255 := eq_true p255; replace q255 := eq_true q255)))
    go_roundg k1
    case measure => have := HK1.out; omega
    case rel => exact ⟨(wrap64 (x3_1 + 1)), EZc, H', ⟨by have := HK1.out; omega⟩, DRz⟩
   rw [if_neg c10] at H
   have c10b0 : (Op.bytesLess ((rdOf ByteArray.empty l0 (ji7)).toList) ((rdOf ByteArray.empty l0 x3_1).toList)) = false := by simpa using c10
   clear c10
   obtain rfl := Option.some.inj H
   clear H
   have p252 : 0 ≤ (x3_1 : Int) := ODz
   have q252 : x3_1 < (l0.length : Int) := ODz
   obtain ⟨ad252, e252, hx252_0⟩ := Kd.at_string HR0.out x3_1 p252 q252
   cases e252
   replace p252 := eq_true p252
   replace q252 := eq_true q252
   go_wp2_with (first | (go_at_call 36; (with_reducible refine (Qq.calls k1 (rdOf ByteArray.empty l0 x3_1) true _ A4.out).mono ?_); rintro e w' ⟨rfl, ⟨nd, rfl⟩⟩; (try first | exact ⟨rfl, _, World.drewN_drewN _ _ _⟩ | exact ⟨rfl, _, Eq.trans (World.drewN_drewN _ _ _) (congrArg (World.drewN _) (Nat.add_assoc _ _ _))⟩); have p254 : 0 ≤ ((ji7) : Int) := ODz; have q254 : (ji7) < (l0.length : Int) := ODz; obtain ⟨ad254, e254, hx254_0⟩ := Kd.at_string HR0.out (ji7) p254 q254; obtain rfl : ad252 = ad254 := (by injection e254); replace p254 := eq_true p254; replace q254 := eq_true q254; have p255 : 0 ≤ (x3_1 : Int) := ODz; have q255 : x3_1 < (l0.length : Int) := ODz; obtain ⟨ad255, e255, hx255_0⟩ := Kd.at_string HR0.out x3_1 p255 q255; obtain rfl : ad252 = ad255 := (by injection e255); replace p255 := eq_true p255; replace q255 := eq_true q255))
   repeat (go_quiet (first | (go_at_call 36; (with_reducible refine (Qq.calls k1 (rdOf ByteArray.empty l0 x3_1) true _ A4.out).mono ?_); rintro e w' ⟨rfl, ⟨nd, rfl⟩⟩; (try first | exact ⟨rfl, _, World.drewN_drewN _ _ _⟩ | exact ⟨rfl, _, Eq.trans (World.drewN_drewN _ _ _) (congrArg (World.drewN _) (Nat.add_assoc _ _ _))⟩); have p254 : 0 ≤ ((ji7) : Int) := ODz; have q254 : (ji7) < (l0.length : Int) := ODz; obtain ⟨ad254, e254, hx254_0⟩ := Kd.at_string HR0.out (ji7) p254 q254; obtain rfl : ad252 = ad254 := (by injection e254); replace p254 := eq_true p254; replace q254 := eq_true q254; have p255 : 0 ≤ (x3_1 : Int) := ODz; have q255 : x3_1 < (l0.length : Int) := ODz; obtain ⟨ad255, e255, hx255_0⟩ := Kd.at_string HR0.out x3_1 p255 q255; obtain rfl : ad252 = ad255 := (by injection e255); replace p255 := eq_true p255; replace q255 := eq_true q255)); try go_wp2_with (first | (go_at_call 36; (with_reducible refine (Qq.calls k1 (rdOf ByteArray.empty l0 x3_1) true _ A4.out).mono ?_); rintro e w' ⟨rfl, ⟨nd, rfl⟩⟩; (try first | exact ⟨rfl, _, World.drewN_drewN _ _ _⟩ | exact ⟨rfl, _, Eq.trans (World.drewN_drewN _ _ _) (congrArg (World.drewN _) (Nat.add_assoc _ _ _))⟩); have p254 : 0 ≤ ((ji7) : Int) := ODz; have q254 : (ji7) < (l0.length : Int) := ODz; obtain ⟨ad254, e254, hx254_0⟩ := Kd.at_string HR0.out (ji7) p254 q254; obtain rfl : ad252 = ad254 := (by injection e254); replace p254 := eq_true p254; replace q254 := eq_true q254; have p255 : 0 ≤ (x3_1 : Int) := ODz; have q255 : x3_1 < (l0.length : Int) := ODz; obtain ⟨ad255, e255, hx255_0⟩ := Kd.at_string HR0.out x3_1 p255 q255; obtain rfl : ad252 = ad255 := (by injection e255); replace p255 := eq_true p255; replace q255 := eq_true q255)))
   go_ret
   exact ⟨by first | rfl | (simp only [bne_nil_, beq_nil_]; rfl) | (simp; done) | (simp only [← hji7] <;> (first | rfl | simp)) | (simp [*]; done), DRz⟩
def Vn.f (k : Nat) (a0_0 : ByteArray) (l0_1 : List (S96)) (l0_2 : List ByteArray) (a0_3 : Int) (a0_4 : Bool) : Option (Bool) := if a0_0.toList = ([42] : List UInt8) then ((Qk.f k l0_1).bind fun t257 => (if t257 = true then (if (l0_2.length : Int) ≤ 8 then ((Vk.f k l0_2).bind fun t258 => (if t258 = true then ((Qx.f a0_3 1 4).bind fun t259 => (some t259)) else (some false))) else (some false)) else (some false))) else ((Qq.f k a0_0).bind fun t260 => (if t260 = true then ((Qk.f k l0_1).bind fun t261 => (if t261 = true then (if (l0_2.length : Int) ≤ 8 then ((Vk.f k l0_2).bind fun t262 => (if t262 = true then ((Qx.f a0_3 1 4).bind fun t263 => (some t263)) else (some false))) else (some false)) else (some false))) else (some false)))
theorem Vn.mono : ∀ a0 a1 a2 a3 a4 k, LeO (Vn.f k a0 a1 a2 a3 a4) (Vn.f (k + 1) a0 a1 a2 a3 a4) := by
 intro a0 a1 a2 a3 a4 k
 unfold Vn.f
 with_reducible repeat' first | exact Qk.mono _ _ | exact Qq.mono _ _ | exact Vk.mono _ _ | exact LeO.refl _ | exact LeO.none _ | refine LeO.ite ?_ ?_ | refine LeO.bind ?_ (fun _ => ?_)
theorem Vn.calls (k : Nat) (a0_0 : ByteArray) (A0_1 : Option Addr) (c0_1 : Nat) (l0_1 : List (S96)) (A0_2 : Option Addr) (c0_2 : Nat) (l0_2 : List ByteArray) (a0_3 : Int) (a0_4 : Bool) (r : Bool) (w : World) (hr0_1 : Kd.C k96 w A0_1 l0_1.length l0_1) (hc0_1 : l0_1.length ≤ c0_1) (hr0_2 : Kd.C Kd.string w A0_2 l0_2.length l0_2) (hc0_2 : l0_2.length ≤ c0_2) (h : Vn.f k a0_0 l0_1 l0_2 a0_3 a0_4 = some r) :
  Calls Tryz.prog 68 #[.agg #[.string a0_0, .slice A0_1 l0_1.length c0_1, .slice A0_2 l0_2.length c0_2, .int .i64 a0_3, .bool a0_4]] w fun e w' => e = .returned (.bool r) ∧ Below w.heap.size w w' := by
 have hu57 := Tryz.underlying57
 have HR0_1 := Aside0.mk hr0_1
 have HC0_1 := Aside0.mk hc0_1
 clear hr0_1 hc0_1
 have HR0_2 := Aside0.mk hr0_2
 have HC0_2 := Aside0.mk hc0_2
 clear hr0_2 hc0_2
 have HB := Aside0.mk (Below.refl w.heap.size w)
 have H : (if a0_0.toList = ([42] : List UInt8) then ((Qk.f k l0_1).bind fun t257 => (if t257 = true then (if (l0_2.length : Int) ≤ 8 then ((Vk.f k l0_2).bind fun t258 => (if t258 = true then ((Qx.f a0_3 1 4).bind fun t259 => (some t259)) else (some false))) else (some false)) else (some false))) else ((Qq.f k a0_0).bind fun t260 => (if t260 = true then ((Qk.f k l0_1).bind fun t261 => (if t261 = true then (if (l0_2.length : Int) ≤ 8 then ((Vk.f k l0_2).bind fun t262 => (if t262 = true then ((Qx.f a0_3 1 4).bind fun t263 => (some t263)) else (some false))) else (some false)) else (some false))) else (some false)))) = some r := h
 clear h
 by_cases c2 : a0_0.toList = ([42] : List UInt8)
 ·rw [if_pos c2] at H
  obtain ⟨c2b0, c2b1⟩ := QTz c2
  clear c2
  replace H := Option.bind_eq_some_iff.mp H
  obtain ⟨t257, A30, H⟩ := H
  replace H : (if t257 = true then (if (l0_2.length : Int) ≤ 8 then ((Vk.f k l0_2).bind fun t258 => (if t258 = true then ((Qx.f a0_3 1 4).bind fun t259 => (some t259)) else (some false))) else (some false)) else (some false)) = some r := H
  have A3 := Aside0.mk A30
  clear A30
  by_cases c4 : t257 = true
  rotate_left
  ·replace c4 := Bool.eq_false_iff.mpr c4
   subst c4
   have H1 : (some false) = some r := by rw [if_neg (show ¬ (false = true) by decide)] at H; exact H
   clear H
   have H := H1
   clear H1
   obtain rfl := Option.some.inj H
   clear H
   go_enter Tryz.func68, Tryz.ntmps68
   go_wp2_with (first | ((with_reducible refine gate_dst (N := 1) rfl ?_); (try (refine gate_guard (by rfl) ?_; dsimp only)); refine box_event ?hg (N := 1) ?hd (cs := #[.string a0_0, .slice A0_1 l0_1.length c0_1, .slice A0_2 l0_2.length c0_2, .int .i64 a0_3, .bool a0_4]) (t := 57) ?hr ?_; (case hd => rfl); (case hg => rfl); (case hr => first | (go_simp; done) | (go_simp; rfl)); intro gb256 hg w21 hbox hb; have n0_ := Aside0.mk (below_step HBa hb); have n1_ := Aside0.mk (hbox); have n2_ := BSz w hg HBa; have n3_ := BSz w hg HBa; clear HB; have HB := n0_; have BK256 := n1_; have GW256 := n2_; have GE256 := n3_; clear n0_ n1_ n2_ n3_; clear hb hbox hg; have hcz22_0 := C1z BK256; have hcz22_1 := C2z BK256; have hcz22_2 := C3z BK256; have hcz22_3 := C4z BK256; have hcz22_4 := C5z BK256; have hfz22_0 := blk_frozen BK256.out 0; have hfz22_1 := blk_frozen BK256.out 1; have hfz22_2 := blk_frozen BK256.out 2; have hfz22_3 := blk_frozen BK256.out 3; have hfz22_4 := blk_frozen BK256.out 4) | (go_at_call 35; (with_reducible refine (Qk.calls k _ _ l0_1 false _ ?side1 ?side2 A3.out).mono ?_); (case side1 => exact KCz (Kd.C_below HR0_1.out HB.out)); (case side2 => exact HC0_1.out); rintro e w23 ⟨rfl, hb⟩; have n0_ := BBz BK256 hb; have n1_ := Aside0.mk (below_step (HBb GE256) hb); clear BK256; clear HB; have BK256 := n0_; have HB := n1_; clear n0_ n1_; (try clear hb); (try clear hb2); (try clear hk); (try clear hi)))
   go_ret
   exact ⟨EZa, HBb GE256⟩
  subst c4
  have H1 : (if (l0_2.length : Int) ≤ 8 then ((Vk.f k l0_2).bind fun t258 => (if t258 = true then ((Qx.f a0_3 1 4).bind fun t259 => (some t259)) else (some false))) else (some false)) = some r := by rw [if_pos rfl] at H; exact H
  clear H
  have H := H1
  clear H1
  by_cases c5 : (l0_2.length : Int) ≤ 8
  rotate_left
  ·rw [if_neg c5] at H
   have c5b0 := decide_eq_false c5
   have c5b1 : decide (l0_2.length ≤ 8) = false := decide_eq_false (by omega)
   clear c5
   obtain rfl := Option.some.inj H
   clear H
   go_enter Tryz.func68, Tryz.ntmps68
   go_wp2_with (first | ((with_reducible refine gate_dst (N := 1) rfl ?_); (try (refine gate_guard (by rfl) ?_; dsimp only)); refine box_event ?hg (N := 1) ?hd (cs := #[.string a0_0, .slice A0_1 l0_1.length c0_1, .slice A0_2 l0_2.length c0_2, .int .i64 a0_3, .bool a0_4]) (t := 57) ?hr ?_; (case hd => rfl); (case hg => rfl); (case hr => first | (go_simp; done) | (go_simp; rfl)); intro gb256 hg w17 hbox hb; have n0_ := Aside0.mk (below_step HBa hb); have n1_ := Aside0.mk (hbox); have n2_ := BSz w hg HBa; have n3_ := BSz w hg HBa; clear HB; have HB := n0_; have BK256 := n1_; have GW256 := n2_; have GE256 := n3_; clear n0_ n1_ n2_ n3_; clear hb hbox hg; have hcz18_0 := C1z BK256; have hcz18_1 := C2z BK256; have hcz18_2 := C3z BK256; have hcz18_3 := C4z BK256; have hcz18_4 := C5z BK256; have hfz18_0 := blk_frozen BK256.out 0; have hfz18_1 := blk_frozen BK256.out 1; have hfz18_2 := blk_frozen BK256.out 2; have hfz18_3 := blk_frozen BK256.out 3; have hfz18_4 := blk_frozen BK256.out 4) | (go_at_call 35; (with_reducible refine (Qk.calls k _ _ l0_1 true _ ?side1 ?side2 A3.out).mono ?_); (case side1 => exact KCz (Kd.C_below HR0_1.out HB.out)); (case side2 => exact HC0_1.out); rintro e w19 ⟨rfl, hb⟩; have n0_ := BBz BK256 hb; have n1_ := Aside0.mk (below_step (HBb GE256) hb); clear BK256; clear HB; have BK256 := n0_; have HB := n1_; clear n0_ n1_; (try clear hb); (try clear hb2); (try clear hk); (try clear hi); have hcz20_0 := C1z BK256; have hcz20_1 := C2z BK256; have hcz20_2 := C3z BK256; have hcz20_3 := C4z BK256; have hcz20_4 := C5z BK256; have hfz20_0 := blk_frozen BK256.out 0; have hfz20_1 := blk_frozen BK256.out 1; have hfz20_2 := blk_frozen BK256.out 2; have hfz20_3 := blk_frozen BK256.out 3; have hfz20_4 := blk_frozen BK256.out 4))
   go_ret
   exact ⟨EZa, HBb GE256⟩
  rw [if_pos c5] at H
  have c5b0 := decide_eq_true c5
  have c5b1 : decide (l0_2.length ≤ 8) = true := decide_eq_true (by omega)
  clear c5
  replace H := Option.bind_eq_some_iff.mp H
  obtain ⟨t258, A60, H⟩ := H
  replace H : (if t258 = true then ((Qx.f a0_3 1 4).bind fun t259 => (some t259)) else (some false)) = some r := H
  have A6 := Aside0.mk A60
  clear A60
  by_cases c7 : t258 = true
  ·subst c7
   have H1 : ((Qx.f a0_3 1 4).bind fun t259 => (some t259)) = some r := by rw [if_pos rfl] at H; exact H
   clear H
   have H := H1
   clear H1
   replace H := Option.bind_eq_some_iff.mp H
   obtain ⟨t259, A80, H⟩ := H
   replace H : (some t259) = some r := H
   have A8 := Aside0.mk A80
   clear A80
   obtain rfl := Option.some.inj H
   clear H
   go_enter Tryz.func68, Tryz.ntmps68
   go_wp2_with (first | ((with_reducible refine gate_dst (N := 1) rfl ?_); (try (refine gate_guard (by rfl) ?_; dsimp only)); refine box_event ?hg (N := 1) ?hd (cs := #[.string a0_0, .slice A0_1 l0_1.length c0_1, .slice A0_2 l0_2.length c0_2, .int .i64 a0_3, .bool a0_4]) (t := 57) ?hr ?_; (case hd => rfl); (case hg => rfl); (case hr => first | (go_simp; done) | (go_simp; rfl)); intro gb256 hg w9 hbox hb; have n0_ := Aside0.mk (below_step HBa hb); have n1_ := Aside0.mk (hbox); have n2_ := BSz w hg HBa; have n3_ := BSz w hg HBa; clear HB; have HB := n0_; have BK256 := n1_; have GW256 := n2_; have GE256 := n3_; clear n0_ n1_ n2_ n3_; clear hb hbox hg; have hcz10_0 := C1z BK256; have hcz10_1 := C2z BK256; have hcz10_2 := C3z BK256; have hcz10_3 := C4z BK256; have hcz10_4 := C5z BK256; have hfz10_0 := blk_frozen BK256.out 0; have hfz10_1 := blk_frozen BK256.out 1; have hfz10_2 := blk_frozen BK256.out 2; have hfz10_3 := blk_frozen BK256.out 3; have hfz10_4 := blk_frozen BK256.out 4) | (go_at_call 35; (with_reducible refine (Qk.calls k _ _ l0_1 true _ ?side1 ?side2 A3.out).mono ?_); (case side1 => exact KCz (Kd.C_below HR0_1.out HB.out)); (case side2 => exact HC0_1.out); rintro e w11 ⟨rfl, hb⟩; have n0_ := BBz BK256 hb; have n1_ := Aside0.mk (below_step (HBb GE256) hb); clear BK256; clear HB; have BK256 := n0_; have HB := n1_; clear n0_ n1_; (try clear hb); (try clear hb2); (try clear hk); (try clear hi); have hcz12_0 := C1z BK256; have hcz12_1 := C2z BK256; have hcz12_2 := C3z BK256; have hcz12_3 := C4z BK256; have hcz12_4 := C5z BK256; have hfz12_0 := blk_frozen BK256.out 0; have hfz12_1 := blk_frozen BK256.out 1; have hfz12_2 := blk_frozen BK256.out 2; have hfz12_3 := blk_frozen BK256.out 3; have hfz12_4 := blk_frozen BK256.out 4) | (go_at_call 106; (with_reducible refine (Vk.calls k _ _ l0_2 true _ ?side1 ?side2 A6.out).mono ?_); (case side1 => exact KCz (Kd.C_below HR0_2.out HB.out)); (case side2 => exact HC0_2.out); rintro e w' ⟨rfl, ⟨nd, rfl⟩⟩) | (go_at_call 63; (with_reducible refine (Qx.calls a0_3 1 4 t259 _ A8.out).mono ?_); rintro e w' ⟨rfl, ⟨nd, rfl⟩⟩))
   go_ret
   exact ⟨EZa, HBb GE256⟩
  replace c7 := Bool.eq_false_iff.mpr c7
  subst c7
  have H1 : (some false) = some r := by rw [if_neg (show ¬ (false = true) by decide)] at H; exact H
  clear H
  have H := H1
  clear H1
  obtain rfl := Option.some.inj H
  clear H
  go_enter Tryz.func68, Tryz.ntmps68
  go_wp2_with (first | ((with_reducible refine gate_dst (N := 1) rfl ?_); (try (refine gate_guard (by rfl) ?_; dsimp only)); refine box_event ?hg (N := 1) ?hd (cs := #[.string a0_0, .slice A0_1 l0_1.length c0_1, .slice A0_2 l0_2.length c0_2, .int .i64 a0_3, .bool a0_4]) (t := 57) ?hr ?_; (case hd => rfl); (case hg => rfl); (case hr => first | (go_simp; done) | (go_simp; rfl)); intro gb256 hg w13 hbox hb; have n0_ := Aside0.mk (below_step HBa hb); have n1_ := Aside0.mk (hbox); have n2_ := BSz w hg HBa; have n3_ := BSz w hg HBa; clear HB; have HB := n0_; have BK256 := n1_; have GW256 := n2_; have GE256 := n3_; clear n0_ n1_ n2_ n3_; clear hb hbox hg; have hcz14_0 := C1z BK256; have hcz14_1 := C2z BK256; have hcz14_2 := C3z BK256; have hcz14_3 := C4z BK256; have hcz14_4 := C5z BK256; have hfz14_0 := blk_frozen BK256.out 0; have hfz14_1 := blk_frozen BK256.out 1; have hfz14_2 := blk_frozen BK256.out 2; have hfz14_3 := blk_frozen BK256.out 3; have hfz14_4 := blk_frozen BK256.out 4) | (go_at_call 35; (with_reducible refine (Qk.calls k _ _ l0_1 true _ ?side1 ?side2 A3.out).mono ?_); (case side1 => exact KCz (Kd.C_below HR0_1.out HB.out)); (case side2 => exact HC0_1.out); rintro e w15 ⟨rfl, hb⟩; have n0_ := BBz BK256 hb; have n1_ := Aside0.mk (below_step (HBb GE256) hb); clear BK256; clear HB; have BK256 := n0_; have HB := n1_; clear n0_ n1_; (try clear hb); (try clear hb2); (try clear hk); (try clear hi); have hcz16_0 := C1z BK256; have hcz16_1 := C2z BK256; have hcz16_2 := C3z BK256; have hcz16_3 := C4z BK256; have hcz16_4 := C5z BK256; have hfz16_0 := blk_frozen BK256.out 0; have hfz16_1 := blk_frozen BK256.out 1; have hfz16_2 := blk_frozen BK256.out 2; have hfz16_3 := blk_frozen BK256.out 3; have hfz16_4 := blk_frozen BK256.out 4) | (go_at_call 106; (with_reducible refine (Vk.calls k _ _ l0_2 false _ ?side1 ?side2 A6.out).mono ?_); (case side1 => exact KCz (Kd.C_below HR0_2.out HB.out)); (case side2 => exact HC0_2.out); rintro e w' ⟨rfl, ⟨nd, rfl⟩⟩))
  go_ret
  exact ⟨EZa, HBb GE256⟩
 rw [if_neg c2] at H
 obtain ⟨c2b0, c2b1⟩ := QFz c2
 replace H := Option.bind_eq_some_iff.mp H
 obtain ⟨t260, A240, H⟩ := H
 replace H : (if t260 = true then ((Qk.f k l0_1).bind fun t261 => (if t261 = true then (if (l0_2.length : Int) ≤ 8 then ((Vk.f k l0_2).bind fun t262 => (if t262 = true then ((Qx.f a0_3 1 4).bind fun t263 => (some t263)) else (some false))) else (some false)) else (some false))) else (some false)) = some r := H
 have A24 := Aside0.mk A240
 clear A240
 by_cases c25 : t260 = true
 rotate_left
 ·replace c25 := Bool.eq_false_iff.mpr c25
  subst c25
  have H1 : (some false) = some r := by rw [if_neg (show ¬ (false = true) by decide)] at H; exact H
  clear H
  have H := H1
  clear H1
  obtain rfl := Option.some.inj H
  clear H
  go_enter Tryz.func68, Tryz.ntmps68
  go_wp2_with (first | ((with_reducible refine gate_dst (N := 1) rfl ?_); (try (refine gate_guard (by rfl) ?_; dsimp only)); refine box_event ?hg (N := 1) ?hd (cs := #[.string a0_0, .slice A0_1 l0_1.length c0_1, .slice A0_2 l0_2.length c0_2, .int .i64 a0_3, .bool a0_4]) (t := 57) ?hr ?_; (case hd => rfl); (case hg => rfl); (case hr => first | (go_simp; done) | (go_simp; rfl)); intro gb256 hg w47 hbox hb; have n0_ := Aside0.mk (below_step HBa hb); have n1_ := Aside0.mk (hbox); have n2_ := BSz w hg HBa; have n3_ := BSz w hg HBa; clear HB; have HB := n0_; have BK256 := n1_; have GW256 := n2_; have GE256 := n3_; clear n0_ n1_ n2_ n3_; clear hb hbox hg; have hcz48_0 := C1z BK256; have hcz48_1 := C2z BK256; have hcz48_2 := C3z BK256; have hcz48_3 := C4z BK256; have hcz48_4 := C5z BK256; have hfz48_0 := blk_frozen BK256.out 0; have hfz48_1 := blk_frozen BK256.out 1; have hfz48_2 := blk_frozen BK256.out 2; have hfz48_3 := blk_frozen BK256.out 3; have hfz48_4 := blk_frozen BK256.out 4) | (go_at_call 36; (with_reducible refine (Qq.calls k a0_0 false _ A24.out).mono ?_); rintro e w' ⟨rfl, ⟨nd, rfl⟩⟩))
  go_ret
  exact ⟨EZa, HBb GE256⟩
 subst c25
 have H1 : ((Qk.f k l0_1).bind fun t261 => (if t261 = true then (if (l0_2.length : Int) ≤ 8 then ((Vk.f k l0_2).bind fun t262 => (if t262 = true then ((Qx.f a0_3 1 4).bind fun t263 => (some t263)) else (some false))) else (some false)) else (some false))) = some r := by rw [if_pos rfl] at H; exact H
 clear H
 have H := H1
 clear H1
 replace H := Option.bind_eq_some_iff.mp H
 obtain ⟨t261, A260, H⟩ := H
 replace H : (if t261 = true then (if (l0_2.length : Int) ≤ 8 then ((Vk.f k l0_2).bind fun t262 => (if t262 = true then ((Qx.f a0_3 1 4).bind fun t263 => (some t263)) else (some false))) else (some false)) else (some false)) = some r := H
 have A26 := Aside0.mk A260
 clear A260
 by_cases c27 : t261 = true
 rotate_left
 ·replace c27 := Bool.eq_false_iff.mpr c27
  subst c27
  have H1 : (some false) = some r := by rw [if_neg (show ¬ (false = true) by decide)] at H; exact H
  clear H
  have H := H1
  clear H1
  obtain rfl := Option.some.inj H
  clear H
  go_enter Tryz.func68, Tryz.ntmps68
  go_wp2_with (first | ((with_reducible refine gate_dst (N := 1) rfl ?_); (try (refine gate_guard (by rfl) ?_; dsimp only)); refine box_event ?hg (N := 1) ?hd (cs := #[.string a0_0, .slice A0_1 l0_1.length c0_1, .slice A0_2 l0_2.length c0_2, .int .i64 a0_3, .bool a0_4]) (t := 57) ?hr ?_; (case hd => rfl); (case hg => rfl); (case hr => first | (go_simp; done) | (go_simp; rfl)); intro gb256 hg w44 hbox hb; have n0_ := Aside0.mk (below_step HBa hb); have n1_ := Aside0.mk (hbox); have n2_ := BSz w hg HBa; have n3_ := BSz w hg HBa; clear HB; have HB := n0_; have BK256 := n1_; have GW256 := n2_; have GE256 := n3_; clear n0_ n1_ n2_ n3_; clear hb hbox hg; have hcz45_0 := C1z BK256; have hcz45_1 := C2z BK256; have hcz45_2 := C3z BK256; have hcz45_3 := C4z BK256; have hcz45_4 := C5z BK256; have hfz45_0 := blk_frozen BK256.out 0; have hfz45_1 := blk_frozen BK256.out 1; have hfz45_2 := blk_frozen BK256.out 2; have hfz45_3 := blk_frozen BK256.out 3; have hfz45_4 := blk_frozen BK256.out 4) | (go_at_call 36; (with_reducible refine (Qq.calls k a0_0 true _ A24.out).mono ?_); rintro e w' ⟨rfl, ⟨nd, rfl⟩⟩) | (go_at_call 35; (with_reducible refine (Qk.calls k _ _ l0_1 false _ ?side1 ?side2 A26.out).mono ?_); (case side1 => repeat (first | exact (Kd.C_below HR0_1.out (HBb GE256)) | (with_reducible refine Kd.C_alloc ?_ _) | (with_reducible refine Kd.C_drewN ?_ _) | (with_reducible refine Kd.C_drew ?_))); (case side2 => exact HC0_1.out); rintro e w46 ⟨rfl, hb⟩; have n0_ := BBz BK256 hb; have n1_ := Aside0.mk (below_step (HBb GE256) hb); clear BK256; clear HB; have BK256 := n0_; have HB := n1_; clear n0_ n1_; (try clear hb); (try clear hb2); (try clear hk); (try clear hi)))
  go_ret
  exact ⟨EZa, HBb GE256⟩
 subst c27
 have H1 : (if (l0_2.length : Int) ≤ 8 then ((Vk.f k l0_2).bind fun t262 => (if t262 = true then ((Qx.f a0_3 1 4).bind fun t263 => (some t263)) else (some false))) else (some false)) = some r := by rw [if_pos rfl] at H; exact H
 clear H
 have H := H1
 clear H1
 by_cases c28 : (l0_2.length : Int) ≤ 8
 rotate_left
 ·rw [if_neg c28] at H
  have c28b0 := decide_eq_false c28
  have c28b1 : decide (l0_2.length ≤ 8) = false := decide_eq_false (by omega)
  clear c28
  obtain rfl := Option.some.inj H
  clear H
  go_enter Tryz.func68, Tryz.ntmps68
  go_wp2_with (first | ((with_reducible refine gate_dst (N := 1) rfl ?_); (try (refine gate_guard (by rfl) ?_; dsimp only)); refine box_event ?hg (N := 1) ?hd (cs := #[.string a0_0, .slice A0_1 l0_1.length c0_1, .slice A0_2 l0_2.length c0_2, .int .i64 a0_3, .bool a0_4]) (t := 57) ?hr ?_; (case hd => rfl); (case hg => rfl); (case hr => first | (go_simp; done) | (go_simp; rfl)); intro gb256 hg w40 hbox hb; have n0_ := Aside0.mk (below_step HBa hb); have n1_ := Aside0.mk (hbox); have n2_ := BSz w hg HBa; have n3_ := BSz w hg HBa; clear HB; have HB := n0_; have BK256 := n1_; have GW256 := n2_; have GE256 := n3_; clear n0_ n1_ n2_ n3_; clear hb hbox hg; have hcz41_0 := C1z BK256; have hcz41_1 := C2z BK256; have hcz41_2 := C3z BK256; have hcz41_3 := C4z BK256; have hcz41_4 := C5z BK256; have hfz41_0 := blk_frozen BK256.out 0; have hfz41_1 := blk_frozen BK256.out 1; have hfz41_2 := blk_frozen BK256.out 2; have hfz41_3 := blk_frozen BK256.out 3; have hfz41_4 := blk_frozen BK256.out 4) | (go_at_call 36; (with_reducible refine (Qq.calls k a0_0 true _ A24.out).mono ?_); rintro e w' ⟨rfl, ⟨nd, rfl⟩⟩) | (go_at_call 35; (with_reducible refine (Qk.calls k _ _ l0_1 true _ ?side1 ?side2 A26.out).mono ?_); (case side1 => repeat (first | exact (Kd.C_below HR0_1.out (HBb GE256)) | (with_reducible refine Kd.C_alloc ?_ _) | (with_reducible refine Kd.C_drewN ?_ _) | (with_reducible refine Kd.C_drew ?_))); (case side2 => exact HC0_1.out); rintro e w42 ⟨rfl, hb⟩; have n0_ := BBz BK256 hb; have n1_ := Aside0.mk (below_step (HBb GE256) hb); clear BK256; clear HB; have BK256 := n0_; have HB := n1_; clear n0_ n1_; (try clear hb); (try clear hb2); (try clear hk); (try clear hi); have hcz43_0 := C1z BK256; have hcz43_1 := C2z BK256; have hcz43_2 := C3z BK256; have hcz43_3 := C4z BK256; have hcz43_4 := C5z BK256; have hfz43_0 := blk_frozen BK256.out 0; have hfz43_1 := blk_frozen BK256.out 1; have hfz43_2 := blk_frozen BK256.out 2; have hfz43_3 := blk_frozen BK256.out 3; have hfz43_4 := blk_frozen BK256.out 4))
  go_ret
  exact ⟨EZa, HBb GE256⟩
 rw [if_pos c28] at H
 have c28b0 := decide_eq_true c28
 have c28b1 : decide (l0_2.length ≤ 8) = true := decide_eq_true (by omega)
 clear c28
 replace H := Option.bind_eq_some_iff.mp H
 obtain ⟨t262, A290, H⟩ := H
 replace H : (if t262 = true then ((Qx.f a0_3 1 4).bind fun t263 => (some t263)) else (some false)) = some r := H
 have A29 := Aside0.mk A290
 clear A290
 by_cases c30 : t262 = true
 ·subst c30
  have H1 : ((Qx.f a0_3 1 4).bind fun t263 => (some t263)) = some r := by rw [if_pos rfl] at H; exact H
  clear H
  have H := H1
  clear H1
  replace H := Option.bind_eq_some_iff.mp H
  obtain ⟨t263, A310, H⟩ := H
  replace H : (some t263) = some r := H
  have A31 := Aside0.mk A310
  clear A310
  obtain rfl := Option.some.inj H
  clear H
  go_enter Tryz.func68, Tryz.ntmps68
  go_wp2_with (first | ((with_reducible refine gate_dst (N := 1) rfl ?_); (try (refine gate_guard (by rfl) ?_; dsimp only)); refine box_event ?hg (N := 1) ?hd (cs := #[.string a0_0, .slice A0_1 l0_1.length c0_1, .slice A0_2 l0_2.length c0_2, .int .i64 a0_3, .bool a0_4]) (t := 57) ?hr ?_; (case hd => rfl); (case hg => rfl); (case hr => first | (go_simp; done) | (go_simp; rfl)); intro gb256 hg w32 hbox hb; have n0_ := Aside0.mk (below_step HBa hb); have n1_ := Aside0.mk (hbox); have n2_ := BSz w hg HBa; have n3_ := BSz w hg HBa; clear HB; have HB := n0_; have BK256 := n1_; have GW256 := n2_; have GE256 := n3_; clear n0_ n1_ n2_ n3_; clear hb hbox hg; have hcz33_0 := C1z BK256; have hcz33_1 := C2z BK256; have hcz33_2 := C3z BK256; have hcz33_3 := C4z BK256; have hcz33_4 := C5z BK256; have hfz33_0 := blk_frozen BK256.out 0; have hfz33_1 := blk_frozen BK256.out 1; have hfz33_2 := blk_frozen BK256.out 2; have hfz33_3 := blk_frozen BK256.out 3; have hfz33_4 := blk_frozen BK256.out 4) | (go_at_call 36; (with_reducible refine (Qq.calls k a0_0 true _ A24.out).mono ?_); rintro e w' ⟨rfl, ⟨nd, rfl⟩⟩) | (go_at_call 35; (with_reducible refine (Qk.calls k _ _ l0_1 true _ ?side1 ?side2 A26.out).mono ?_); (case side1 => repeat (first | exact (Kd.C_below HR0_1.out (HBb GE256)) | (with_reducible refine Kd.C_alloc ?_ _) | (with_reducible refine Kd.C_drewN ?_ _) | (with_reducible refine Kd.C_drew ?_))); (case side2 => exact HC0_1.out); rintro e w34 ⟨rfl, hb⟩; have n0_ := BBz BK256 hb; have n1_ := Aside0.mk (below_step (HBb GE256) hb); clear BK256; clear HB; have BK256 := n0_; have HB := n1_; clear n0_ n1_; (try clear hb); (try clear hb2); (try clear hk); (try clear hi); have hcz35_0 := C1z BK256; have hcz35_1 := C2z BK256; have hcz35_2 := C3z BK256; have hcz35_3 := C4z BK256; have hcz35_4 := C5z BK256; have hfz35_0 := blk_frozen BK256.out 0; have hfz35_1 := blk_frozen BK256.out 1; have hfz35_2 := blk_frozen BK256.out 2; have hfz35_3 := blk_frozen BK256.out 3; have hfz35_4 := blk_frozen BK256.out 4) | (go_at_call 106; (with_reducible refine (Vk.calls k _ _ l0_2 true _ ?side1 ?side2 A29.out).mono ?_); (case side1 => exact KCz (Kd.C_below HR0_2.out HB.out)); (case side2 => exact HC0_2.out); rintro e w' ⟨rfl, ⟨nd, rfl⟩⟩) | (go_at_call 63; (with_reducible refine (Qx.calls a0_3 1 4 t263 _ A31.out).mono ?_); rintro e w' ⟨rfl, ⟨nd, rfl⟩⟩))
  go_ret
  exact ⟨EZa, HBb GE256⟩
 replace c30 := Bool.eq_false_iff.mpr c30
 subst c30
 have H1 : (some false) = some r := by rw [if_neg (show ¬ (false = true) by decide)] at H; exact H
 clear H
 have H := H1
 clear H1
 obtain rfl := Option.some.inj H
 clear H
 go_enter Tryz.func68, Tryz.ntmps68
 go_wp2_with (first | ((with_reducible refine gate_dst (N := 1) rfl ?_); (try (refine gate_guard (by rfl) ?_; dsimp only)); refine box_event ?hg (N := 1) ?hd (cs := #[.string a0_0, .slice A0_1 l0_1.length c0_1, .slice A0_2 l0_2.length c0_2, .int .i64 a0_3, .bool a0_4]) (t := 57) ?hr ?_; (case hd => rfl); (case hg => rfl); (case hr => first | (go_simp; done) | (go_simp; rfl)); intro gb256 hg w36 hbox hb; have n0_ := Aside0.mk (below_step HBa hb); have n1_ := Aside0.mk (hbox); have n2_ := BSz w hg HBa; have n3_ := BSz w hg HBa; clear HB; have HB := n0_; have BK256 := n1_; have GW256 := n2_; have GE256 := n3_; clear n0_ n1_ n2_ n3_; clear hb hbox hg; have hcz37_0 := C1z BK256; have hcz37_1 := C2z BK256; have hcz37_2 := C3z BK256; have hcz37_3 := C4z BK256; have hcz37_4 := C5z BK256; have hfz37_0 := blk_frozen BK256.out 0; have hfz37_1 := blk_frozen BK256.out 1; have hfz37_2 := blk_frozen BK256.out 2; have hfz37_3 := blk_frozen BK256.out 3; have hfz37_4 := blk_frozen BK256.out 4) | (go_at_call 36; (with_reducible refine (Qq.calls k a0_0 true _ A24.out).mono ?_); rintro e w' ⟨rfl, ⟨nd, rfl⟩⟩) | (go_at_call 35; (with_reducible refine (Qk.calls k _ _ l0_1 true _ ?side1 ?side2 A26.out).mono ?_); (case side1 => repeat (first | exact (Kd.C_below HR0_1.out (HBb GE256)) | (with_reducible refine Kd.C_alloc ?_ _) | (with_reducible refine Kd.C_drewN ?_ _) | (with_reducible refine Kd.C_drew ?_))); (case side2 => exact HC0_1.out); rintro e w38 ⟨rfl, hb⟩; have n0_ := BBz BK256 hb; have n1_ := Aside0.mk (below_step (HBb GE256) hb); clear BK256; clear HB; have BK256 := n0_; have HB := n1_; clear n0_ n1_; (try clear hb); (try clear hb2); (try clear hk); (try clear hi); have hcz39_0 := C1z BK256; have hcz39_1 := C2z BK256; have hcz39_2 := C3z BK256; have hcz39_3 := C4z BK256; have hcz39_4 := C5z BK256; have hfz39_0 := blk_frozen BK256.out 0; have hfz39_1 := blk_frozen BK256.out 1; have hfz39_2 := blk_frozen BK256.out 2; have hfz39_3 := blk_frozen BK256.out 3; have hfz39_4 := blk_frozen BK256.out 4) | (go_at_call 106; (with_reducible refine (Vk.calls k _ _ l0_2 false _ ?side1 ?side2 A29.out).mono ?_); (case side1 => exact KCz (Kd.C_below HR0_2.out HB.out)); (case side2 => exact HC0_2.out); rintro e w' ⟨rfl, ⟨nd, rfl⟩⟩))
 go_ret
 exact ⟨EZa, HBb GE256⟩
def Qh.l0 : Nat → List (S57) → Int → Option (Bool)
 | 0, _, _ => none
 | k + 1, x0, x3 => if x3 < (x0.length : Int) then (if 0 ≤ x3 then ((Vn.f k ((rd_T57 x0 x3).f0) ((rd_T57 x0 x3).f1) ((rd_T57 x0 x3).f2) ((rd_T57 x0 x3).f3) ((rd_T57 x0 x3).f4)).bind fun t265 => (if t265 = true then (Qh.l0 k x0 (wrap64 (x3 + 1))) else (some false))) else (none)) else (some (decide ((x0.length : Int) ≤ 10)))
def Qh.f (k : Nat) (l0 : List (S57)) : Option (Bool) := Qh.l0 k l0 0
theorem Qh.mono_l : ∀ k, (∀ y0 y1, LeO (Qh.l0 k y0 y1) (Qh.l0 (k + 1) y0 y1))
 | 0 => fun _ _ r h => by simp [Qh.l0] at h
 | k + 1 => by
  have ih0 := Qh.mono_l k
  ·intro y0 y1
   unfold Qh.l0
   with_reducible repeat' first | exact ih0 _ _ | exact Vn.mono _ _ _ _ _ _ | exact LeO.refl _ | exact LeO.none _ | refine LeO.ite ?_ ?_ | refine LeO.bind ?_ (fun _ => ?_)
theorem Qh.mono : ∀ a0 k, LeO (Qh.f k a0) (Qh.f (k + 1) a0) := by
 intro a0 k
 have ih0 := Qh.mono_l k
 unfold Qh.f
 with_reducible repeat' first | exact ih0 _ _ | exact Vn.mono _ _ _ _ _ _ | exact LeO.refl _ | exact LeO.none _ | refine LeO.ite ?_ ?_ | refine LeO.bind ?_ (fun _ => ?_)
theorem Qh.calls (k : Nat) (A0 : Option Addr) (c0 : Nat) (l0 : List (S57)) (r : Bool) (w : World) (hr0 : Kd.C k57 w A0 l0.length l0) (hc0 : l0.length ≤ c0) (h : Qh.f k l0 = some r) :
  Calls Tryz.prog 30 #[.slice A0 l0.length c0] w fun e w' => e = .returned (.bool r) ∧ Below w.heap.size w w' := by
 have hu57 := Tryz.underlying57
 have HR0 := Aside0.mk hr0
 have HC0 := Aside0.mk hc0
 clear hr0 hc0
 have HB := Aside0.mk (Below.refl w.heap.size w)
 have H : (Qh.l0 k l0 0) = some r := h
 clear h
 have H' := Aside0.mk H
 clear H
 go_enter Tryz.func30, Tryz.ntmps30
 go_wp2
 go_loopg [3] k (fun kq v3 w' => ∃ (x3_1 : Int), v3 = .int .i64 x3_1 ∧ Aside0 (Qh.l0 kq l0 x3_1 = some r) ∧ Aside0 (kq ≤ k) ∧ Aside0 (Below w.heap.size w w'))
 case atStart => exact ⟨(0), EZc, H', ⟨Nat.le_refl _⟩, ⟨HBa⟩⟩
 case round =>
  clear H'
  obtain ⟨x3_1, rfl, HA, HK1, HB⟩ := hrel
  cases gk with
  | zero => exact absurd HA.out (by simp [Qh.l0])
  | succ k1 =>
   have H := HA.out
   clear HA
   simp only [Qh.l0] at H
   by_cases c2 : x3_1 < (l0.length : Int)
   rotate_left
   ·rw [if_neg c2] at H
    have c2b0 := decide_eq_false c2
    clear c2
    obtain rfl := Option.some.inj H
    clear H
    go_wp2
    go_ret
    exact ⟨EZa, HBa⟩
   rw [if_pos c2] at H
   have c2b0 := decide_eq_true c2
   clear c2
   by_cases c3 : 0 ≤ x3_1
   rotate_left
   ·rw [if_neg c3] at H
    exact absurd H (by simp)
   rw [if_pos c3] at H
   have c3b0 := decide_eq_true c3
   clear c3
   replace H := Option.bind_eq_some_iff.mp H
   obtain ⟨t265, A40, H⟩ := H
   replace H : (if t265 = true then (Qh.l0 k1 l0 (wrap64 (x3_1 + 1))) else (some false)) = some r := H
   have A4 := Aside0.mk A40
   clear A40
   by_cases c5 : t265 = true
   ·subst c5
    have H1 : (Qh.l0 k1 l0 (wrap64 (x3_1 + 1))) = some r := by rw [if_pos rfl] at H; exact H
    clear H
    have H := H1
    clear H1
    have H' := Aside0.mk H
    clear H
    have p264 : 0 ≤ (x3_1 : Int) := ODz
    have q264 : x3_1 < (l0.length : Int) := ODz
    obtain ⟨ad264, A264_1, c264_1, A264_2, c264_2, e264, hx264_0, hx264_1, hx264_2, hx264_3, hx264_4, hl264_1, hi264_1, hl264_2, hi264_2⟩ := at_T57 HR0.out x3_1 p264 q264
    cases e264
    replace hx264_0 := HXz HB hx264_0
    replace hx264_1 := HXz HB hx264_1
    replace hx264_2 := HXz HB hx264_2
    replace hx264_3 := HXz HB hx264_3
    replace hx264_4 := HXz HB hx264_4
    have HR264_1 := Aside0.mk hi264_1
    have HC264_1 := Aside0.mk hl264_1
    clear hi264_1 hl264_1
    have HR264_2 := Aside0.mk hi264_2
    have HC264_2 := Aside0.mk hl264_2
    clear hi264_2 hl264_2
    replace p264 := eq_true p264
    replace q264 := eq_true q264
    go_wp2_with (first | ((with_reducible refine gate_callee (f := 68) rfl ?_); refine goesL_ (some 14) rfl rfl Tryz.func68 (by kernel_rfl) rfl #[.agg #[.string ((rd_T57 l0 x3_1).f0), .slice A264_1 ((rd_T57 l0 x3_1).f1).length c264_1, .slice A264_2 ((rd_T57 l0 x3_1).f2).length c264_2, .int .i64 ((rd_T57 l0 x3_1).f3), .bool ((rd_T57 l0 x3_1).f4)]] rfl MPz ?_; (with_reducible refine (Vn.calls k1 ((rd_T57 l0 x3_1).f0) _ _ ((rd_T57 l0 x3_1).f1) _ _ ((rd_T57 l0 x3_1).f2) ((rd_T57 l0 x3_1).f3) ((rd_T57 l0 x3_1).f4) true _ ?side1 ?side2 ?side3 ?side4 A4.out).mono ?_); (case side1 => exact KCz (Kd.C_below HR264_1.out HB.out)); (case side2 => exact HC264_1.out); (case side3 => exact KCz (Kd.C_below HR264_2.out HB.out)); (case side4 => exact HC264_2.out); rintro e w6 ⟨rfl, hb⟩; refine ⟨_, rfl, ?_⟩; have n0_ := Aside0.mk (below_step HBa hb); clear HB; have HB := n0_; clear n0_; (try clear hb); (try clear hb2); (try clear hk); (try clear hi)))
    go_roundg k1
    case measure => have := HK1.out; omega
    case rel => exact ⟨(wrap64 (x3_1 + 1)), EZc, H', ⟨by have := HK1.out; omega⟩, ⟨HBa⟩⟩
   replace c5 := Bool.eq_false_iff.mpr c5
   subst c5
   have H1 : (some false) = some r := by rw [if_neg (show ¬ (false = true) by decide)] at H; exact H
   clear H
   have H := H1
   clear H1
   obtain rfl := Option.some.inj H
   clear H
   have p264 : 0 ≤ (x3_1 : Int) := ODz
   have q264 : x3_1 < (l0.length : Int) := ODz
   obtain ⟨ad264, A264_1, c264_1, A264_2, c264_2, e264, hx264_0, hx264_1, hx264_2, hx264_3, hx264_4, hl264_1, hi264_1, hl264_2, hi264_2⟩ := at_T57 HR0.out x3_1 p264 q264
   cases e264
   replace hx264_0 := HXz HB hx264_0
   replace hx264_1 := HXz HB hx264_1
   replace hx264_2 := HXz HB hx264_2
   replace hx264_3 := HXz HB hx264_3
   replace hx264_4 := HXz HB hx264_4
   have HR264_1 := Aside0.mk hi264_1
   have HC264_1 := Aside0.mk hl264_1
   clear hi264_1 hl264_1
   have HR264_2 := Aside0.mk hi264_2
   have HC264_2 := Aside0.mk hl264_2
   clear hi264_2 hl264_2
   replace p264 := eq_true p264
   replace q264 := eq_true q264
   go_wp2_with (first | ((with_reducible refine gate_callee (f := 68) rfl ?_); refine goesL_ (some 14) rfl rfl Tryz.func68 (by kernel_rfl) rfl #[.agg #[.string ((rd_T57 l0 x3_1).f0), .slice A264_1 ((rd_T57 l0 x3_1).f1).length c264_1, .slice A264_2 ((rd_T57 l0 x3_1).f2).length c264_2, .int .i64 ((rd_T57 l0 x3_1).f3), .bool ((rd_T57 l0 x3_1).f4)]] rfl MPz ?_; (with_reducible refine (Vn.calls k1 ((rd_T57 l0 x3_1).f0) _ _ ((rd_T57 l0 x3_1).f1) _ _ ((rd_T57 l0 x3_1).f2) ((rd_T57 l0 x3_1).f3) ((rd_T57 l0 x3_1).f4) false _ ?side1 ?side2 ?side3 ?side4 A4.out).mono ?_); (case side1 => exact KCz (Kd.C_below HR264_1.out HB.out)); (case side2 => exact HC264_1.out); (case side3 => exact KCz (Kd.C_below HR264_2.out HB.out)); (case side4 => exact HC264_2.out); rintro e w7 ⟨rfl, hb⟩; refine ⟨_, rfl, ?_⟩; have n0_ := Aside0.mk (below_step HBa hb); clear HB; have HB := n0_; clear n0_; (try clear hb); (try clear hb2); (try clear hk); (try clear hi)))
   go_ret
   exact ⟨EZa, HBa⟩
def Qy.l0 : Nat → List (S96) → ByteArray → Int → Option (ByteArray)
 | 0, _, _, _ => none
 | k + 1, x0, x3, x4 => if x4 ≥ 0 then (if x3.size + 1 ≤ 9223372036854775807 then (if 0 ≤ x4 then (if x4 < (x0.length : Int) then (if (x3 ++ (⟨#[1]⟩ : ByteArray)).size + ((rd_T96 x0 x4).f0).size ≤ 9223372036854775807 then (if ((x3 ++ (⟨#[1]⟩ : ByteArray)) ++ ((rd_T96 x0 x4).f0)).size + 1 ≤ 9223372036854775807 then ((Qr.f k ((rd_T96 x0 x4).f1)).bind fun t268 => (if (((x3 ++ (⟨#[1]⟩ : ByteArray)) ++ ((rd_T96 x0 x4).f0)) ++ (⟨#[61]⟩ : ByteArray)).size + t268.size ≤ 9223372036854775807 then (Qy.l0 k x0 ((((x3 ++ (⟨#[1]⟩ : ByteArray)) ++ ((rd_T96 x0 x4).f0)) ++ (⟨#[61]⟩ : ByteArray)) ++ t268) (wrap64 (x4 - 1))) else (none))) else (none)) else (none)) else (none)) else (none)) else (none)) else (some x3)
def Qy.f (k : Nat) (l0 : List (S96)) : Option (ByteArray) := Qy.l0 k l0 (⟨#[]⟩ : ByteArray) (wrap64 ((l0.length : Int) - 1))
theorem Qy.mono_l : ∀ k, (∀ y0 y1 y2, LeO (Qy.l0 k y0 y1 y2) (Qy.l0 (k + 1) y0 y1 y2))
 | 0 => fun _ _ _ r h => by simp [Qy.l0] at h
 | k + 1 => by
  have ih0 := Qy.mono_l k
  ·intro y0 y1 y2
   unfold Qy.l0
   with_reducible repeat' first | exact ih0 _ _ _ | exact Qr.mono _ _ | exact LeO.refl _ | exact LeO.none _ | refine LeO.ite ?_ ?_ | refine LeO.bind ?_ (fun _ => ?_)
theorem Qy.mono : ∀ a0 k, LeO (Qy.f k a0) (Qy.f (k + 1) a0) := by
 intro a0 k
 have ih0 := Qy.mono_l k
 unfold Qy.f
 with_reducible repeat' first | exact ih0 _ _ _ | exact Qr.mono _ _ | exact LeO.refl _ | exact LeO.none _ | refine LeO.ite ?_ ?_ | refine LeO.bind ?_ (fun _ => ?_)
def Qy.T5 : Bool × List (List Nat × List Nat) := (true, [([], []), ([0], [0]), ([], []), ([], []), ([2, 3], [2, 3]), ([4], [4]), ([5], [5]), ([1, 6], [1, 6]), ([7], [7]), ([], []), ([], []), ([9, 10], [9, 10]), ([11], [11]), ([12], [12]), ([13], [13]), ([8, 14], [8, 14]), ([15, 14, 0, 1, 2, 3, 4, 5, 6, 7, 8, 9, 10, 11, 12, 13, 14, 15], [0, 15])])
def Qy.B5 : List Nat := [0, 1, 0, 0, 12, 28, 60, 127, 255, 0, 0, 1536, 3584, 7680, 15872, 32767, 65535]
theorem Qy.tab5 : rtab .any (opsOf Tryz.f142 5) = Qy.T5 := by kernel_rfl
theorem Qy.bits5 : waitsOk Qy.T5.2 Qy.B5 = true := by kernel_rfl
theorem Qy.calls (k : Nat) (A0 : Option Addr) (c0 : Nat) (l0 : List (S96)) (r : ByteArray) (w : World) (hr0 : Kd.C k96 w A0 l0.length l0) (hc0 : l0.length ≤ c0) (h : Qy.f k l0 = some r) :
  Calls Tryz.prog 142 #[.slice A0 l0.length c0] w fun e w' => e = .returned (.string r) ∧ Below w.heap.size w w' := by
 have HR0 := Aside0.mk hr0
 have HC0 := Aside0.mk hc0
 clear hr0 hc0
 have HB := Aside0.mk (Below.refl w.heap.size w)
 have H : (Qy.l0 k l0 (⟨#[]⟩ : ByteArray) (wrap64 ((l0.length : Int) - 1))) = some r := h
 clear h
 have H' := Aside0.mk H
 clear H
 go_enter Tryz.func142, Tryz.ntmps142
 go_wp2
 go_loopg [3, 4] k (fun kq v3 v4 w' => ∃ (x3_1 : ByteArray) (x4_1 : Int), v3 = .string x3_1 ∧ v4 = .int .i64 x4_1 ∧ Aside0 (Qy.l0 kq l0 x3_1 x4_1 = some r) ∧ Aside0 (kq ≤ k) ∧ Aside0 (Below w.heap.size w w'))
 case atStart => exact ⟨((⟨#[]⟩ : ByteArray)), (wrap64 ((l0.length : Int) - 1)), EZc, EZc, H', ⟨Nat.le_refl _⟩, ⟨HBa⟩⟩
 case round =>
  clear H'
  obtain ⟨x3_1, x4_1, rfl, rfl, HA, HK1, HB⟩ := hrel
  cases gk with
  | zero => exact absurd HA.out (by simp [Qy.l0])
  | succ k1 =>
   have H := HA.out
   clear HA
   simp only [Qy.l0] at H
   by_cases c2 : x4_1 ≥ 0
   rotate_left
   ·rw [if_neg c2] at H
    have c2b0 : decide (0 ≤ x4_1) = false := decide_eq_false c2
    clear c2
    obtain rfl := Option.some.inj H
    clear H
    go_wp2
    go_ret
    exact ⟨EZa, HBa⟩
   rw [if_pos c2] at H
   have c2b0 : decide (0 ≤ x4_1) = true := decide_eq_true c2
   clear c2
   by_cases c3 : x3_1.size + 1 ≤ 9223372036854775807
   rotate_left
   ·rw [if_neg c3] at H
    exact absurd H (by simp)
   rw [if_pos c3] at H
   have c3b0 := eq_true c3
   have c3b1 := decide_eq_true c3
   try have c3b2 : (9223372036854775807 < x3_1.size + 1) = False := eq_false (Nat.not_lt.2 c3)
   by_cases c4 : 0 ≤ x4_1
   rotate_left
   ·rw [if_neg c4] at H
    exact absurd H (by simp)
   rw [if_pos c4] at H
   have c4b0 := decide_eq_true c4
   clear c4
   by_cases c5 : x4_1 < (l0.length : Int)
   rotate_left
   ·rw [if_neg c5] at H
    exact absurd H (by simp)
   rw [if_pos c5] at H
   have c5b0 := decide_eq_true c5
   clear c5
   by_cases c6 : (x3_1 ++ (⟨#[1]⟩ : ByteArray)).size + ((rd_T96 l0 x4_1).f0).size ≤ 9223372036854775807
   rotate_left
   ·rw [if_neg c6] at H
    exact absurd H (by simp)
   rw [if_pos c6] at H
   have c6b0 := eq_true c6
   have c6b1 := decide_eq_true c6
   have c6n : ¬ (9223372036854775807 < (x3_1 ++ (⟨#[1]⟩ : ByteArray)).size + ((rd_T96 l0 x4_1).f0).size) := Nat.not_lt.2 c6
   try simp only [ByteArray.size_append, show (⟨#[1]⟩ : ByteArray).size = 1 from rfl] at c6n
   try have c6b2 : (9223372036854775807 < (x3_1 ++ (⟨#[1]⟩ : ByteArray)).size + ((rd_T96 l0 x4_1).f0).size) = False := eq_false (Nat.not_lt.2 c6)
   by_cases c7 : ((x3_1 ++ (⟨#[1]⟩ : ByteArray)) ++ ((rd_T96 l0 x4_1).f0)).size + 1 ≤ 9223372036854775807
   rotate_left
   ·rw [if_neg c7] at H
    exact absurd H (by simp)
   rw [if_pos c7] at H
   have c7b0 := eq_true c7
   have c7b1 := decide_eq_true c7
   have c7n : ¬ (9223372036854775807 < ((x3_1 ++ (⟨#[1]⟩ : ByteArray)) ++ ((rd_T96 l0 x4_1).f0)).size + 1) := Nat.not_lt.2 c7
   try simp only [ByteArray.size_append, show (⟨#[1]⟩ : ByteArray).size = 1 from rfl] at c7n
   try have c7b2 : (9223372036854775807 < ((x3_1 ++ (⟨#[1]⟩ : ByteArray)) ++ ((rd_T96 l0 x4_1).f0)).size + 1) = False := eq_false (Nat.not_lt.2 c7)
   replace H := Option.bind_eq_some_iff.mp H
   obtain ⟨t268, A80, H⟩ := H
   replace H : (if (((x3_1 ++ (⟨#[1]⟩ : ByteArray)) ++ ((rd_T96 l0 x4_1).f0)) ++ (⟨#[61]⟩ : ByteArray)).size + t268.size ≤ 9223372036854775807 then (Qy.l0 k1 l0 ((((x3_1 ++ (⟨#[1]⟩ : ByteArray)) ++ ((rd_T96 l0 x4_1).f0)) ++ (⟨#[61]⟩ : ByteArray)) ++ t268) (wrap64 (x4_1 - 1))) else (none)) = some r := H
   have A8 := Aside0.mk A80
   clear A80
   by_cases c9 : (((x3_1 ++ (⟨#[1]⟩ : ByteArray)) ++ ((rd_T96 l0 x4_1).f0)) ++ (⟨#[61]⟩ : ByteArray)).size + t268.size ≤ 9223372036854775807
   rotate_left
   ·rw [if_neg c9] at H
    exact absurd H (by simp)
   rw [if_pos c9] at H
   have c9b0 := eq_true c9
   have c9b1 := decide_eq_true c9
   have c9n : ¬ (9223372036854775807 < (((x3_1 ++ (⟨#[1]⟩ : ByteArray)) ++ ((rd_T96 l0 x4_1).f0)) ++ (⟨#[61]⟩ : ByteArray)).size + t268.size) := Nat.not_lt.2 c9
   try simp only [ByteArray.size_append, show (⟨#[1]⟩ : ByteArray).size = 1 from rfl, show (⟨#[61]⟩ : ByteArray).size = 1 from rfl] at c9n
   try have c9b2 : (9223372036854775807 < (((x3_1 ++ (⟨#[1]⟩ : ByteArray)) ++ ((rd_T96 l0 x4_1).f0)) ++ (⟨#[61]⟩ : ByteArray)).size + t268.size) = False := eq_false (Nat.not_lt.2 c9)
   have H' := Aside0.mk H
   clear H
   try go_wp2
   have n0_ := Aside0.mk (below_drew1 HB.out)
   clear HB
   have HB := n0_
   clear n0_
   have p266 : 0 ≤ (x4_1 : Int) := ODz
   have q266 : x4_1 < (l0.length : Int) := ODz
   obtain ⟨ad266, e266, hx266_0, hx266_1⟩ := at_T96 HR0.out x4_1 p266 q266
   have hw266_1 := hx266_1
   have hw266_0 := hx266_0
   cases e266
   replace hx266_0 := HXz HB hx266_0
   replace hx266_1 := HXz HB hx266_1
   replace p266 := eq_true p266
   replace q266 := eq_true q266
   have p267 : 0 ≤ (x4_1 : Int) := ODz
   have q267 : x4_1 < (l0.length : Int) := ODz
   obtain ⟨ad267, e267, hx267_0, hx267_1⟩ := at_T96 HR0.out x4_1 p267 q267
   have hw267_1 := hx267_1
   have hw267_0 := hx267_0
   obtain rfl : ad266 = ad267 := (by injection e267)
   replace hx267_0 := HXz HB hx267_0
   replace hx267_1 := HXz HB hx267_1
   replace p267 := eq_true p267
   replace q267 := eq_true q267
   refine start_ (n := 17) (S := fun w' => w'.cell? (ad266.add ((x4_1).toNat * 2)) = some (.string ((rd_T96 l0 x4_1).f0)) ∧ w'.cell? ⟨(ad266.add ((x4_1).toNat * 2)).block, (ad266.add ((x4_1).toNat * 2)).off + 1, none⟩ = some (.string ((rd_T96 l0 x4_1).f1)) ∧ w'.cell? (ad266.add ((x4_1).toNat * 2)) = some (.string ((rd_T96 l0 x4_1).f0)) ∧ w'.cell? ⟨(ad266.add ((x4_1).toNat * 2)).block, (ad266.add ((x4_1).toNat * 2)).off + 1, none⟩ = some (.string ((rd_T96 l0 x4_1).f1))) (ds := []) (bz 17 0) (by kernel_rfl) rfl (by kernel_rfl) ⟨(HXz HB hw266_0 :), (HXz HB hw266_1 :), (HXz HB hw267_0 :), (HXz HB hw267_1 :)⟩ (fun hHeld => ?_); refine with_tabW Qy.tab5 Qy.bits5 (fun HT_ HW_ => ?_)
   generalize wr.drew = w10 at HB hx266_0 hx266_1 hx267_0 hx267_1 hHeld ⊢
   refine PYz 0 12 (bz 17 1) rfl rfl (any_of HT_.out (by kernel_rfl)) ?_
   refine PYz 1 13 (bz 17 3) rfl rfl (any_of HT_.out (by kernel_rfl)) ?_
   refine PYz 2 14 (bz 17 7) rfl rfl (any_of HT_.out (by kernel_rfl)) ?_
   refine PYz 3 15 (bz 17 15) rfl rfl (any_of HT_.out (by kernel_rfl)) ?_
   refine PYz 4 16 (bz 17 31) rfl rfl (any_of HT_.out (by kernel_rfl)) ?_
   refine PYz 5 17 (bz 17 63) rfl rfl (any_of HT_.out (by kernel_rfl)) ?_
   refine PYz 9 21 (bz 17 575) rfl rfl (any_of HT_.out (by kernel_rfl)) ?_
   refine PYz 10 22 (bz 17 1599) rfl rfl (any_of HT_.out (by kernel_rfl)) ?_
   refine PYz 11 23 (bz 17 3647) rfl rfl (any_of HT_.out (by kernel_rfl)) ?_
   refine PYz 12 24 (bz 17 7743) rfl rfl (any_of HT_.out (by kernel_rfl)) ?_
   refine PTz 6 18 (bz 17 7807) rfl rfl (take_ofW HT_.out HW_.out (by kernel_rfl)) hHeld ?_
   refine PYz 7 19 (bz 17 7935) rfl rfl (any_of HT_.out (by kernel_rfl)) ?_
   refine PYz 8 20 (bz 17 8191) rfl rfl (any_of HT_.out (by kernel_rfl)) ?_
   refine PTz 13 25 (bz 17 16383) rfl rfl (take_ofW HT_.out HW_.out (by kernel_rfl)) hHeld ?_
   refine one_ (i := 14) (N := some 26) (bz 17 32767) rfl rfl (one_of HT_.out (by kernel_rfl)) (by decide) (fun K hK => ?_)
   refine goes_ Tryz.func110 (by kernel_rfl) rfl #[.string ((rd_T96 l0 x4_1).f1)] (by rfl) rfl rfl MPz ?_
   with_reducible refine (Qr.calls k1 ((rd_T96 l0 x4_1).f1) t268 _ A8.out).mono ?_
   rintro e w11 ⟨rfl, hb⟩
   refine ⟨_, rfl, ?_⟩
   have n0_ := Aside0.mk (below_step HBa hb)
   clear HB
   have HB := n0_
   clear n0_
   (try clear hb)
   (try clear hb2)
   (try clear hk)
   (try clear hi)
   refine hK.out _ _ ⟨(HXz HB hw266_0 :), (HXz HB hw266_1 :), (HXz HB hw267_0 :), (HXz HB hw267_1 :)⟩ (fun hHeld => ?_)
   clear hK K
   refine norm_ (a' := ?_) ?_ ?_
   rotate_left
   ·show Act.put _ (some 26) _ = _
    simp only [PUz]
    rfl
   refine PYz 15 27 (bz 17 65535) rfl rfl (any_of HT_.out (by kernel_rfl)) ?_
   refine PYz 16 3 (bz 17 131071) rfl rfl (any_of HT_.out (by kernel_rfl)) ?_
   refine done_ (done_of HT_.out (by kernel_rfl)) ?_
   try go_wp2
   go_roundg k1
   case measure => have := HK1.out; omega
   case rel => exact ⟨((((x3_1 ++ (⟨#[1]⟩ : ByteArray)) ++ ((rd_T96 l0 x4_1).f0)) ++ (⟨#[61]⟩ : ByteArray)) ++ t268), (wrap64 (x4_1 - 1)), EZc, EZc, H', ⟨by have := HK1.out; omega⟩, ⟨HBa⟩⟩
def Qm.j0 : Nat → List (S96) → List (S96) → Bool → Option (Bool)
 | 0, _, _, _ => none
 | k + 1, x0, x1, x29 => if x29 = true then (some false) else (if 0 ≤ (wrap64 ((x0.length : Int) - (x1.length : Int))) then (if (wrap64 ((x0.length : Int) - (x1.length : Int))) ≤ (x0.length : Int) then ((Qy.f k (x0.drop ((wrap64 ((x0.length : Int) - (x1.length : Int))) : Int).toNat)).bind fun t275 => ((Qy.f k x1).bind fun t276 => (some (t275.toList == t276.toList)))) else (none)) else (none))
def Qm.f (k : Nat) (l0 : List (S96)) (l1 : List (S96)) : Option (Bool) := if (l0.length : Int) > 400 then (Qm.j0 k l0 l1 true) else (if (l1.length : Int) > 400 then (Qm.j0 k l0 l1 true) else ((Qk.f k l0).bind fun t269 => (if t269 = true then ((Qk.f k l1).bind fun t270 => (if t270 = true then (Qm.j0 k l0 l1 (decide ((l1.length : Int) > (l0.length : Int)))) else (Qm.j0 k l0 l1 true))) else (Qm.j0 k l0 l1 true))))
theorem Qm.mono_l : ∀ k, (∀ y0 y1 y2, LeO (Qm.j0 k y0 y1 y2) (Qm.j0 (k + 1) y0 y1 y2))
 | 0 => fun _ _ _ r h => by simp [Qm.j0] at h
 | k + 1 => by
  have ih0 := Qm.mono_l k
  ·intro y0 y1 y2
   unfold Qm.j0
   with_reducible repeat' first | exact ih0 _ _ _ | exact Qk.mono _ _ | exact Qy.mono _ _ | exact LeO.refl _ | exact LeO.none _ | refine LeO.ite ?_ ?_ | refine LeO.bind ?_ (fun _ => ?_)
theorem Qm.mono : ∀ a0 a1 k, LeO (Qm.f k a0 a1) (Qm.f (k + 1) a0 a1) := by
 intro a0 a1 k
 have ih0 := Qm.mono_l k
 unfold Qm.f
 with_reducible repeat' first | exact ih0 _ _ _ | exact Qk.mono _ _ | exact Qy.mono _ _ | exact LeO.refl _ | exact LeO.none _ | refine LeO.ite ?_ ?_ | refine LeO.bind ?_ (fun _ => ?_)
theorem Qm.calls (k : Nat) (A0 : Option Addr) (c0 : Nat) (l0 : List (S96)) (A1 : Option Addr) (c1 : Nat) (l1 : List (S96)) (r : Bool) (w : World) (hr0 : Kd.C k96 w A0 l0.length l0) (hc0 : l0.length ≤ c0) (hr1 : Kd.C k96 w A1 l1.length l1) (hc1 : l1.length ≤ c1) (h : Qm.f k l0 l1 = some r) :
  Calls Tryz.prog 103 #[.slice A0 l0.length c0, .slice A1 l1.length c1] w fun e w' => e = .returned (.bool r) ∧ Below w.heap.size w w' := by
 have HR0 := Aside0.mk hr0
 have HC0 := Aside0.mk hc0
 clear hr0 hc0
 have HR1 := Aside0.mk hr1
 have HC1 := Aside0.mk hc1
 clear hr1 hc1
 have HB := Aside0.mk (Below.refl w.heap.size w)
 have H : (if (l0.length : Int) > 400 then (Qm.j0 k l0 l1 true) else (if (l1.length : Int) > 400 then (Qm.j0 k l0 l1 true) else ((Qk.f k l0).bind fun t269 => (if t269 = true then ((Qk.f k l1).bind fun t270 => (if t270 = true then (Qm.j0 k l0 l1 (decide ((l1.length : Int) > (l0.length : Int)))) else (Qm.j0 k l0 l1 true))) else (Qm.j0 k l0 l1 true))))) = some r := h
 clear h
 have HC3 := Aside0.mk H
 clear H
 go_enter Tryz.func103, Tryz.ntmps103
 go_upto_region 1 with (fail)
 go_cut [29] (fun v29 wc => ∃ (kq : Nat) (x29_2 : Bool), v29 = .bool x29_2 ∧ Aside0 (Qm.j0 kq l0 l1 x29_2 = some r) ∧ Aside0 (kq ≤ k) ∧ Aside0 (Below w.heap.size w wc))
 case first =>
  have H := HC3.out
  clear HC3
  by_cases c4 : (l0.length : Int) > 400
  ·rw [if_pos c4] at H
   have c4b0 : decide (400 < (l0.length : Int)) = true := decide_eq_true c4
   have c4b1 : decide (400 < l0.length) = true := decide_eq_true (by omega)
   clear c4
   (first | rw [c4b0] | rw [c4v0] | (simp only [i64_w, i32_w]; rw [c4b0]) | (simp only [i64_w, i32_w]; rw [c4v0]) | skip)
   have H' := Aside0.mk H
   clear H
   go_wp2
   go_meet
   case rel => exact ⟨_, (true), EZc, H', ⟨by first | omega | exact Nat.le_refl _⟩, ⟨HBa⟩⟩
  rw [if_neg c4] at H
  have c4b0 : decide (400 < (l0.length : Int)) = false := decide_eq_false c4
  have c4b1 : decide (400 < l0.length) = false := decide_eq_false (by omega)
  clear c4
  (first | rw [c4b0] | rw [c4v0] | (simp only [i64_w, i32_w]; rw [c4b0]) | (simp only [i64_w, i32_w]; rw [c4v0]) | skip)
  by_cases c5 : (l1.length : Int) > 400
  ·rw [if_pos c5] at H
   have c5b0 : decide (400 < (l1.length : Int)) = true := decide_eq_true c5
   have c5b1 : decide (400 < l1.length) = true := decide_eq_true (by omega)
   clear c5
   have H' := Aside0.mk H
   clear H
   go_wp2
   go_meet
   case rel => exact ⟨_, (true), EZc, H', ⟨by first | omega | exact Nat.le_refl _⟩, ⟨HBa⟩⟩
  rw [if_neg c5] at H
  have c5b0 : decide (400 < (l1.length : Int)) = false := decide_eq_false c5
  have c5b1 : decide (400 < l1.length) = false := decide_eq_false (by omega)
  clear c5
  replace H := Option.bind_eq_some_iff.mp H
  obtain ⟨t269, A60, H⟩ := H
  replace H : (if t269 = true then ((Qk.f k l1).bind fun t270 => (if t270 = true then (Qm.j0 k l0 l1 (decide ((l1.length : Int) > (l0.length : Int)))) else (Qm.j0 k l0 l1 true))) else (Qm.j0 k l0 l1 true)) = some r := H
  have A6 := Aside0.mk A60
  clear A60
  by_cases c7 : t269 = true
  rotate_left
  ·replace c7 := Bool.eq_false_iff.mpr c7
   subst c7
   have H1 : (Qm.j0 k l0 l1 true) = some r := by rw [if_neg (show ¬ (false = true) by decide)] at H; exact H
   clear H
   have H := H1
   clear H1
   have H' := Aside0.mk H
   clear H
   go_wp2_with (first | (go_at_call 35; (with_reducible refine (Qk.calls k _ _ l0 false _ ?side1 ?side2 A6.out).mono ?_); (case side1 => exact KCz (Kd.C_below HR0.out HB.out)); (case side2 => exact HC0.out); rintro e w14 ⟨rfl, hb⟩; have n0_ := Aside0.mk (below_step HBa hb); clear HB; have HB := n0_; clear n0_; (try clear hb); (try clear hb2); (try clear hk); (try clear hi)))
   go_meet
   case rel => exact ⟨_, (true), EZc, H', ⟨by first | omega | exact Nat.le_refl _⟩, ⟨HBa⟩⟩
  subst c7
  have H1 : ((Qk.f k l1).bind fun t270 => (if t270 = true then (Qm.j0 k l0 l1 (decide ((l1.length : Int) > (l0.length : Int)))) else (Qm.j0 k l0 l1 true))) = some r := by rw [if_pos rfl] at H; exact H
  clear H
  have H := H1
  clear H1
  replace H := Option.bind_eq_some_iff.mp H
  obtain ⟨t270, A80, H⟩ := H
  replace H : (if t270 = true then (Qm.j0 k l0 l1 (decide ((l1.length : Int) > (l0.length : Int)))) else (Qm.j0 k l0 l1 true)) = some r := H
  have A8 := Aside0.mk A80
  clear A80
  by_cases c9 : t270 = true
  ·subst c9
   have H1 : (Qm.j0 k l0 l1 (decide ((l1.length : Int) > (l0.length : Int)))) = some r := by rw [if_pos rfl] at H; exact H
   clear H
   have H := H1
   clear H1
   have H' := Aside0.mk H
   clear H
   go_wp2_with (first | (go_at_call 35; (with_reducible refine (Qk.calls k _ _ l0 true _ ?side1 ?side2 A6.out).mono ?_); (case side1 => exact KCz (Kd.C_below HR0.out HB.out)); (case side2 => exact HC0.out); rintro e w10 ⟨rfl, hb⟩; have n0_ := Aside0.mk (below_step HBa hb); clear HB; have HB := n0_; clear n0_; (try clear hb); (try clear hb2); (try clear hk); (try clear hi)) | (go_at_call 35; (with_reducible refine (Qk.calls k _ _ l1 true _ ?side1 ?side2 A8.out).mono ?_); (case side1 => exact KCz (Kd.C_below HR1.out HB.out)); (case side2 => exact HC1.out); rintro e w11 ⟨rfl, hb⟩; have n0_ := Aside0.mk (below_step HBa hb); clear HB; have HB := n0_; clear n0_; (try clear hb); (try clear hb2); (try clear hk); (try clear hi)))
   go_meet
   case rel => exact ⟨_, (decide ((l1.length : Int) > (l0.length : Int))), EZc, H', ⟨by first | omega | exact Nat.le_refl _⟩, ⟨HBa⟩⟩
  replace c9 := Bool.eq_false_iff.mpr c9
  subst c9
  have H1 : (Qm.j0 k l0 l1 true) = some r := by rw [if_neg (show ¬ (false = true) by decide)] at H; exact H
  clear H
  have H := H1
  clear H1
  have H' := Aside0.mk H
  clear H
  go_wp2_with (first | (go_at_call 35; (with_reducible refine (Qk.calls k _ _ l0 true _ ?side1 ?side2 A6.out).mono ?_); (case side1 => exact KCz (Kd.C_below HR0.out HB.out)); (case side2 => exact HC0.out); rintro e w12 ⟨rfl, hb⟩; have n0_ := Aside0.mk (below_step HBa hb); clear HB; have HB := n0_; clear n0_; (try clear hb); (try clear hb2); (try clear hk); (try clear hi)) | (go_at_call 35; (with_reducible refine (Qk.calls k _ _ l1 false _ ?side1 ?side2 A8.out).mono ?_); (case side1 => exact KCz (Kd.C_below HR1.out HB.out)); (case side2 => exact HC1.out); rintro e w13 ⟨rfl, hb⟩; have n0_ := Aside0.mk (below_step HBa hb); clear HB; have HB := n0_; clear n0_; (try clear hb); (try clear hb2); (try clear hk); (try clear hi)))
  go_meet
  case rel => exact ⟨_, (true), EZc, H', ⟨by first | omega | exact Nat.le_refl _⟩, ⟨HBa⟩⟩
 case rest =>
  clear HC3
  try clear c1
  obtain ⟨kq, x29_2, rfl, HA, HJ2, HB⟩ := hcut
  cases kq with
  | zero => exact absurd HA.out (by simp [Qm.j0])
  | succ kj2 =>
   have H := HA.out
   clear HA
   simp only [Qm.j0] at H
   by_cases c15 : x29_2 = true
   ·subst c15
    have H1 : (some false) = some r := by rw [if_pos rfl] at H; exact H
    clear H
    have H := H1
    clear H1
    obtain rfl := Option.some.inj H
    clear H
    go_wp2
    go_ret
    exact ⟨EZa, HBa⟩
   replace c15 := Bool.eq_false_iff.mpr c15
   subst c15
   have H1 : (if 0 ≤ (wrap64 ((l0.length : Int) - (l1.length : Int))) then (if (wrap64 ((l0.length : Int) - (l1.length : Int))) ≤ (l0.length : Int) then ((Qy.f kj2 (l0.drop ((wrap64 ((l0.length : Int) - (l1.length : Int))) : Int).toNat)).bind fun t275 => ((Qy.f kj2 l1).bind fun t276 => (some (t275.toList == t276.toList)))) else (none)) else (none)) = some r := by rw [if_neg (show ¬ (false = true) by decide)] at H; exact H
   clear H
   have H := H1
   clear H1
   obtain ⟨ji16, hji16⟩ : ∃ j_ : Int, (wrap64 ((l0.length : Int) - (l1.length : Int))) = j_ := ⟨_, rfl⟩
   replace H : (if 0 ≤ (ji16) then (if (ji16) ≤ (l0.length : Int) then ((Qy.f kj2 (l0.drop ((ji16) : Int).toNat)).bind fun t275 => ((Qy.f kj2 l1).bind fun t276 => (some (t275.toList == t276.toList)))) else (none)) else (none)) = some r := by first | (rw [hji16] at H; exact H) | (simp only [hji16] at H ⊢; exact H)
   have hji16w : (IntKind.i64.wrap ((l0.length : Int) - (l1.length : Int))) = ji16 := (i64_w _).trans hji16
   by_cases c17 : 0 ≤ (ji16)
   rotate_left
   ·rw [if_neg c17] at H
    exact absurd H (by simp)
   rw [if_pos c17] at H
   have c17b0 := eq_true c17
   have c17b1 := decide_eq_true c17
   clear c17
   by_cases c18 : (ji16) ≤ (l0.length : Int)
   rotate_left
   ·rw [if_neg c18] at H
    exact absurd H (by simp)
   rw [if_pos c18] at H
   have c18b0 := eq_true c18
   have c18b1 := decide_eq_true c18
   clear c18
   obtain ⟨y271, hy271⟩ : ∃ y_ : List (S96), y_ = (l0.drop ((ji16) : Int).toNat) := ⟨_, rfl⟩
   replace H : ((Qy.f kj2 y271).bind fun t275 => ((Qy.f kj2 l1).bind fun t276 => (some (t275.toList == t276.toList)))) = some r := by first | (rw [hy271]; with_reducible exact H) | (have H2_ := (Option.bind_some _ _).symm.trans H; rw [hy271]; with_reducible exact H2_) | (have H2_ := (Option.bind_some _ _).symm.trans H; with_reducible exact H2_) | with_reducible exact H | (rw [hy271]; exact H) | exact H
   have Ny271 := Aside0.mk hy271
   clear hy271
   replace H := Option.bind_eq_some_iff.mp H
   obtain ⟨t275, A190, H⟩ := H
   replace H : ((Qy.f kj2 l1).bind fun t276 => (some (t275.toList == t276.toList))) = some r := H
   have A19 := Aside0.mk A190
   clear A190
   replace H := Option.bind_eq_some_iff.mp H
   obtain ⟨t276, A200, H⟩ := H
   replace H : (some (t275.toList == t276.toList)) = some r := H
   have A20 := Aside0.mk A200
   clear A200
   obtain rfl := Option.some.inj H
   clear H
   have q21 : ((ji16) : Int) ≤ ((l0.length : Int) : Int) := ODz
   obtain ⟨i021, hi021, _, hsz21, _⟩ := info_parts info96
   have hroom21 : l0.length ≤ c0 := HC0.out
   have hC21 : Kd.C k96 _ A0 l0.length l0 := HR0.out
   have q021 : (0 : Int) ≤ ((ji16) : Int) := ODz
   have hcut21 := cut_from (P := Tryz.prog) 44 96 .i64 Tryz.underlying44 hi021 2 hsz21 A0 l0.length c0 (ji16) q021 q21
   have hr21 := Kd.C_drop (m := ((ji16) : Int).toNat) (c := c0) hC21 (by omega) hroom21
   obtain ⟨A21, hA21⟩ : ∃ A1, A1 = (if c0 = ((ji16) : Int).toNat then A0 else (A0 : Option Addr).map (·.add (((ji16) : Int).toNat * 2))) := ⟨_, rfl⟩
   obtain ⟨c21, hc21⟩ : ∃ c1, c1 = c0 - ((ji16) : Int).toNat := ⟨_, rfl⟩
   have hy21 : y271.length = l0.length - ((ji16) : Int).toNat := (by rw [Ny271.out, List.length_drop] <;> omega)
   rw [show (l0).drop ((ji16) : Int).toNat = y271 from Ny271.out.symm] at hr21
   replace hr21 : Kd.C k96 _ A21 y271.length y271 := (by rw [hA21]; exact hr21)
   rw [← hy21, ← hA21, ← hc21] at hcut21
   have HR274 := Aside0.mk hr21
   have HC274 := Aside0.mk (show y271.length ≤ c21 from by rw [hy21, hc21]; exact Nat.sub_le_sub_right hroom21 _)
   clear hr21 hC21 hroom21 hi021 hsz21 hc21
   have KY21 := Aside0.mk hy21
   have KA21 := Aside0.mk hA21
   clear hy21 hA21
   replace q21 := eq_true q21
   go_wp2_with (first | ((with_reducible refine gate_callee (f := 142) rfl ?_); refine goesL_ (some 37) rfl rfl Tryz.func142 (by kernel_rfl) rfl #[.slice A21 y271.length c21] rfl MPz ?_; (with_reducible refine (Qy.calls kj2 _ _ y271 t275 _ ?side1 ?side2 A19.out).mono ?_); (case side1 => exact KCz (Kd.C_below HR274.out HB.out)); (case side2 => exact HC274.out); rintro e w22 ⟨rfl, hb⟩; refine ⟨_, rfl, ?_⟩; have n0_ := Aside0.mk (below_step HBa hb); clear HB; have HB := n0_; clear n0_; (try clear hb); (try clear hb2); (try clear hk); (try clear hi)) | ((with_reducible refine gate_callee (f := 142) rfl ?_); refine goesL_ (some 39) rfl rfl Tryz.func142 (by kernel_rfl) rfl #[.slice A1 l1.length c1] rfl MPz ?_; (with_reducible refine (Qy.calls kj2 _ _ l1 t276 _ ?side1 ?side2 A20.out).mono ?_); (case side1 => exact KCz (Kd.C_below HR1.out HB.out)); (case side2 => exact HC1.out); rintro e w23 ⟨rfl, hb⟩; refine ⟨_, rfl, ?_⟩; have n0_ := Aside0.mk (below_step HBa hb); clear HB; have HB := n0_; clear n0_; (try clear hb); (try clear hb2); (try clear hk); (try clear hi)))
   go_ret
   exact ⟨by first | rfl | (simp only [bne_nil_, beq_nil_]; rfl) | (simp [errW_none, errW_some] <;> rfl) | (simp only [← hji16]; first | rfl | (simp [errW_none, errW_some] <;> rfl)) | (simp [*, errW_none, errW_some] <;> rfl), HBa⟩
def Vj.l0 : Nat → List ByteArray → ByteArray → Int → Option (Bool)
 | 0, _, _, _ => none
 | k + 1, x0, x1, x5 => if x5 < (x0.length : Int) then (if 0 ≤ x5 then (if (rdOf ByteArray.empty x0 x5).toList = x1.toList then (some true) else (Vj.l0 k x0 x1 (wrap64 (x5 + 1)))) else (none)) else (some false)
def Vj.f (k : Nat) (l0 : List ByteArray) (a1 : ByteArray) : Option (Bool) := Vj.l0 k l0 a1 0
theorem Vj.mono_l : ∀ k, (∀ y0 y1 y2, LeO (Vj.l0 k y0 y1 y2) (Vj.l0 (k + 1) y0 y1 y2))
 | 0 => fun _ _ _ r h => by simp [Vj.l0] at h
 | k + 1 => by
  have ih0 := Vj.mono_l k
  ·intro y0 y1 y2
   unfold Vj.l0
   with_reducible repeat' first | exact ih0 _ _ _ | exact LeO.refl _ | exact LeO.none _ | refine LeO.ite ?_ ?_ | refine LeO.bind ?_ (fun _ => ?_)
theorem Vj.mono : ∀ a0 a1 k, LeO (Vj.f k a0 a1) (Vj.f (k + 1) a0 a1) := by
 intro a0 a1 k
 have ih0 := Vj.mono_l k
 unfold Vj.f
 with_reducible repeat' first | exact ih0 _ _ _ | exact LeO.refl _ | exact LeO.none _ | refine LeO.ite ?_ ?_ | refine LeO.bind ?_ (fun _ => ?_)
theorem Vj.calls (k : Nat) (A0 : Option Addr) (c0 : Nat) (l0 : List ByteArray) (a1 : ByteArray) (r : Bool) (w : World) (hr0 : Kd.C Kd.string w A0 l0.length l0) (hc0 : l0.length ≤ c0) (h : Vj.f k l0 a1 = some r) :
  Calls Tryz.prog 104 #[.slice A0 l0.length c0, .string a1] w fun e w' => e = .returned (.bool r) ∧ Drawn0 w w' := by
 have HR0 := Aside0.mk hr0
 have HC0 := Aside0.mk hc0
 clear hr0 hc0
 have H : (Vj.l0 k l0 a1 0) = some r := h
 clear h
 have H' := Aside0.mk H
 clear H
 go_enter Tryz.func104, Tryz.ntmps104
 go_wp2
 go_loopg [5] k (fun kq v5 w' => ∃ (x5_1 : Int), v5 = .int .i64 x5_1 ∧ Aside0 (Vj.l0 kq l0 a1 x5_1 = some r) ∧ Aside0 (kq ≤ k) ∧ Drawn0 w w')
 case atStart => exact ⟨(0), EZc, H', ⟨Nat.le_refl _⟩, DRz⟩
 case round =>
  clear H'
  obtain ⟨x5_1, rfl, HA, HK1, ⟨m1, rfl⟩⟩ := hrel
  cases gk with
  | zero => exact absurd HA.out (by simp [Vj.l0])
  | succ k1 =>
   have H := HA.out
   clear HA
   simp only [Vj.l0] at H
   by_cases c3 : x5_1 < (l0.length : Int)
   rotate_left
   ·rw [if_neg c3] at H
    have c3b0 := decide_eq_false c3
    clear c3
    obtain rfl := Option.some.inj H
    clear H
    go_wp2
    go_ret
    exact ⟨EZb, DRz⟩
   rw [if_pos c3] at H
   have c3b0 := decide_eq_true c3
   clear c3
   by_cases c4 : 0 ≤ x5_1
   rotate_left
   ·rw [if_neg c4] at H
    exact absurd H (by simp)
   rw [if_pos c4] at H
   have c4b0 := decide_eq_true c4
   clear c4
   by_cases c5 : (rdOf ByteArray.empty l0 x5_1).toList = a1.toList
   ·rw [if_pos c5] at H
    obtain ⟨c5b0, c5b1⟩ := QTz c5
    clear c5
    obtain rfl := Option.some.inj H
    clear H
    have p277 : 0 ≤ (x5_1 : Int) := ODz
    have q277 : x5_1 < (l0.length : Int) := ODz
    obtain ⟨ad277, e277, hx277_0⟩ := Kd.at_string HR0.out x5_1 p277 q277
    cases e277
    replace p277 := eq_true p277
    replace q277 := eq_true q277
    go_wp2
    go_ret
    exact ⟨EZb, DRz⟩
   rw [if_neg c5] at H
   obtain ⟨c5b0, c5b1⟩ := QFz c5
   have H' := Aside0.mk H
   clear H
   have p277 : 0 ≤ (x5_1 : Int) := ODz
   have q277 : x5_1 < (l0.length : Int) := ODz
   obtain ⟨ad277, e277, hx277_0⟩ := Kd.at_string HR0.out x5_1 p277 q277
   cases e277
   replace p277 := eq_true p277
   replace q277 := eq_true q277
   go_wp2
   go_roundg k1
   case measure => have := HK1.out; omega
   case rel => exact ⟨(wrap64 (x5_1 + 1)), EZc, H', ⟨by have := HK1.out; omega⟩, DRz⟩
end Go.Proofs.YtmkeigielncpjaaGreatDoor.PFnAcl
