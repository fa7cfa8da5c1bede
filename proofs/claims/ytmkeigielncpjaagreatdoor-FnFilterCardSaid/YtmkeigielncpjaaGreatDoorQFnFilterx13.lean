-- Laid by this session's own program out of the translation; Lean checks it.
import Derived.Test.YtmkeigielncpjaaGreatDoorQFnFilterx0
import Derived.Test.YtmkeigielncpjaaGreatDoorQFnFilterx8
import Derived.Test.YtmkeigielncpjaaGreatDoorLayIndexByte
import Derived.Lib.Bytealg
import Derived.WalkSpells
namespace Go.Proofs.YtmkeigielncpjaaGreatDoor.PFnFilter
open Go.RowKit Go.Proofs.YtmkeigielncpjaaGreatDoorW.PrintWords Go.Proofs.YtmkeigielncpjaaGreatDoorW.PrintLast Go.Proofs.YtmkeigielncpjaaGreatDoorW.PrintMore
attribute [local go_sem] max2_int min2_int max_two min_two max_three min_three max_four min_four   -- for this text's walks alone
set_option linter.unusedVariables false
set_option linter.unusedSimpArgs false
def Gj.l0 : Nat → List ByteArray → Int → Int → Option (Bool)
 | 0, _, _, _ => none
 | k + 1, x5, x6, x7 => if x7 < x6 then (if 0 ≤ x7 then (if x7 < (x5.length : Int) then (if ((rdOf ByteArray.empty x5 x7).size : Int) > 8000 then (some true) else (Gj.l0 k x5 x6 (wrap64 (x7 + 1)))) else (none)) else (none)) else (some false)
def Gj.f (k : Nat) (l0 : List ByteArray) : Option (Bool) := Gj.l0 k l0 (l0.length : Int) 0
theorem Gj.mono_l : ∀ k, (∀ y0 y1 y2, LeO (Gj.l0 k y0 y1 y2) (Gj.l0 (k + 1) y0 y1 y2))
 | 0 => fun _ _ _ r h => by simp [Gj.l0] at h
 | k + 1 => by
  have ih0 := Gj.mono_l k
  ·intro y0 y1 y2
   unfold Gj.l0
   with_reducible repeat' first | exact ih0 _ _ _ | exact LeO.refl _ | exact LeO.none _ | refine LeO.ite ?_ ?_ | refine LeO.bind ?_ (fun _ => ?_)
theorem Gj.mono : ∀ a0 k, LeO (Gj.f k a0) (Gj.f (k + 1) a0) := by
 intro a0 k
 have ih0 := Gj.mono_l k
 unfold Gj.f
 with_reducible repeat' first | exact ih0 _ _ _ | exact LeO.refl _ | exact LeO.none _ | refine LeO.ite ?_ ?_ | refine LeO.bind ?_ (fun _ => ?_)
set_option maxHeartbeats 8000000 in
set_option maxRecDepth 100000 in
theorem Gj.calls (k : Nat) (A0 : Option Addr) (c0 : Nat) (l0 : List ByteArray) (r : Bool) (w : World) (hr0 : Kd.C Kd.string w A0 l0.length l0) (hc0 : l0.length ≤ c0) (h : Gj.f k l0 = some r) :
  Calls Tryz.prog 43 #[.slice A0 l0.length c0] w fun e w' => e = .returned (.bool r) ∧ Drawn0 w w' := by
 have HR0 := Aside0.mk hr0
 have HC0 := Aside0.mk hc0
 clear hr0 hc0
 have H : (Gj.l0 k l0 (l0.length : Int) 0) = some r := h
 clear h
 have H' := Aside0.mk H
 clear H
 go_enter Tryz.func43, Tryz.ntmps43
 go_wp2
 go_loopg [7] k (fun kq v7 w' => ∃ (x7_1 : Int), v7 = .int .i64 x7_1 ∧ Aside0 (Gj.l0 kq l0 (l0.length : Int) x7_1 = some r) ∧ Aside0 (kq ≤ k) ∧ Drawn0 w w')
 case atStart => exact ⟨(0), EZc, H', ⟨Nat.le_refl _⟩, DRz⟩
 case round =>
  clear H'
  obtain ⟨x7_1, rfl, HA, HK1, ⟨m1, rfl⟩⟩ := hrel
  cases gk with
  | zero => exact absurd HA.out (by simp [Gj.l0])
  | succ k1 =>
   have H := HA.out
   clear HA
   simp only [Gj.l0] at H
   by_cases c2 : x7_1 < (l0.length : Int)
   rotate_left
   ·rw [if_neg c2] at H
    have c2b0 := decide_eq_false c2
    clear c2
    obtain rfl := Option.some.inj H
    clear H
    go_wp2
    go_ret
    exact ⟨EZb, DRz⟩
   rw [if_pos c2] at H
   have c2b0 := decide_eq_true c2
   clear c2
   by_cases c3 : 0 ≤ x7_1
   rotate_left
   ·rw [if_neg c3] at H
    exact absurd H (by simp)
   rw [if_pos c3] at H
   have c3b0 := decide_eq_true c3
   clear c3
   by_cases c4 : x7_1 < (l0.length : Int)
   rotate_left
   ·rw [if_neg c4] at H
    exact absurd H (by simp)
   rw [if_pos c4] at H
   have c4b0 := decide_eq_true c4
   clear c4
   by_cases c5 : ((rdOf ByteArray.empty l0 x7_1).size : Int) > 8000
   ·rw [if_pos c5] at H
    have c5b0 : decide (8000 < ((rdOf ByteArray.empty l0 x7_1).size : Int)) = true := decide_eq_true c5
    have c5b1 : decide (8000 < (rdOf ByteArray.empty l0 x7_1).size) = true := decide_eq_true (by omega)
    clear c5
    obtain rfl := Option.some.inj H
    clear H
    have p208 : 0 ≤ (x7_1 : Int) := ODz
    have q208 : x7_1 < (l0.length : Int) := ODz
    obtain ⟨ad208, e208, hx208_0⟩ := Kd.at_string HR0.out x7_1 p208 q208
    cases e208
    replace p208 := eq_true p208
    replace q208 := eq_true q208
    go_wp2
    go_ret
    exact ⟨EZb, DRz⟩
   rw [if_neg c5] at H
   have c5b0 : decide (8000 < ((rdOf ByteArray.empty l0 x7_1).size : Int)) = false := decide_eq_false c5
   have c5b1 : decide (8000 < (rdOf ByteArray.empty l0 x7_1).size) = false := decide_eq_false (by omega)
   clear c5
   have H' := Aside0.mk H
   clear H
   have p208 : 0 ≤ (x7_1 : Int) := ODz
   have q208 : x7_1 < (l0.length : Int) := ODz
   obtain ⟨ad208, e208, hx208_0⟩ := Kd.at_string HR0.out x7_1 p208 q208
   cases e208
   replace p208 := eq_true p208
   replace q208 := eq_true q208
   go_wp2
   go_roundg k1
   case measure => have := HK1.out; omega
   case rel => exact ⟨(wrap64 (x7_1 + 1)), EZc, H', ⟨by have := HK1.out; omega⟩, DRz⟩
def Va.f (a0 : ByteArray) (a1 : ByteArray) : Option (Bool) := if (a0.size : Int) ≥ (a1.size : Int) then (if 0 ≤ (a1.size : Int) then (if (a1.size : Int) ≤ (a0.size : Int) then (some ((a0.extract 0 ((a1.size : Int) : Int).toNat).toList == a1.toList)) else (none)) else (none)) else (some false)
set_option maxHeartbeats 8000000 in
set_option maxRecDepth 100000 in
theorem Va.calls (a0 : ByteArray) (a1 : ByteArray) (r : Bool) (w : World) (h : Va.f a0 a1 = some r) :
  Calls Tryz.prog 115 #[.string a0, .string a1] w fun e w' => e = .returned (.bool r) ∧ Drawn0 w w' := by
 have H : (if (a0.size : Int) ≥ (a1.size : Int) then (if 0 ≤ (a1.size : Int) then (if (a1.size : Int) ≤ (a0.size : Int) then (some ((a0.extract 0 ((a1.size : Int) : Int).toNat).toList == a1.toList)) else (none)) else (none)) else (some false)) = some r := h
 clear h
 by_cases c3 : (a0.size : Int) ≥ (a1.size : Int)
 rotate_left
 ·rw [if_neg c3] at H
  have c3b0 : decide ((a1.size : Int) ≤ (a0.size : Int)) = false := decide_eq_false c3
  have c3b1 : decide (a1.size ≤ a0.size) = false := decide_eq_false (fun h => c3 (Int.ofNat_le.mpr h))
  clear c3
  obtain rfl := Option.some.inj H
  clear H
  go_enter Tryz.func115, Tryz.ntmps115
  go_wp2
  go_ret
  exact ⟨EZb, DRz⟩
 rw [if_pos c3] at H
 have c3b0 : decide ((a1.size : Int) ≤ (a0.size : Int)) = true := decide_eq_true c3
 have c3b1 : decide (a1.size ≤ a0.size) = true := decide_eq_true (Int.ofNat_le.mp c3)
 clear c3
 by_cases c4 : 0 ≤ (a1.size : Int)
 rotate_left
 ·rw [if_neg c4] at H
  exact absurd H (by simp)
 rw [if_pos c4] at H
 have c4b0 := eq_true c4
 have c4b1 := decide_eq_true c4
 clear c4
 by_cases c5 : (a1.size : Int) ≤ (a0.size : Int)
 ·rw [if_pos c5] at H
  have c5b0 := eq_true c5
  have c5b1 := decide_eq_true c5
  clear c5
  obtain rfl := Option.some.inj H
  clear H
  go_enter Tryz.func115, Tryz.ntmps115
  go_wp2
  go_ret
  exact ⟨EZb, DRz⟩
 rw [if_neg c5] at H
 exact absurd H (by simp)
def Qu.f (a0 : ByteArray) (a1 : ByteArray) : Option (Bool) := (Va.f a0 a1).bind fun t209 => (some t209)
set_option maxHeartbeats 8000000 in
set_option maxRecDepth 100000 in
theorem Qu.calls (a0 : ByteArray) (a1 : ByteArray) (r : Bool) (w : World) (h : Qu.f a0 a1 = some r) :
  Calls Tryz.prog 80 #[.string a0, .string a1] w fun e w' => e = .returned (.bool r) ∧ Drawn0 w w' := by
 have H : ((Va.f a0 a1).bind fun t209 => (some t209)) = some r := h
 clear h
 replace H := Option.bind_eq_some_iff.mp H
 obtain ⟨t209, A30, H⟩ := H
 replace H : (some t209) = some r := H
 have A3 := Aside0.mk A30
 clear A30
 obtain rfl := Option.some.inj H
 clear H
 go_enter Tryz.func80, Tryz.ntmps80
 go_wp2_with (first | ((with_reducible refine gate_callee (f := 115) rfl ?_); refine goesL_ (some 7) rfl rfl Tryz.func115 (by kernel_rfl) rfl #[.string a0, .string a1] rfl MPz ?_; (with_reducible refine (Va.calls a0 a1 t209 _ A3.out).mono ?_); rintro e w' ⟨rfl, ⟨nd, rfl⟩⟩; refine ⟨_, rfl, ?_⟩))
 go_ret
 exact ⟨EZb, DRz⟩
def Qw.f (a0 : ByteArray) (a1 : Int) : Option (Int) := some (Lib.indexByte a0.data.toList a1.toNat.toUInt8)
theorem Qw.calls (a0 : ByteArray) (a1 : Int) (r : Int) (w : World) (h : Qw.f a0 a1 = some r) :
  Calls Tryz.prog 81 #[.string a0, .int .u8 a1] w fun e w' => e = .returned (.int .i64 r) ∧ Drawn0 w w' := by
 obtain rfl := Option.some.inj h
 refine (show Calls Tryz.prog 81 _ _ _ from Any.strings_IndexByte Tryz.lays137 a0 a1 w).mono ?_
 rintro e w' ⟨he, rfl⟩
 exact ⟨he, Drawn0.refl _⟩
set_option maxRecDepth 100000 in
set_option maxHeartbeats 4000000 in
theorem Qt.byteIx (s : ByteArray) (c : UInt8) (w : World) : Calls Tryz.prog 116 #[.string s, .int .u8 (c.toNat : Int)] w fun e w' => e = .returned (.int .i64 (Lib.indexByte s.data.toList c)) ∧ w' = w := by
 have hc : (c.toNat : Int).toNat.toUInt8 = c := by simp
 go_enter Tryz.func116, Tryz.ntmps116
 go_wp2
 rw [run_callFunc_extern Tryz.func152 (by kernel_rfl) (by kernel_rfl) (by kernel_rfl) (e := Extern.BytealgIndexByte.indexByte) (by kernel_rfl), Lib.run_indexByteString, hc]
 simp only [Result.andThen]
 rw [Oper.upon_value]
 go_wp2
 go_ret
 exact ⟨rfl, rfl⟩
set_option maxRecDepth 100000 in
set_option maxHeartbeats 4000000 in
theorem Qt.index (s : ByteArray) (c : UInt8) (w : World) : Calls Tryz.prog 153 #[.string s, .string ⟨#[c]⟩] w fun e w' => e = .returned (.int .i64 (Lib.indexByte s.data.toList c)) ∧ w' = w := by
 have hb : ∀ h : 0 < (⟨#[c]⟩ : ByteArray).size, (((⟨#[c]⟩ : ByteArray)[0]'h).toNat : Int) = (c.toNat : Int) := fun _ => rfl
 have hsz : (⟨#[c]⟩ : ByteArray).size = 1 := rfl
 by_cases hs : s = ⟨#[c]⟩
 ·subst hs
  have h0 : Lib.indexByte (⟨#[c]⟩ : ByteArray).data.toList c = 0 := by simp [Lib.indexByte]
  rw [h0]
  go_enter Tryz.func153, Tryz.ntmps153
  go_wp2
  go_ret
  exact ⟨rfl, rfl⟩
 have h1 : ([c] == s.toList) = false := beq_eq_false_iff_ne.2 fun e => hs (ByteArray.ext (Array.toList_inj.1 (by rw [Go.Lib.toList_data] at e; exact e.symm)))
 go_enter Tryz.func153, Tryz.ntmps153
 go_wp2_with (go_at_call 116; refine (Qt.byteIx s c _).mono ?_; rintro e w5 ⟨rfl, rfl⟩)
 go_ret
 exact ⟨rfl, rfl⟩
theorem Qt.ix_lt : ∀ (l : List UInt8) (c : UInt8), Lib.indexByte l c < (l.length : Int)
 | [], _ => by simp [Lib.indexByte]
 | b :: l, c => by
  have ih := Qt.ix_lt l c
  unfold Lib.indexByte
  rw [List.length_cons]
  split
  ·omega
  ·split
   ·omega
   ·omega
set_option maxRecDepth 100000 in
set_option maxHeartbeats 4000000 in
theorem Qt.cut (s : ByteArray) (c : UInt8) (w : World) (hs : s.size ≤ 4611686018427387904) : Calls Tryz.prog 117 #[.string s, .string ⟨#[c]⟩] w fun e w' => e = .returned (if 0 ≤ Lib.indexByte s.data.toList c then .tuple #[.string (s.extract 0 (Lib.indexByte s.data.toList c).toNat), .string (s.extract ((Lib.indexByte s.data.toList c).toNat + 1) s.size), .bool true] else .tuple #[.string s, .string ⟨#[]⟩, .bool false]) ∧ Drawn0 w w' := by
 obtain ⟨m, hm⟩ : ∃ m, Lib.indexByte s.data.toList c = m := ⟨_, rfl⟩
 have hlt : m < (s.size : Int) := by rw [← hm, ← data_length]; exact Qt.ix_lt _ _
 rw [hm]
 have hsz : (⟨#[c]⟩ : ByteArray).size = 1 := rfl
 by_cases hp : 0 ≤ m
 rotate_left
 ·rw [if_neg hp]
  have f1 : (0 ≤ m) = False := eq_false hp
  have f2 : decide (0 ≤ m) = false := decide_eq_false hp
  have f3 : decide (m ≥ 0) = false := decide_eq_false hp
  clear hlt hp hs
  go_enter Tryz.func117, Tryz.ntmps117
  go_wp2_with (go_at_call 153; refine (Qt.index s c _).mono ?_; rintro e w5 ⟨rfl, rfl⟩; rw [hm])
  refine bodyPost_ret (results_tmp3 rfl _ _ _) rfl ?_
  exact ⟨rfl, Drawn0.refl _⟩
 rw [if_pos hp]
 obtain ⟨i, rfl⟩ : ∃ i : Nat, m = (i : Int) := ⟨m.toNat, by omega⟩
 rw [Int.toNat_natCast]
 have hw : wrap64 ((i : Int) + 1) = (i : Int) + 1 := by unfold wrap64; omega
 have hw2 : IntKind.i64.wrap ((i : Int) + 1) = (i : Int) + 1 := by simp [IntKind.wrap, show IntKind.i64.bits = 64 from rfl]; omega
 have f0 : (0 ≤ (i : Int)) = True := eq_true hp
 have f1 : ((i : Int) ≤ (s.size : Int)) = True := eq_true (by omega)
 have f2 : ((i : Int) + 1 ≤ (s.size : Int)) = True := eq_true (by omega)
 have f3 : (i ≤ s.size) = True := eq_true (by omega)
 have f4 : (i + 1 ≤ s.size) = True := eq_true (by omega)
 have f5 : (0 ≤ (i : Int) + 1) = True := eq_true (by omega)
 have f6 : ((i : Int) + 1).toNat = i + 1 := by omega
 have f7 : decide (0 ≤ (i : Int)) = true := decide_eq_true hp
 clear hlt hp hs
 go_enter Tryz.func117, Tryz.ntmps117
 go_upto_region 3 with (go_at_call 153; refine (Qt.index s c _).mono ?_; rintro e w5 ⟨rfl, rfl⟩; rw [hm])
 go_region
 go_wp2
 refine bodyPost_ret (results_tmp3 rfl _ _ _) rfl ?_
 exact ⟨rfl, ⟨⟨1, rfl⟩⟩⟩
def Qt.f (a0 a1 : ByteArray) : Option (ByteArray × ByteArray × Bool) := match a1.data.toList with
 | [c] => if a0.size ≤ 4611686018427387904 then (if 0 ≤ Lib.indexByte a0.data.toList c then some (a0.extract 0 (Lib.indexByte a0.data.toList c).toNat, a0.extract ((Lib.indexByte a0.data.toList c).toNat + 1) a0.size, true) else some (a0, ⟨#[]⟩, false)) else none
 | _ => none
set_option maxRecDepth 100000 in
set_option maxHeartbeats 4000000 in
theorem Qt.calls (a0 : ByteArray) (a1 : ByteArray) (r1 : ByteArray) (r2 : ByteArray) (r3 : Bool) (w : World) (h : Qt.f a0 a1 = some (r1, r2, r3)) :
  Calls Tryz.prog 82 #[.string a0, .string a1] w fun e w' => e = .returned (.tuple #[.string r1, .string r2, .bool r3]) ∧ Drawn0 w w' := by
 unfold Qt.f at h
 obtain ⟨⟨l⟩⟩ := a1
 match l, h with
 | [], h => cases h
 | _ :: _ :: _, h => cases h
 | [c], h =>
  simp only at h
  by_cases hs : a0.size ≤ 4611686018427387904
  case neg => rw [if_neg hs] at h; cases h
  rw [if_pos hs] at h
  have hr : (if 0 ≤ Lib.indexByte a0.data.toList c then Value.tuple #[.string (a0.extract 0 (Lib.indexByte a0.data.toList c).toNat), .string (a0.extract ((Lib.indexByte a0.data.toList c).toNat + 1) a0.size), .bool true] else .tuple #[.string a0, .string ⟨#[]⟩, .bool false]) = .tuple #[.string r1, .string r2, .bool r3] := by
   split at h
   all_goals (simp only [Option.some.injEq, Prod.mk.injEq] at h; obtain ⟨rfl, rfl, rfl⟩ := h)
   ·rw [if_pos (by assumption)]
   ·rw [if_neg (by assumption)]
  have hc := Qt.cut a0 c w hs
  rw [hr] at hc
  clear h hr
  go_enter Tryz.func82, Tryz.ntmps82
  go_wp2_with (go_at_call 117; refine hc.mono ?_; rintro e w5 ⟨rfl, hd⟩)
  refine bodyPost_ret (results_tmp3 rfl _ _ _) rfl ?_
  exact ⟨rfl, hd⟩
def Qv.f (a0 : ByteArray) (a1 : ByteArray) : Option (Bool) := (Vb.f a0 a1).bind fun t210 => (some t210)
set_option maxHeartbeats 8000000 in
set_option maxRecDepth 100000 in
theorem Qv.calls (a0 : ByteArray) (a1 : ByteArray) (r : Bool) (w : World) (h : Qv.f a0 a1 = some r) :
  Calls Tryz.prog 118 #[.string a0, .string a1] w fun e w' => e = .returned (.bool r) ∧ Drawn0 w w' := by
 have H : ((Vb.f a0 a1).bind fun t210 => (some t210)) = some r := h
 clear h
 replace H := Option.bind_eq_some_iff.mp H
 obtain ⟨t210, A30, H⟩ := H
 replace H : (some t210) = some r := H
 have A3 := Aside0.mk A30
 clear A30
 obtain rfl := Option.some.inj H
 clear H
 go_enter Tryz.func118, Tryz.ntmps118
 go_wp2_with (first | ((with_reducible refine gate_callee (f := 154) rfl ?_); refine goesL_ (some 7) rfl rfl Tryz.func154 (by kernel_rfl) rfl #[.string a0, .string a1] rfl MPz ?_; (with_reducible refine (Vb.calls a0 a1 t210 _ A3.out).mono ?_); rintro e w' ⟨rfl, ⟨nd, rfl⟩⟩; refine ⟨_, rfl, ?_⟩))
 go_ret
 exact ⟨EZb, DRz⟩
end Go.Proofs.YtmkeigielncpjaaGreatDoor.PFnFilter
