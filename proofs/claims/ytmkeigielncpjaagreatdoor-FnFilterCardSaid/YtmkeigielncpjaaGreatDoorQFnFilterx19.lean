-- Laid by this session's own program out of the translation; Lean checks it.
import Derived.Test.YtmkeigielncpjaaGreatDoorQFnFilterx0
import Derived.Test.YtmkeigielncpjaaGreatDoorQFnFilterx6
import Derived.Test.YtmkeigielncpjaaGreatDoorQFnFilterx18
namespace Go.Proofs.YtmkeigielncpjaaGreatDoor.PFnFilter
open Go.RowKit Go.Proofs.YtmkeigielncpjaaGreatDoorW.PrintWords Go.Proofs.YtmkeigielncpjaaGreatDoorW.PrintLast Go.Proofs.YtmkeigielncpjaaGreatDoorW.PrintMore
attribute [local go_sem] max2_int min2_int max_two min_two max_three min_three max_four min_four   -- for this text's walks alone
set_option linter.unusedVariables false
set_option linter.unusedSimpArgs false
def Gw.pos : List ByteArray → ByteArray → Nat
 | [], _ => 0
 | y :: ys, a => if Op.bytesLess y.toList a.toList = true then Gw.pos ys a + 1 else 0
def Gw.put (out : List ByteArray) (a : ByteArray) : List ByteArray := if Gw.pos out a < out.length ∧ (rdOf ByteArray.empty out (Gw.pos out a : Nat)).toList = a.toList then out else out.take (Gw.pos out a) ++ [a] ++ out.drop (Gw.pos out a)
def Gw.go : List S64 → List ByteArray → List ByteArray
 | [], out => out
 | n :: l, out => if n.f0 = 1 ∨ n.f0 = 2 ∨ n.f0 = 3 then Gw.go l out else Gw.go l (Gw.put out n.f1)
def Gw.f (k : Nat) (l : List S64) : Option (List ByteArray) := if (l.length : Int) > 400 then some [] else (Gy.f k l).bind fun b => if b = true then some (Gw.go l []) else some []
theorem Gw.mono : ∀ l k, LeO (Gw.f k l) (Gw.f (k + 1) l) := fun l k => LeO.ite (LeO.refl _) (LeO.bind (Gy.mono _ _) (fun _ => LeO.refl _))
theorem Gw.pos_le : ∀ (out : List ByteArray) (a : ByteArray), Gw.pos out a ≤ out.length
 | [], _ => Nat.le_refl _
 | y :: ys, a => by
  rw [Gw.pos]
  split
  ·have := Gw.pos_le ys a
   rw [List.length_cons]; omega
  ·exact Nat.zero_le _
theorem Gw.pos_less : ∀ (out : List ByteArray) (a : ByteArray) (j : Nat), j < out.length → (j < Gw.pos out a → Op.bytesLess (rdOf ByteArray.empty out (j : Int)).toList a.toList = true) ∧ (j = Gw.pos out a → Op.bytesLess (rdOf ByteArray.empty out (j : Int)).toList a.toList = false)
 | [], _, j, h => by simp at h
 | y :: ys, a, j, h => by
  rw [Gw.pos]
  by_cases c : Op.bytesLess y.toList a.toList = true
  ·rw [if_pos c]
   cases j with
   | zero => exact ⟨fun _ => c, fun e => by omega⟩
   | succ j =>
    have ih := Gw.pos_less ys a j (by rw [List.length_cons] at h; omega)
    exact ⟨fun h1 => ih.1 (by omega), fun e => ih.2 (by omega)⟩
  rw [if_neg c]
  refine ⟨fun h1 => by omega, fun e => ?_⟩
  subst e
  exact Bool.eq_false_iff.2 c
theorem Gw.put_len (out : List ByteArray) (a : ByteArray) : (Gw.put out a).length ≤ out.length + 1 := by
 unfold Gw.put
 have := Gw.pos_le out a
 split
 ·omega
 ·simp; omega
theorem Gw.go_step (l : List S64) (i : Nat) (h : i < l.length) (out : List ByteArray) : Gw.go (l.drop i) out = if (rd_T64 l (i : Int)).f0 = 1 ∨ (rd_T64 l (i : Int)).f0 = 2 ∨ (rd_T64 l (i : Int)).f0 = 3 then Gw.go (l.drop (i + 1)) out else Gw.go (l.drop (i + 1)) (Gw.put out (rd_T64 l (i : Int)).f1) := by
 have e : rd_T64 l (i : Int) = l[i] := by unfold rd_T64; rw [Int.toNat_natCast, List.getD_eq_getElem?_getD, List.getElem?_eq_getElem h]; rfl
 rw [List.drop_eq_getElem_cons h, Gw.go, e]
theorem Gw.inner (n : S64) : Qn.f n.f0 n.f1 n.f2 n.f3 = some (decide (n.f0 = 1 ∨ n.f0 = 2 ∨ n.f0 = 3)) := by
 unfold Qn.f
 by_cases h1 : n.f0 = 1
 ·rw [if_pos h1, decide_eq_true (.inl h1)]
 rw [if_neg h1]
 by_cases h2 : n.f0 = 2
 ·rw [if_pos h2, decide_eq_true (.inr (.inl h2))]
 rw [if_neg h2]
 by_cases h3 : n.f0 = 3
 ·rw [decide_eq_true (.inr (.inr h3)), h3]; rfl
 ·rw [decide_eq_false (by omega), beq_false_of_ne h3]
theorem Gw.node {w W : World} {A : Option Addr} {l : List S64} (hr : Kd.C k64 w A l.length l) (hB : Below w.heap.size w W) (i : Nat) (h : i < l.length) : ∃ ad : Addr, A = some ad ∧ W.cell? (ad.add (i * 4)) = some (.int .i64 (rd_T64 l (i : Int)).f0) ∧ W.cell? ⟨(ad.add (i * 4)).block, (ad.add (i * 4)).off + 1, none⟩ = some (.string (rd_T64 l (i : Int)).f1) ∧ W.cell? ⟨(ad.add (i * 4)).block, (ad.add (i * 4)).off + 2, none⟩ = some (.string (rd_T64 l (i : Int)).f2) ∧ W.cell? ⟨(ad.add (i * 4)).block, (ad.add (i * 4)).off + 3, none⟩ = some (.int .i64 (rd_T64 l (i : Int)).f3) := by
 obtain ⟨ad, e, h0, h1, h2, h3⟩ := at_T64 hr (i : Int) (by omega) (by omega)
 have up : ∀ {a : Addr} {v : Value}, w.cell? a = some v → W.cell? a = some v := fun {a v} q => (hB.cell (World.block_lt_of_cell? w _ q)).trans q
 exact ⟨ad, e, up h0, up h1, up h2, up h3⟩
set_option maxRecDepth 100000 in
set_option maxHeartbeats 16000000 in
theorem Gw.calls (k : Nat) (A0 : Option Addr) (c0 : Nat) (l0 : List S64) (r : List ByteArray) (w : World) (hr0 : Kd.C k64 w A0 l0.length l0) (hc0 : l0.length ≤ c0) (h : Gw.f k l0 = some r) :
  Calls Tryz.prog 25 #[.slice A0 l0.length c0] w fun e w' => ∃ v0_ : Value, e = .returned (v0_) ∧ Kd.R Kd.string 9 w' w.heap.size (fun _ => True) v0_ r ∧ Below w.heap.size w w' := by
 have hu64 := Tryz.underlying64
 have HR := Aside0.mk hr0
 have HC := Aside0.mk hc0
 have HB := Aside0.mk (Below.refl w.heap.size w)
 obtain ⟨i9, hi9, _, hsz9, _⟩ := info_parts info9
 unfold Gw.f at h
 have H := Aside0.mk h
 clear hr0 hc0 h
 go_enter Tryz.func25, Tryz.ntmps25
 go_upto_region 2 with ((with_reducible refine gate_dst (N := 7) rfl ?_); refine Kd.R_lit Kd.string (w0 := w) w.heap.size 9 ?hg (N := 7) ?hd (xs := ([] : List ByteArray)) (inner := []) (ok := fun _ => True) (okp := fun _ => False) ?hr ?hp (fun _ hk => hk.elim) trivial HB.out (below_size HB.out) (by simp) ?_; (case hd => rfl); (case hg => rfl); (case hr => first | (go_simp; done) | (go_simp; rfl)); (case hp => exact (Reps.none _ _)); intro v1 w1 ho hb hg hnew; have HO := Aside0.mk ho; have HB1 := Aside0.mk hb; clear ho hb hg hnew HB)
 replace H := H.out
 by_cases n4 : (l0.length : Int) > 400
 case pos =>
  rw [if_pos n4] at H
  obtain rfl := Option.some.inj H
  have n4b : decide (400 < (l0.length : Int)) = true := decide_eq_true n4
  have n4c : decide (400 < l0.length) = true := decide_eq_true (by omega)
  clear n4
  go_wp2
  go_ret
  exact ⟨_, rfl, HO.out, HB1.out⟩
 rw [if_neg n4] at H
 have n4b : decide (400 < (l0.length : Int)) = false := decide_eq_false n4
 have n4c : decide (400 < l0.length) = false := decide_eq_false (by omega)
 have HN := Aside0.mk n4
 clear n4
 obtain ⟨b, hb0, H⟩ := Option.bind_eq_some_iff.1 H
 have HF := Aside0.mk hb0
 clear hb0
 cases b with
 | false =>
  rw [if_neg (by simp)] at H
  obtain rfl := Option.some.inj H
  go_wp2_with (go_at_call 19; refine (Gy.calls k A0 c0 l0 false _ (Kd.C_below HR.out HB1.out) HC.out HF.out).mono ?_; rintro e w2 ⟨rfl, hb⟩; have HB2 := Aside0.mk (below_step HB1.out (by first | exact hb | exact hb.below)); have HO2 := Aside0.mk (Kd.R_below HO.out (by first | exact hb | exact hb.below)); clear hb HB1 HO)
  go_ret
  exact ⟨_, rfl, HO2.out, HB2.out⟩
 | true =>
  rw [if_pos rfl] at H
  have HG := Aside0.mk (Option.some.inj H)
  clear H
  go_wp2_with (go_at_call 19; refine (Gy.calls k A0 c0 l0 true _ (Kd.C_below HR.out HB1.out) HC.out HF.out).mono ?_; rintro e w2 ⟨rfl, hb⟩; have HB2 := Aside0.mk (below_step HB1.out (by first | exact hb | exact hb.below)); have HO2 := Aside0.mk (Kd.R_below HO.out (by first | exact hb | exact hb.below)); clear hb HB1 HO)
  go_loopg [3, 4] l0.length (fun kq v3 v4 w' => ∃ (i : Nat) (out : List ByteArray), v4 = .int .i64 (i : Int) ∧ Aside0 (i ≤ l0.length ∧ l0.length ≤ i + kq ∧ out.length ≤ i) ∧ Aside0 (Gw.go (l0.drop i) out = r) ∧ Aside0 (Kd.R Kd.string 9 w' w.heap.size (fun _ => True) v3 out) ∧ Aside0 (Below w.heap.size w w'))
  case atStart => exact ⟨0, [], rfl, ⟨by simp⟩, HG, HO2, HB2⟩
  case round =>
   clear HG HO2 HB2 HF n4b n4c
   obtain ⟨i, out, rfl, HI, HG, HO, HB⟩ := hrel
   by_cases il : (i : Int) < (l0.length : Int)
   case neg =>
    have ilb : decide ((i : Int) < (l0.length : Int)) = false := decide_eq_false il
    have ilc : decide (i < l0.length) = false := decide_eq_false (by omega)
    have hz := HG.out
    rw [List.drop_of_length_le (by omega)] at hz
    simp only [Gw.go] at hz
    subst hz
    clear il
    go_wp2
    go_ret
    exact ⟨_, rfl, HO.out, HB.out⟩
   have ilb : decide ((i : Int) < (l0.length : Int)) = true := decide_eq_true il
   have ilc : decide (i < l0.length) = true := decide_eq_true (by omega)
   have HIL := Aside0.mk (show i < l0.length from by omega)
   have HG2 := Aside0.mk ((Gw.go_step l0 i HIL.out out).symm.trans HG.out)
   clear HG
   obtain ⟨gk, rfl⟩ : ∃ q, gk = q + 1 := ⟨gk - 1, by have := HI.out; have := HIL.out; omega⟩
   have HWI := Aside0.mk (show wrap64 ((i : Int) + 1) = ((i + 1 : Nat) : Int) from by have := HN.out; have := HIL.out; unfold wrap64; omega)
   obtain ⟨Ao, co, eo⟩ := Kd.R_slice HO.out
   subst eo
   obtain ⟨ad, ea, x0, x1, x2, x3⟩ := Gw.node HR.out HB.out i HIL.out
   have HX := Aside0.mk ea
   subst ea
   have p1 := eq_true (show (0 : Int) ≤ (i : Int) from by omega)
   have p2 := eq_true il
   clear il
   generalize hnd : rd_T64 l0 (i : Int) = nd at HG2 x0 x1 x2 x3
   have HND := Aside0.mk hnd
   clear hnd
   go_upto_if 27 with (go_at_call 55; refine (Qn.calls nd.f0 nd.f1 nd.f2 nd.f3 _ _ (Gw.inner nd)).mono ?_; rintro e w3 ⟨rfl, hb⟩; have HB3 := Aside0.mk (below_step HB.out hb); have HO3 := Aside0.mk (Kd.R_below HO.out hb); clear hb HB HO)
   clear x0 x1 x2 x3
   replace HG2 := HG2.out
   by_cases inn : nd.f0 = 1 ∨ nd.f0 = 2 ∨ nd.f0 = 3
   case pos =>
    rw [if_pos inn] at HG2
    have innb : (decide (nd.f0 = 1) || (decide (nd.f0 = 2) || decide (nd.f0 = 3))) = true := by rw [← Bool.decide_or, ← Bool.decide_or]; exact decide_eq_true inn
    rw [innb]
    clear inn innb
    go_wp2
    go_roundg gk
    case measure => omega
    case rel => exact ⟨i + 1, out, by rw [HWI.out], ⟨by have := HI.out; have := HIL.out; omega⟩, ⟨HG2⟩, HO3, HB3⟩
   rw [if_neg inn] at HG2
   have innb : (decide (nd.f0 = 1) || (decide (nd.f0 = 2) || decide (nd.f0 = 3))) = false := by rw [← Bool.decide_or, ← Bool.decide_or]; exact decide_eq_false inn
   rw [innb]
   clear inn innb
   have HG := Aside0.mk HG2
   clear HG2
   have HPL := Aside0.mk (Gw.pos_le out nd.f1)
   have HPS := Aside0.mk (Gw.pos_less out nd.f1)
   have HOL := Aside0.mk (show out.length ≤ 400 from by have := HI.out; have := HN.out; have := HIL.out; omega)
   generalize hpq : Gw.pos out nd.f1 = pq at HPL HPS
   have HPQ := Aside0.mk hpq
   clear hpq
   go_upto_block 2 with fail
   go_cut [5] (fun v5 wc => v5 = .int .i64 (pq : Int) ∧ Aside0 (Kd.R Kd.string 9 wc w.heap.size (fun _ => True) (.slice Ao out.length co) out) ∧ Aside0 (Below w.heap.size w wc))
   case first =>
    go_wp2
    go_loopg [5] pq (fun kq v5 w' => ∃ j : Nat, v5 = .int .i64 (j : Int) ∧ Aside0 (j ≤ pq ∧ pq ≤ j + kq) ∧ Aside0 (Kd.R Kd.string 9 w' w.heap.size (fun _ => True) (.slice Ao out.length co) out) ∧ Aside0 (Below w.heap.size w w'))
    case atStart => exact ⟨0, rfl, ⟨by omega⟩, HO3, HB3⟩
    case round =>
     clear HO3 HB3
     obtain ⟨j, rfl, HJ, HO4, HB4⟩ := hrel
     have HOd := Aside0.mk (Kd.R_drew HO4.out)
     have HBd := Aside0.mk (below_drew1 HB4.out)
     clear HO4 HB4
     go_upto_region 9 with fail
     by_cases jl : (j : Int) < (out.length : Int)
     case neg =>
      have jlb : decide ((j : Int) < (out.length : Int)) = false := decide_eq_false jl
      have jlc : decide (j < out.length) = false := decide_eq_false (by omega)
      have HEJ := Aside0.mk (show j = pq from by have := HJ.out; have := HPL.out; omega)
      clear jl
      refine start_ (n := 16) (S := fun w' => True) (ds := []) (bz 16 0) (by kernel_rfl) rfl (by kernel_rfl) trivial (fun hHeld => ?_)
      generalize wr.drew = w9 at HOd HBd hHeld ⊢
      refine PYz 0 28 (bz 16 1) rfl rfl (by kernel_rfl) ?_
      refine PYz 1 29 (bz 16 3) rfl rfl (by kernel_rfl) ?_
      refine PYz 2 30 (bz 16 7) rfl rfl (by kernel_rfl) ?_
      refine PYz 3 31 (bz 16 15) rfl rfl (by kernel_rfl) ?_
      refine PYz 4 32 (bz 16 31) rfl rfl (by kernel_rfl) ?_
      refine pure_ (i := 5) (N := some 33) (v := undef) (a' := ?_) (bz 16 63) rfl rfl (by kernel_rfl) (fun _ _ _ h => h) (Or.inr ⟨by rfl, rfl⟩) ?_ ?_
      rotate_left
      ·simp only [PUz]
       rfl
      refine pure_ (i := 6) (N := some 34) (v := undef) (a' := ?_) (bz 16 127) rfl rfl (by kernel_rfl) (fun _ _ _ h => h) (Or.inr ⟨by rfl, rfl⟩) ?_ ?_
      rotate_left
      ·simp only [PUz]
       rfl
      refine pure_ (i := 7) (N := some 35) (v := undef) (a' := ?_) (bz 16 255) rfl rfl (by kernel_rfl) (fun _ _ _ h => h) (Or.inr ⟨by rfl, rfl⟩) ?_ ?_
      rotate_left
      ·simp only [PUz]
       rfl
      refine pure_ (i := 8) (N := some 36) (v := undef) (a' := ?_) (bz 16 511) rfl rfl (by kernel_rfl) (fun _ _ _ h => h) (Or.inr ⟨by rfl, rfl⟩) ?_ ?_
      rotate_left
      ·simp only [PUz]
       rfl
      refine pure_ (i := 9) (N := some 37) (v := undef) (a' := ?_) (bz 16 1023) rfl rfl (by kernel_rfl) (fun _ _ _ h => h) (Or.inr ⟨by rfl, rfl⟩) ?_ ?_
      rotate_left
      ·simp only [PUz]
       rfl
      refine pure_ (i := 10) (N := some 38) (v := undef) (a' := ?_) (bz 16 2047) rfl rfl (by kernel_rfl) (fun _ _ _ h => h) (Or.inr ⟨by rfl, rfl⟩) ?_ ?_
      rotate_left
      ·simp only [PUz]
       rfl
      refine pure_ (i := 11) (N := some 39) (v := undef) (a' := ?_) (bz 16 4095) rfl rfl (by kernel_rfl) (fun _ _ _ h => h) (Or.inr ⟨by rfl, rfl⟩) ?_ ?_
      rotate_left
      ·simp only [PUz]
       rfl
      refine pure_ (i := 12) (N := some 40) (v := undef) (a' := ?_) (bz 16 8191) rfl rfl (by kernel_rfl) (fun _ _ _ h => h) (Or.inr ⟨by rfl, rfl⟩) ?_ ?_
      rotate_left
      ·simp only [PUz]
       rfl
      refine pure_ (i := 13) (N := some 41) (v := undef) (a' := ?_) (bz 16 16383) rfl rfl (by kernel_rfl) (fun _ _ _ h => h) (Or.inr ⟨by rfl, rfl⟩) ?_ ?_
      rotate_left
      ·simp only [PUz]
       rfl
      refine pure_ (i := 14) (N := some 42) (v := undef) (a' := ?_) (bz 16 32767) rfl rfl (by kernel_rfl) (fun _ _ _ h => h) (Or.inr ⟨by rfl, rfl⟩) ?_ ?_
      rotate_left
      ·simp only [PUz]
       rfl
      refine PYz 15 43 (bz 16 65535) rfl rfl (by kernel_rfl) ?_
      refine done_ (by kernel_rfl) ?_
      
      go_wp2
      go_meet
      case rel => exact ⟨by rw [HEJ.out], HOd, HBd⟩
     have jlb : decide ((j : Int) < (out.length : Int)) = true := decide_eq_true jl
     have jlc : decide (j < out.length) = true := decide_eq_true (by omega)
     have hps := HPS.out j (by omega)
     obtain ⟨ao, eao, xo⟩ := Kd.at_string (Kd.R_reads' HOd.out).2.2 (j : Int) (by omega) jl
     subst eao
     rw [Int.toNat_natCast] at xo
     obtain ⟨ad2, ea2, x0, x1, x2, x3⟩ := Gw.node HR.out HBd.out i HIL.out
     obtain rfl : ad = ad2 := by injection ea2
     rw [HND.out] at x1
     have q1 := eq_true (show (0 : Int) ≤ (j : Int) from by omega)
     have q2 := eq_true jl
     clear jl ea2 x0 x2 x3
     refine start_ (n := 16) (S := fun w' => w'.cell? (ao.add j) = some (.string (rdOf ByteArray.empty out (j : Int))) ∧ w'.cell? ⟨(ad.add (i * 4)).block, (ad.add (i * 4)).off + 1, none⟩ = some (.string nd.f1)) (ds := []) (bz 16 0) (by kernel_rfl) rfl (by kernel_rfl) ⟨xo, x1⟩ (fun hHeld => ?_)
     generalize wr.drew = w9 at HOd HBd xo x1 hHeld ⊢
     refine PYz 0 28 (bz 16 1) rfl rfl (by kernel_rfl) ?_
     refine PYz 1 29 (bz 16 3) rfl rfl (by kernel_rfl) ?_
     refine PYz 2 30 (bz 16 7) rfl rfl (by kernel_rfl) ?_
     refine PYz 3 31 (bz 16 15) rfl rfl (by kernel_rfl) ?_
     refine PYz 4 32 (bz 16 31) rfl rfl (by kernel_rfl) ?_
     refine PYz 5 33 (bz 16 63) rfl rfl (by kernel_rfl) ?_
     refine PYz 6 34 (bz 16 127) rfl rfl (by kernel_rfl) ?_
     refine PYz 7 35 (bz 16 255) rfl rfl (by kernel_rfl) ?_
     refine PYz 9 37 (bz 16 767) rfl rfl (by kernel_rfl) ?_
     refine PYz 10 38 (bz 16 1791) rfl rfl (by kernel_rfl) ?_
     refine PYz 11 39 (bz 16 3839) rfl rfl (by kernel_rfl) ?_
     refine PYz 12 40 (bz 16 7935) rfl rfl (by kernel_rfl) ?_
     refine PTz 8 36 (bz 16 8191) rfl rfl (by kernel_rfl) hHeld ?_
     refine PTz 13 41 (bz 16 16383) rfl rfl (by kernel_rfl) hHeld ?_
     refine PYz 14 42 (bz 16 32767) rfl rfl (by kernel_rfl) ?_
     refine PYz 15 43 (bz 16 65535) rfl rfl (by kernel_rfl) ?_
     refine done_ (by kernel_rfl) ?_
     
     cases less : Op.bytesLess (rdOf ByteArray.empty out (j : Int)).toList nd.f1.toList
     case false =>
      have HEJ := Aside0.mk (show j = pq from by
       rcases Nat.lt_or_ge j pq with h | h
       ·have h2 := hps.1 h; rw [less] at h2; cases h2
       ·have := HJ.out; omega)
      clear less hps
      go_wp2
      go_meet
      case rel => exact ⟨by rw [HEJ.out], HOd, HBd⟩
     have HJP := Aside0.mk (show j < pq from by
      rcases Nat.lt_or_ge j pq with h | h
      ·exact h
      ·have e2 := hps.2 (by have := HJ.out; omega)
       rw [e2] at less; cases less)
     clear less hps
     obtain ⟨gk2, rfl⟩ : ∃ q, gk = q + 1 := ⟨gk - 1, by have := HJ.out; have := HJP.out; omega⟩
     have HWJ := Aside0.mk (show wrap64 ((j : Int) + 1) = ((j + 1 : Nat) : Int) from by have := HOL.out; have := HPL.out; have := HJP.out; unfold wrap64; omega)
     go_wp2
     go_roundg gk2
     case measure => omega
     case rel => exact ⟨j + 1, by rw [HWJ.out], ⟨by have := HJ.out; have := HJP.out; omega⟩, HOd, HBd⟩
   case rest =>
    clear HO3 HB3
    obtain ⟨rfl, HO4, HB4⟩ := hcut
    have HOd := Aside0.mk (Kd.R_drew HO4.out)
    have HBd := Aside0.mk (below_drew1 HB4.out)
    clear HO4 HB4
    go_upto_region 11 with fail
    go_cut [61] (fun v61 wc => v61 = .bool (decide (pq < out.length ∧ (rdOf ByteArray.empty out (pq : Nat)).toList = nd.f1.toList)) ∧ Aside0 (Kd.R Kd.string 9 wc w.heap.size (fun _ => True) (.slice Ao out.length co) out) ∧ Aside0 (Below w.heap.size w wc))
    case first =>
     by_cases jl : (pq : Int) < (out.length : Int)
     case neg =>
      have jlb : decide ((pq : Int) < (out.length : Int)) = false := decide_eq_false jl
      have jlc : decide (pq < out.length) = false := decide_eq_false (by omega)
      have HD := Aside0.mk (show decide (pq < out.length ∧ (rdOf ByteArray.empty out (pq : Nat)).toList = nd.f1.toList) = false from decide_eq_false (fun h => by omega))
      clear jl
      refine start_ (n := 16) (S := fun w' => True) (ds := []) (bz 16 0) (by kernel_rfl) rfl (by kernel_rfl) trivial (fun hHeld => ?_)
      generalize wc.drew = w9 at HOd HBd hHeld ⊢
      refine PYz 0 46 (bz 16 1) rfl rfl (by kernel_rfl) ?_
      refine PYz 1 47 (bz 16 3) rfl rfl (by kernel_rfl) ?_
      refine PYz 2 48 (bz 16 7) rfl rfl (by kernel_rfl) ?_
      refine PYz 3 49 (bz 16 15) rfl rfl (by kernel_rfl) ?_
      refine PYz 4 50 (bz 16 31) rfl rfl (by kernel_rfl) ?_
      refine pure_ (i := 5) (N := some 51) (v := undef) (a' := ?_) (bz 16 63) rfl rfl (by kernel_rfl) (fun _ _ _ h => h) (Or.inr ⟨by rfl, rfl⟩) ?_ ?_
      rotate_left
      ·simp only [PUz]
       rfl
      refine pure_ (i := 6) (N := some 52) (v := undef) (a' := ?_) (bz 16 127) rfl rfl (by kernel_rfl) (fun _ _ _ h => h) (Or.inr ⟨by rfl, rfl⟩) ?_ ?_
      rotate_left
      ·simp only [PUz]
       rfl
      refine pure_ (i := 7) (N := some 53) (v := undef) (a' := ?_) (bz 16 255) rfl rfl (by kernel_rfl) (fun _ _ _ h => h) (Or.inr ⟨by rfl, rfl⟩) ?_ ?_
      rotate_left
      ·simp only [PUz]
       rfl
      refine pure_ (i := 8) (N := some 54) (v := undef) (a' := ?_) (bz 16 511) rfl rfl (by kernel_rfl) (fun _ _ _ h => h) (Or.inr ⟨by rfl, rfl⟩) ?_ ?_
      rotate_left
      ·simp only [PUz]
       rfl
      refine pure_ (i := 9) (N := some 55) (v := undef) (a' := ?_) (bz 16 1023) rfl rfl (by kernel_rfl) (fun _ _ _ h => h) (Or.inr ⟨by rfl, rfl⟩) ?_ ?_
      rotate_left
      ·simp only [PUz]
       rfl
      refine pure_ (i := 10) (N := some 56) (v := undef) (a' := ?_) (bz 16 2047) rfl rfl (by kernel_rfl) (fun _ _ _ h => h) (Or.inr ⟨by rfl, rfl⟩) ?_ ?_
      rotate_left
      ·simp only [PUz]
       rfl
      refine pure_ (i := 11) (N := some 57) (v := undef) (a' := ?_) (bz 16 4095) rfl rfl (by kernel_rfl) (fun _ _ _ h => h) (Or.inr ⟨by rfl, rfl⟩) ?_ ?_
      rotate_left
      ·simp only [PUz]
       rfl
      refine pure_ (i := 12) (N := some 58) (v := undef) (a' := ?_) (bz 16 8191) rfl rfl (by kernel_rfl) (fun _ _ _ h => h) (Or.inr ⟨by rfl, rfl⟩) ?_ ?_
      rotate_left
      ·simp only [PUz]
       rfl
      refine pure_ (i := 13) (N := some 59) (v := undef) (a' := ?_) (bz 16 16383) rfl rfl (by kernel_rfl) (fun _ _ _ h => h) (Or.inr ⟨by rfl, rfl⟩) ?_ ?_
      rotate_left
      ·simp only [PUz]
       rfl
      refine pure_ (i := 14) (N := some 60) (v := undef) (a' := ?_) (bz 16 32767) rfl rfl (by kernel_rfl) (fun _ _ _ h => h) (Or.inr ⟨by rfl, rfl⟩) ?_ ?_
      rotate_left
      ·simp only [PUz]
       rfl
      refine PYz 15 61 (bz 16 65535) rfl rfl (by kernel_rfl) ?_
      refine done_ (by kernel_rfl) ?_
      
      try go_wp2
      go_meet
      case rel => exact ⟨by rw [HD.out], HOd, HBd⟩
     have jlb : decide ((pq : Int) < (out.length : Int)) = true := decide_eq_true jl
     have jlc : decide (pq < out.length) = true := decide_eq_true (by omega)
     have HD := Aside0.mk (show decide (pq < out.length ∧ (rdOf ByteArray.empty out (pq : Nat)).toList = nd.f1.toList) = ((rdOf ByteArray.empty out (pq : Int)).toList == nd.f1.toList) from by
      have h1 : pq < out.length := by omega
      by_cases e : (rdOf ByteArray.empty out (pq : Int)).toList = nd.f1.toList
      ·rw [decide_eq_true ⟨h1, e⟩, beq_iff_eq.2 e]
      ·rw [decide_eq_false (fun h => e h.2), beq_false_of_ne e])
     obtain ⟨ao, eao, xo⟩ := Kd.at_string (Kd.R_reads' HOd.out).2.2 (pq : Int) (by omega) jl
     subst eao
     rw [Int.toNat_natCast] at xo
     obtain ⟨ad2, ea2, x0, x1, x2, x3⟩ := Gw.node HR.out HBd.out i HIL.out
     obtain rfl : ad = ad2 := by injection ea2
     rw [HND.out] at x1
     have q1 := eq_true (show (0 : Int) ≤ (pq : Int) from by omega)
     have q2 := eq_true jl
     clear jl ea2 x0 x2 x3
     refine start_ (n := 16) (S := fun w' => w'.cell? (ao.add pq) = some (.string (rdOf ByteArray.empty out (pq : Int))) ∧ w'.cell? ⟨(ad.add (i * 4)).block, (ad.add (i * 4)).off + 1, none⟩ = some (.string nd.f1)) (ds := []) (bz 16 0) (by kernel_rfl) rfl (by kernel_rfl) ⟨xo, x1⟩ (fun hHeld => ?_)
     generalize wc.drew = w9 at HOd HBd xo x1 hHeld ⊢
     refine PYz 0 46 (bz 16 1) rfl rfl (by kernel_rfl) ?_
     refine PYz 1 47 (bz 16 3) rfl rfl (by kernel_rfl) ?_
     refine PYz 2 48 (bz 16 7) rfl rfl (by kernel_rfl) ?_
     refine PYz 3 49 (bz 16 15) rfl rfl (by kernel_rfl) ?_
     refine PYz 4 50 (bz 16 31) rfl rfl (by kernel_rfl) ?_
     refine PYz 5 51 (bz 16 63) rfl rfl (by kernel_rfl) ?_
     refine PYz 6 52 (bz 16 127) rfl rfl (by kernel_rfl) ?_
     refine PYz 7 53 (bz 16 255) rfl rfl (by kernel_rfl) ?_
     refine PYz 9 55 (bz 16 767) rfl rfl (by kernel_rfl) ?_
     refine PYz 10 56 (bz 16 1791) rfl rfl (by kernel_rfl) ?_
     refine PYz 11 57 (bz 16 3839) rfl rfl (by kernel_rfl) ?_
     refine PYz 12 58 (bz 16 7935) rfl rfl (by kernel_rfl) ?_
     refine PTz 8 54 (bz 16 8191) rfl rfl (by kernel_rfl) hHeld ?_
     refine PTz 13 59 (bz 16 16383) rfl rfl (by kernel_rfl) hHeld ?_
     refine PYz 14 60 (bz 16 32767) rfl rfl (by kernel_rfl) ?_
     refine PYz 15 61 (bz 16 65535) rfl rfl (by kernel_rfl) ?_
     refine done_ (by kernel_rfl) ?_
     
     try go_wp2
     go_meet
     case rel => exact ⟨by rw [HD.out], HOd, HBd⟩
    case rest =>
     clear HOd HBd
     obtain ⟨rfl, HO5, HB5⟩ := hcut
     have HPU := Aside0.mk (show Gw.put out nd.f1 = if pq < out.length ∧ (rdOf ByteArray.empty out (pq : Nat)).toList = nd.f1.toList then out else out.take pq ++ [nd.f1] ++ out.drop pq from by unfold Gw.put; rw [HPQ.out])
     by_cases same : pq < out.length ∧ (rdOf ByteArray.empty out (pq : Nat)).toList = nd.f1.toList
     case pos =>
      rw [decide_eq_true same]
      have hpu := HPU.out
      rw [if_pos same] at hpu
      have HG3 := Aside0.mk (show Gw.go (l0.drop (i + 1)) out = r from by have := HG.out; rw [hpu] at this; exact this)
      clear same hpu
      go_wp2
      go_roundg gk
      case measure => omega
      case rel => exact ⟨i + 1, out, by rw [HWI.out], ⟨by have := HI.out; have := HIL.out; omega⟩, HG3, HO5, HB5⟩
     rw [decide_eq_false same]
     have hpu := HPU.out
     rw [if_neg same] at hpu
     have HG3 := Aside0.mk (show Gw.go (l0.drop (i + 1)) (out.take pq ++ [nd.f1] ++ out.drop pq) = r from by have := HG.out; rw [hpu] at this; exact this)
     clear same hpu HG
     have hroom := (Kd.R_reads' HO5.out).2.1
     have hcut1 := cut_to (P := Tryz.prog) 39 9 .i64 Tryz.underlying39 hi9 Ao out.length co (pq : Int) (by omega) (by have := HPL.out; omega) hroom
     have hcut2 := cut_from (P := Tryz.prog) 39 9 .i64 Tryz.underlying39 hi9 1 hsz9 Ao out.length co (pq : Int) (by omega) (by have := HPL.out; omega)
     rw [Int.toNat_natCast] at hcut1 hcut2
     have ht : (out.take pq).length = pq := by rw [List.length_take]; have := HPL.out; omega
     have HT := Aside0.mk ht
     obtain ⟨A2, hA2⟩ : ∃ A2, (if co = pq then Ao else Ao.map (·.add (pq * 1))) = A2 := ⟨_, rfl⟩
     obtain ⟨c2, hc2⟩ : ∃ c2, co - pq = c2 := ⟨_, rfl⟩
     rw [hA2, hc2] at hcut2
     have HA2 := Aside0.mk hA2
     clear ht hroom hA2 hc2
     go_wp2_with (first | ((with_reducible refine gate_dst (N := 62) rfl ?_); refine Kd.R_lit Kd.string (w0 := w) w.heap.size 9 ?hg (N := 62) ?hd (xs := ([] : List ByteArray)) (inner := []) (ok := fun _ => True) (okp := fun _ => False) ?hr ?hp (fun _ hk => hk.elim) trivial HB5.out (below_size HB5.out) (by simp) ?_; (case hd => rfl); (case hg => rfl); (case hr => first | (go_simp; done) | (go_simp; rfl)); (case hp => exact (Reps.none _ _)); intro v6 w6 ho hb hg hnew; have HO6 := Aside0.mk ho; have HB6 := Aside0.mk hb; have HE := Aside0.mk (Kd.R_grown (Kd.R_mono (ok' := fun k_ => True ∧ some k_ ≠ v6.ownBlock) (Kd.R_bound HO5.out) (fun k_ hk => ⟨trivial, fun e => by obtain ⟨b_, e2, h2⟩ := hnew; rw [e2] at e; injection e with e; subst e; have := hk.2.2.1; omega⟩)) hg (fun _ _ => by simp)); clear ho hb hg hnew HO5 HB5) | (at_builtin; refine Kd.R_append_rows Kd.string (w0 := w) w.heap.size rfl (.tmp 62) (.tmp 65) 39 9 (.string ⟨#[]⟩) 16 rfl Tryz.underlying39 info9 rfl (by decide) (by omega) v6 [] (out.take pq) _ _ _ (fun _ => True) (fun _ => False) rfl rfl HO6.out (by have h_ := Kd.C_take (Kd.R_reads' HE.out).2.2 HPL.out; rw [HT.out] at h_; exact h_) (fun _ _ h => h) (fun _ h => h.elim) (fun _ _ => trivial) HB6.out (below_size HB6.out) ?aL ?_; (case aL => have := HOL.out; have := HT.out; have := HPL.out; simp only [List.length_nil]; omega); intro v7 w7 ho hb hg hat; have HO7 := Aside0.mk ho; have HB7 := Aside0.mk hb; have HE7 := Aside0.mk (Kd.R_after (ok := fun _ => True) HE.out hg hat); obtain ⟨ad3, ea3, y0, y1, y2, y3⟩ := Gw.node HR.out hb i HIL.out; obtain rfl : ad = ad3 := (by injection ea3); rw [HND.out] at y1; clear ho hb hg hat HO6 HB6 HE ea3 y0 y2 y3) | (at_builtin; refine Kd.R_append Kd.string (w0 := w) w.heap.size rfl (.tmp 67) (.tmp 73) 39 9 (.string ⟨#[]⟩) 16 rfl Tryz.underlying39 info9 rfl (by decide) (by omega) v7 _ nd.f1 [.string nd.f1] (fun _ => True) (fun _ => False) rfl rfl rfl (fun _ h => h.elim) (fun _ _ => trivial) HO7.out HB7.out (below_size HB7.out) ?aL ?_; (case aL => have := HOL.out; have := HT.out; have := HPL.out; simp only [List.length_append, List.length_nil]; omega); intro v8 w8 ho hb hg hat; have HO8 := Aside0.mk ho; have HB8 := Aside0.mk hb; have HE8 := Aside0.mk (Kd.R_after (ok := fun _ => True) HE7.out hg hat); have HDR := Aside0.mk (show Kd.C Kd.string w8 A2 (out.drop pq).length (out.drop pq) from by have h_ := Kd.C_drop (m := pq) (c := co) (Kd.R_reads' HE8.out).2.2 HPL.out (Kd.R_reads' HE8.out).2.1; rw [← HA2.out]; exact h_); clear ho hb hg hat HO7 HB7 HE7) | (at_builtin; refine Kd.R_append_rows Kd.string (w0 := w) w.heap.size rfl (.tmp 75) (.tmp 78) 39 9 (.string ⟨#[]⟩) 16 rfl Tryz.underlying39 info9 rfl (by decide) (by omega) v8 _ (out.drop pq) A2 _ c2 (fun _ => True) (fun _ => False) rfl rfl HO8.out (by have h_ := HDR.out; first | exact h_ | (rw [List.length_drop] at h_; exact h_)) (fun _ _ h => h) (fun _ h => h.elim) (fun _ _ => trivial) HB8.out (below_size HB8.out) ?aL ?_; (case aL => have := HOL.out; have := HT.out; have := HPL.out; simp only [List.length_append, List.length_nil, List.length_singleton, List.length_drop]; omega); intro v9 w9 ho hb hg hat; have HO9 := Aside0.mk (show Kd.R Kd.string 9 w9 w.heap.size (fun _ => True) v9 (out.take pq ++ [nd.f1] ++ out.drop pq) from by simpa using ho); have HB9 := Aside0.mk hb; clear ho hb hg hat HO8 HB8 HE8 HDR))
     go_roundg gk
     case measure => omega
     case rel => exact ⟨i + 1, _, by rw [HWI.out], ⟨by have := HI.out; have := HIL.out; have := HPL.out; simp only [List.length_append, List.length_take, List.length_drop, List.length_singleton]; omega⟩, HG3, HO9, HB9⟩
end Go.Proofs.YtmkeigielncpjaaGreatDoor.PFnFilter
