import Derived.Test.YtmkeigielncpjaaGreatDoorQFnAclx0
import Derived.Test.YtmkeigielncpjaaGreatDoorQFnAclx1
import Derived.Test.YtmkeigielncpjaaGreatDoorQFnAclx2
import Derived.Test.YtmkeigielncpjaaGreatDoorQFnAclx3
import Derived.Test.YtmkeigielncpjaaGreatDoorQFnAclx5
import Derived.Test.YtmkeigielncpjaaGreatDoorQFnAclx6
import Derived.Test.YtmkeigielncpjaaGreatDoorQFnAclx7
import Derived.Test.YtmkeigielncpjaaGreatDoorQFnAclx8
import Derived.Test.YtmkeigielncpjaaGreatDoorQFnAclx9
namespace Go.Proofs.YtmkeigielncpjaaGreatDoor.PFnAcl
open Go.RowKit Go.Proofs.YtmkeigielncpjaaGreatDoorW.PrintWords Go.Proofs.YtmkeigielncpjaaGreatDoorW.PrintLast Go.Proofs.YtmkeigielncpjaaGreatDoorW.PrintMore
attribute [local go_sem] max2_int min2_int max_two min_two max_three min_three max_four min_four
set_option linter.unusedVariables false
set_option linter.unusedSimpArgs false
def Y.CQ (q ra rb : Bool) (dn : List S96) (rd rn : Bool) (attr : ByteArray) (rt : Bool) : Prop := q = false → ra = true ∧ rb = true ∧ dn.length ≠ 0 ∧ rd = true ∧ rn = true ∧ (attr.toList = ([] : List UInt8) ∨ rt = true)
def Qd.OK (k : Nat) (l0 l1 : List Int) : Prop := (65 ≤ k ∧ (∀ x ∈ l0, 0 ≤ x ∧ x ≤ 255) ∧ (∀ x ∈ l1, 0 ≤ x ∧ x ≤ 255)) ∧ Y.TOT2 ∧
 (∀ (l : List S57) (who : ByteArray) (dn : List S96) (attr : ByteArray) (right : Int), Y.RU l → dn.length ≤ 1000 → who.size ≤ 8000 → attr.size ≤ 8000 → 0 ≤ right → right < 6 →
  ∃ x b : Bool, Gc.f k l who dn attr right = some x ∧ Qj.f k l who dn attr right = some x ∧ Ga.f k l = some b ∧ Qh.f k l = some b ∧ Gc.f k [] who dn attr right = some false ∧
   ∀ allow : Bool, ∃ ra rb rd rn rt xa xb : Bool, Qh.f k ((⟨(⟨#[42]⟩ : ByteArray), [], [], right, allow⟩ : S57) :: l) = some ra ∧ Qh.f k ((⟨(⟨#[42]⟩ : ByteArray), [], [], right % 4 + 1, allow⟩ : S57) :: l) = some rb ∧ Qk.f k dn = some rd ∧ Qq.f k who = some rn ∧ Qq.f k attr = some rt ∧
    Gc.f k ((⟨(⟨#[42]⟩ : ByteArray), [], [], right, allow⟩ : S57) :: l) who dn attr right = some xa ∧ Gc.f k ((⟨(⟨#[42]⟩ : ByteArray), [], [], right % 4 + 1, allow⟩ : S57) :: l) who dn attr right = some xb ∧ (ra = true → rb = true → dn.length ≠ 0 → rd = true → rn = true → (attr.toList = ([] : List UInt8) ∨ rt = true) → xa = allow ∧ xb = x)) ∧
 (∀ (l : List S57) (who : ByteArray) (dn : List S96) (at2 : List S117) (ns : List ByteArray), Y.RU l → dn.length ≤ 1000 → at2.length ≤ 30 → (∀ a ∈ at2, Y.AV a) → ns.length ≤ 10 → ∃ r : Bool, Gg.f k l who dn at2 ns = some r ∧ Qp.f k l who dn at2 ns = some r)
def Y.LW (w W : World) (A1 : Option Addr) (lr : List S57) (A2 : Option Addr) (dn : List S96) : Prop := Below w.heap.size w W ∧ Kd.C k57 W A1 lr.length lr ∧ Kd.C k96 W A2 dn.length dn
def Y.LM (W : World) (b13 : Nat) (A3 : Option Addr) (lm : List S57) (A4 : Option Addr) (c4 : Nat) (dm : List S96) (A5 : Option Addr) (c5 : Nat) (at2 : List S117) (A6 : Option Addr) (ns : List ByteArray) : Prop :=
 W.heap[b13]? = some (.cells #[.slice A4 dm.length c4, .slice A5 at2.length c5] 51 (0, 0)) ∧ Kd.C k57 W A3 lm.length lm ∧ Kd.C k96 W A4 dm.length dm ∧ Kd.C k117 W A5 at2.length at2 ∧ Kd.C Kd.string W A6 ns.length ns
section
variable {w W W1 : World} {A1 A2 A3 A4 A5 A6 : Option Addr} {lr lm : List S57} {dn dm : List S96} {at2 : List S117} {ns : List ByteArray} {b13 c4 c5 : Nat}
theorem Y.LW.below (h : Y.LW w W A1 lr A2 dn) (hb : Below W.heap.size W W1) : Y.LW w W1 A1 lr A2 dn := ⟨below_step h.1 hb, Kd.C_below h.2.1 hb, Kd.C_below h.2.2 hb⟩
theorem Y.LM.below (h : Y.LM W b13 A3 lm A4 c4 dm A5 c5 at2 A6 ns) (hb : Below W.heap.size W W1) : Y.LM W1 b13 A3 lm A4 c4 dm A5 c5 at2 A6 ns := ⟨blk_below h.1 hb, Kd.C_below h.2.1 hb, Kd.C_below h.2.2.1 hb, Kd.C_below h.2.2.2.1 hb, Kd.C_below h.2.2.2.2 hb⟩
theorem Y.heap57 : Kd.Heap k57 := Kd.heap_iso _ (Kd.heap_pair Kd.heap_string (Kd.heap_pair (Kd.heap_slice 96 (Kd.heap_iso _ (Kd.heap_pair Kd.heap_string Kd.heap_string))) (Kd.heap_pair (Kd.heap_slice 9 Kd.heap_string) (Kd.heap_pair (Kd.heap_int .i64) Kd.heap_bool))))
end
theorem Y.lwat (l : List Int) (hl : l.length ≤ 140737488351232) : ∃ r, Qe.f l 0 2 = some r := by
 unfold Qe.f
 rw [if_neg (by decide)]
 by_cases h : (l.length : Int) = 0
 ·exact ⟨0, by rw [if_pos h]⟩
 rw [if_neg h, Int.zero_tmod, if_pos (by decide), if_pos (by omega), if_neg (by decide)]
 exact ⟨_, rfl⟩
set_option maxRecDepth 100000 in
set_option maxHeartbeats 16000000 in
theorem Qd.calls (k : Nat) (B0 : Option Addr) (e0 : Nat) (l0 : List Int) (B1 : Option Addr) (e1 : Nat) (l1 : List Int) (r : Bool) (w : World) (hr0 : Kd.C (Kd.int .u8) w B0 l0.length l0) (hc0 : l0.length ≤ e0) (hr1 : Kd.C (Kd.int .u8) w B1 l1.length l1) (hc1 : l1.length ≤ e1) (h : Qd.OK k l0 l1) (hr_ : r = true := by rfl) :
  Calls Tryz.prog 6 #[.slice B0 l0.length e0, .slice B1 l1.length e1] w fun e w' => e = .returned (.bool r) ∧ Below w.heap.size w w' := by
 subst hr_
 have hu51 := Tryz.underlying51
 have HR0 := Aside0.mk hr0
 have HC0 := Aside0.mk hc0
 have HR1 := Aside0.mk hr1
 have HC1 := Aside0.mk hc1
 have HB := Aside0.mk (Below.refl w.heap.size w)
 obtain ⟨⟨h65, hx0, hx1⟩, hT, hA, hM⟩ := h
 have HK := Aside0.mk h65
 have HX0 := Aside0.mk hx0
 have HX1 := Aside0.mk hx1
 have HT := Aside0.mk hT
 have HA := Aside0.mk hA
 have HM := Aside0.mk hM
 clear hr0 hc0 hr1 hc1 h65 hx0 hx1 hT hA hM
 by_cases n0 : (l0.length : Int) > 1048576
 case pos =>
  have n0b : decide (1048576 < (l0.length : Int)) = true := decide_eq_true n0
  have n0c : decide (1048576 < l0.length) = true := decide_eq_true (by omega)
  clear n0
  go_enter Tryz.func6, Tryz.ntmps6
  go_wp2
  go_ret
  exact ⟨rfl, HB.out⟩
 have n0b : decide (1048576 < (l0.length : Int)) = false := decide_eq_false n0
 have n0c : decide (1048576 < l0.length) = false := decide_eq_false (by omega)
 have N0 := Aside0.mk n0
 clear n0
 by_cases n1 : (l1.length : Int) > 1048576
 case pos =>
  have n1b : decide (1048576 < (l1.length : Int)) = true := decide_eq_true n1
  have n1c : decide (1048576 < l1.length) = true := decide_eq_true (by omega)
  clear n1
  go_enter Tryz.func6, Tryz.ntmps6
  go_wp2
  go_ret
  exact ⟨rfl, HB.out⟩
 have n1b : decide (1048576 < (l1.length : Int)) = false := decide_eq_false n1
 have n1c : decide (1048576 < l1.length) = false := decide_eq_false (by omega)
 have N1 := Aside0.mk n1
 clear n1
 go_enter Tryz.func6, Tryz.ntmps6
 go_upto_region 4 with (go_at_call 26; refine (Y.draw26 HT.out k HK.out B0 e0 l0 w HR0.out HC0.out (by have := N0.out; omega) HX0.out).mono ?_; rintro e w1 ⟨A1, c1, lr, who, A2, c2, dn, attr, right, rfl, ⟨h1, h2, h3⟩, ⟨h4, h5, h6⟩, ⟨h7, h8, h9, h10⟩, hb⟩; have HL1 := Aside0.mk (show Y.LW w w1 A1 lr A2 dn from ⟨hb, h1, h4⟩); have HC := Aside0.mk (And.intro h2 h5); have HH := Aside0.mk (HA.out lr who dn attr right h3 h6 h7 h8 h9 h10); have HRI := Aside0.mk (And.intro h9 h10); have HRU := Aside0.mk h3.1; clear h1 h2 h3 h4 h5 h6 h7 h8 h9 h10 hb)
 obtain ⟨x, b, g1, g2, g3, g4, g5, g6⟩ := HH.out
 have G1 := Aside0.mk g1
 have G2 := Aside0.mk g2
 have G3 := Aside0.mk g3
 have G4 := Aside0.mk g4
 have G5 := Aside0.mk g5
 have G6 := Aside0.mk g6
 clear g1 g2 g3 g4 g5 g6 HH HA HR0 HC0 HX0 N0 n0b n0c n1b n1c HB
 go_upto_region 5 with (go_at_call 27; refine (Gc.calls k A1 c1 lr who A2 c2 dn attr right x _ HL1.out.2.1 HC.out.1 HL1.out.2.2 HC.out.2 G1.out).mono ?_; rintro e w2 ⟨rfl, hb⟩; have HL2 := Aside0.mk (Y.LW.below HL1.out hb); clear hb HL1)
 go_cut [61] (fun v61 wc => v61 = .bool false ∧ Aside0 (Y.LW w wc A1 lr A2 dn))
 case first =>
  have bt1 : (x != x) = false := bne_self_eq_false _
  have bt2 : (b != b) = false := bne_self_eq_false _
  go_wp2_with (first | (go_at_call 28; refine (Qj.calls k A1 c1 lr who A2 c2 dn attr right x _ HL2.out.2.1 HC.out.1 HL2.out.2.2 HC.out.2 G2.out).mono ?_; rintro e w3 ⟨rfl, hb⟩; have HL3 := Aside0.mk (Y.LW.below HL2.out hb); clear hb HL2) | (go_at_call 29; refine (Ga.calls k A1 c1 lr b _ HL3.out.2.1 HC.out.1 G3.out).mono ?_; rintro e w4 ⟨rfl, hb⟩; have HL4 := Aside0.mk (Y.LW.below HL3.out hb); clear hb HL3) | (go_at_call 30; refine (Qh.calls k A1 c1 lr b _ HL4.out.2.1 HC.out.1 G4.out).mono ?_; rintro e w5 ⟨rfl, hb⟩; have HL5 := Aside0.mk (Y.LW.below HL4.out hb); clear hb HL4) | (go_at_call 27; refine (Gc.calls k none 0 [] who A2 c2 dn attr right false _ (Kd.C_nil k57 _) (Nat.le_refl _) HL5.out.2.2 HC.out.2 G5.out).mono ?_; rintro e w6 ⟨rfl, hb⟩; have HL6 := Aside0.mk (Y.LW.below HL5.out hb); clear hb HL5))
  go_meet
  case rel => exact ⟨rfl, HL6⟩
 case rest =>
  clear HL2
  obtain ⟨rfl, HL6⟩ := hcut
  go_upto_region 8 with (first | (go_at_call 31; refine (Y.draw31 HT.out k HK.out B1 e1 l1 _ (Kd.C_below HR1.out HL6.out.1) HC1.out (by have := N1.out; omega) HX1.out).mono ?_; rintro e w7 ⟨A3, c3, lm, by_, A4, c4, dm, A5, c5, at2, A6, c6, ns, rfl, ⟨h1, h2, h3⟩, ⟨h4, h5, h6⟩, ⟨h7, h8, h9, h10⟩, ⟨h11, h12, h13⟩, hb⟩; have HM7 := Aside0.mk (And.intro h1 (And.intro h4 (And.intro h7 h11))); have HMC := Aside0.mk (And.intro h2 (And.intro h5 (And.intro h8 h12))); have HMM := Aside0.mk (HM.out lm by_ dm at2 ns h3 h6 h9 h10 h13); have HL7 := Aside0.mk (Y.LW.below HL6.out hb); clear h1 h2 h3 h4 h5 h6 h7 h8 h9 h10 h11 h12 h13 hb HL6) | ((with_reducible refine gate_dst (N := 13) rfl ?_); refine box_event ?hg (N := 13) ?hd (cs := #[.slice none 0 0, .slice none 0 0]) (t := 51) ?hr ?_; (case hd => rfl); (case hg => rfl); (case hr => first | (go_simp; done) | (go_simp; rfl)); intro b13 hg13 w8 hbox13 hb8; have HB8 := Aside0.mk (And.intro hb8 (And.intro hg13 hbox13)); have c0_ : w8.cell? ⟨b13, 0, none⟩ = some (.slice none 0 0) := (blk_cell hbox13 0).trans rfl; have c1_ : w8.cell? ⟨b13, 1, none⟩ = some (.slice none 0 0) := (blk_cell hbox13 1).trans rfl; have f0_ := blk_frozen hbox13 0; have f1_ := blk_frozen hbox13 1; clear hg13 hbox13 hb8))
  have HL9 := Aside0.mk (show Y.LW w ((w8.setCell ⟨b13, 0, none⟩ (.slice A4 dm.length c4)).setCell ⟨b13, 1, none⟩ (.slice A5 at2.length c5)) A1 lr A2 dn ∧ Y.LM ((w8.setCell ⟨b13, 0, none⟩ (.slice A4 dm.length c4)).setCell ⟨b13, 1, none⟩ (.slice A5 at2.length c5)) b13 A3 lm A4 c4 dm A5 c5 at2 A6 ns from by
   obtain ⟨hb8, hg, hbx⟩ := HB8.out
   obtain ⟨h1, h4, h7, h11⟩ := HM7.out
   have hsz : w7.heap.size ≤ b13 := by omega
   have hb := below_set (below_set hb8 hsz (j := 0) (v := .slice A4 dm.length c4)) hsz (j := 1) (v := .slice A5 at2.length c5)
   exact ⟨Y.LW.below HL7.out hb, blk_put (blk_put hbx 0 (.slice A4 dm.length c4) rfl) 1 (.slice A5 at2.length c5) rfl, Kd.C_below h1 hb, Kd.C_below h4 hb, Kd.C_below h7 hb, Kd.C_below h11 hb⟩)
  clear HL7 HM7 HB8 c0_ c1_ f0_ f1_ HM
  generalize (w8.setCell ⟨b13, 0, none⟩ (.slice A4 dm.length c4)).setCell ⟨b13, 1, none⟩ (.slice A5 at2.length c5) = w9 at HL9 ⊢
  obtain ⟨rm, m1, m2⟩ := HMM.out
  have M1 := Aside0.mk m1
  have M2 := Aside0.mk m2
  clear m1 m2 HMM
  go_cut [79] (fun v79 wc => v79 = .bool false ∧ Aside0 (Y.LW w wc A1 lr A2 dn))
  case first =>
   refine Y.three_rule (by kernel_rfl) (fun j => j == 0 || j == 1 || j == 3 || j == 5 || j == 6 || j == 8) [] (fun W W' => Below W.heap.size W W') (fun W => Y.LW w W A1 lr A2 dn ∧ Y.LM W b13 A3 lm A4 c4 dm A5 c5 at2 A6 ns)
    (fun j v W => match j with
     | 2 | 7 => v = .agg #[.slice A4 dm.length c4, .slice A5 at2.length c5]
     | 4 | 9 => v = .bool rm
     | 10 => v = .bool false
     | _ => True)
    (fun j v => match j with
     | 0 | 5 => v = .slice A3 lm.length c3
     | 1 | 6 => v = .string by_
     | 3 | 8 => v = .slice A6 ns.length c6
     | _ => True)
    (fun q val W => (Y.LW w W A1 lr A2 dn ∧ Y.LM W b13 A3 lm A4 c4 dm A5 c5 at2 A6 ns) ∧ val 10 = .bool false)
    (by kernel_rfl) (by kernel_rfl) ?hF ?h0 ?hpure ?hstep ?hmid ?htail ?hfin
   case hF => exact fun j v W W' hj _ => hj
   case h0 => exact ⟨Y.LW.below HL9.out.1 (below_drew (Below.refl _ _)), Y.LM.below HL9.out.2 (below_drew (Below.refl _ _))⟩
   case hpure =>
    intro p val W a i oi hpl hi hG hdep hA K hK
    have hi1 : i = 0 ∨ i = 1 ∨ i = 3 ∨ i = 5 ∨ i = 6 ∨ i = 8 := by simpa [or_assoc] using hpl
    rcases hi1 with rfl | rfl | rfl | rfl | rfl | rfl
    ·obtain rfl := Option.some.inj hi
     have e0 : a.tmps[11]?.getD undef = .slice A3 lm.length c3 := Y.AI_oldT hA 11 (by kernel_rfl)
     have hK' := hK _ rfl
     refine Y.stp rfl ?_
     go_simp
     exact hK'
    ·obtain rfl := Option.some.inj hi
     have e0 : a.tmps[12]?.getD undef = .string by_ := Y.AI_oldT hA 12 (by kernel_rfl)
     have hK' := hK _ rfl
     refine Y.stp rfl ?_
     go_simp
     exact hK'
    ·obtain rfl := Option.some.inj hi
     have e0 : a.tmps[14]?.getD undef = .slice A6 ns.length c6 := Y.AI_oldT hA 14 (by kernel_rfl)
     have hK' := hK _ rfl
     refine Y.stp rfl ?_
     go_simp
     exact hK'
    ·obtain rfl := Option.some.inj hi
     have e0 : a.tmps[11]?.getD undef = .slice A3 lm.length c3 := Y.AI_oldT hA 11 (by kernel_rfl)
     have hK' := hK _ rfl
     refine Y.stp rfl ?_
     go_simp
     exact hK'
    ·obtain rfl := Option.some.inj hi
     have e0 : a.tmps[12]?.getD undef = .string by_ := Y.AI_oldT hA 12 (by kernel_rfl)
     have hK' := hK _ rfl
     refine Y.stp rfl ?_
     go_simp
     exact hK'
    ·obtain rfl := Option.some.inj hi
     have e0 : a.tmps[14]?.getD undef = .slice A6 ns.length c6 := Y.AI_oldT hA 14 (by kernel_rfl)
     have hK' := hK _ rfl
     refine Y.stp rfl ?_
     go_simp
     exact hK'
   case hstep =>
    intro p val W a i oi hpl hit hi hR hG hFF hdep hA K hK
    rcases i with _ | _ | _ | _ | _ | _ | _ | _ | _ | _ | _ | i
    ·exact absurd hpl (by decide)
    ·exact absurd hpl (by decide)
    ·obtain rfl := Option.some.inj hi
     have e0 : a.tmps[13]?.getD undef = .pointer (some ⟨b13, 0, none⟩) := Y.AI_oldT hA 13 (by kernel_rfl)
     have cc0 : W.cell? ⟨b13, 0, none⟩ = some (.slice A4 dm.length c4) := (blk_cell hR.2.1 0).trans rfl
     have cc1 : W.cell? ⟨b13, 1, none⟩ = some (.slice A5 at2.length c5) := (blk_cell hR.2.1 1).trans rfl
     have hK' := hK (.agg #[.slice A4 dm.length c4, .slice A5 at2.length c5]) W (Below.refl _ _) hR rfl
     refine Y.stp rfl ?_
     go_simp
     exact hK'
    ·exact absurd hpl (by decide)
    ·obtain rfl := Option.some.inj hi
     have p0 : p 0 = true := hdep ⟨0, .data⟩ (by simp) rfl
     have p1 : p 1 = true := hdep ⟨1, .data⟩ (by simp) rfl
     have p2 : p 2 = true := hdep ⟨2, .data⟩ (by simp) rfl
     have p3 : p 3 = true := hdep ⟨3, .data⟩ (by simp) rfl
     have x0 : a.tmps[69]?.getD undef = .slice A3 lm.length c3 := (Y.AI_newT (n := 147) (by kernel_rfl) hA 0 69 rfl rfl p0).trans (hG 0 rfl p0)
     have x1 : a.tmps[70]?.getD undef = .string by_ := (Y.AI_newT (n := 147) (by kernel_rfl) hA 1 70 rfl rfl p1).trans (hG 1 rfl p1)
     have x2 : a.tmps[71]?.getD undef = .agg #[.slice A4 dm.length c4, .slice A5 at2.length c5] := (Y.AI_newT (n := 147) (by kernel_rfl) hA 2 71 rfl rfl p2).trans (hFF 2 rfl (by decide) p2)
     have x3 : a.tmps[72]?.getD undef = .slice A6 ns.length c6 := (Y.AI_newT (n := 147) (by kernel_rfl) hA 3 72 rfl rfl p3).trans (hG 3 rfl p3)
     refine call_ 32 #[.slice A3 lm.length c3, .string by_, .agg #[.slice A4 dm.length c4, .slice A5 at2.length c5], .slice A6 ns.length c6] rfl rfl ?hrun ((Gg.calls k A3 c3 lm by_ A4 c4 dm A5 c5 at2 A6 c6 ns rm W hR.2.2.1 HMC.out.1 hR.2.2.2.1 HMC.out.2.1 hR.2.2.2.2.1 HMC.out.2.2.1 hR.2.2.2.2.2 HMC.out.2.2.2 M1.out).mono ?hpost)
     case hrun => go_simp
     case hpost =>
      rintro e w2 ⟨rfl, hb⟩
      exact ⟨_, rfl, hK _ w2 hb ⟨Y.LW.below hR.1 hb, Y.LM.below hR.2 hb⟩ rfl⟩
    ·exact absurd hpl (by decide)
    ·exact absurd hpl (by decide)
    ·obtain rfl := Option.some.inj hi
     have e0 : a.tmps[13]?.getD undef = .pointer (some ⟨b13, 0, none⟩) := Y.AI_oldT hA 13 (by kernel_rfl)
     have cc0 : W.cell? ⟨b13, 0, none⟩ = some (.slice A4 dm.length c4) := (blk_cell hR.2.1 0).trans rfl
     have cc1 : W.cell? ⟨b13, 1, none⟩ = some (.slice A5 at2.length c5) := (blk_cell hR.2.1 1).trans rfl
     have hK' := hK (.agg #[.slice A4 dm.length c4, .slice A5 at2.length c5]) W (Below.refl _ _) hR rfl
     refine Y.stp rfl ?_
     go_simp
     exact hK'
    ·exact absurd hpl (by decide)
    ·obtain rfl := Option.some.inj hi
     have p5 : p 5 = true := hdep ⟨5, .data⟩ (by simp) rfl
     have p6 : p 6 = true := hdep ⟨6, .data⟩ (by simp) rfl
     have p7 : p 7 = true := hdep ⟨7, .data⟩ (by simp) rfl
     have p8 : p 8 = true := hdep ⟨8, .data⟩ (by simp) rfl
     have x0 : a.tmps[74]?.getD undef = .slice A3 lm.length c3 := (Y.AI_newT (n := 147) (by kernel_rfl) hA 5 74 rfl rfl p5).trans (hG 5 rfl p5)
     have x1 : a.tmps[75]?.getD undef = .string by_ := (Y.AI_newT (n := 147) (by kernel_rfl) hA 6 75 rfl rfl p6).trans (hG 6 rfl p6)
     have x2 : a.tmps[76]?.getD undef = .agg #[.slice A4 dm.length c4, .slice A5 at2.length c5] := (Y.AI_newT (n := 147) (by kernel_rfl) hA 7 76 rfl rfl p7).trans (hFF 7 rfl (by decide) p7)
     have x3 : a.tmps[77]?.getD undef = .slice A6 ns.length c6 := (Y.AI_newT (n := 147) (by kernel_rfl) hA 8 77 rfl rfl p8).trans (hG 8 rfl p8)
     refine call_ 33 #[.slice A3 lm.length c3, .string by_, .agg #[.slice A4 dm.length c4, .slice A5 at2.length c5], .slice A6 ns.length c6] rfl rfl ?hrun ((Qp.calls k A3 c3 lm by_ A4 c4 dm A5 c5 at2 A6 c6 ns rm W hR.2.2.1 HMC.out.1 hR.2.2.2.1 HMC.out.2.1 hR.2.2.2.2.1 HMC.out.2.2.1 hR.2.2.2.2.2 HMC.out.2.2.2 M2.out).mono ?hpost)
     case hrun => go_simp
     case hpost =>
      rintro e w2 ⟨rfl, hb⟩
      exact ⟨_, rfl, hK _ w2 hb ⟨Y.LW.below hR.1 hb, Y.LM.below hR.2 hb⟩ rfl⟩
    ·obtain rfl := Option.some.inj hi
     have p4 : p 4 = true := hdep ⟨4, .data⟩ (by simp) rfl
     have p9 : p 9 = true := hdep ⟨9, .data⟩ (by simp) rfl
     have x4 : a.tmps[73]?.getD undef = .bool rm := (Y.AI_newT (n := 147) (by kernel_rfl) hA 4 73 rfl rfl p4).trans (hFF 4 rfl (by decide) p4)
     have x9 : a.tmps[78]?.getD undef = .bool rm := (Y.AI_newT (n := 147) (by kernel_rfl) hA 9 78 rfl rfl p9).trans (hFF 9 rfl (by decide) p9)
     have bt : (rm != rm) = false := bne_self_eq_false _
     have hK' := hK (.bool false) W (Below.refl _ _) hR rfl
     refine Y.stp rfl ?_
     go_simp
     exact hK'
    ·exact absurd hi (by simp)
   case hmid =>
    intro val W hR hFF
    exact ⟨hR, hFF 10 (by decide) rfl (by decide)⟩
   case htail =>
    intro p val W a q i oi hq hi hT hG hal htl hdep hA K hK
    exact absurd hq (by simp)
   case hfin =>
    intro p val W a hT hG hall hA
    obtain ⟨hR, e10⟩ := hT
    have x79 : a.tmps[79]?.getD undef = .bool false := (Y.AI_newT (n := 147) (by kernel_rfl) hA 10 79 rfl rfl (hall 10 (by decide))).trans e10
    go_wp2
    refine Met.intro ?_
    go_step
    (repeat apply Exists.intro)
    refine ⟨?rel, Y.AI_frame hA⟩
    case rel => exact ⟨(Y.AI_at 79 (by kernel_rfl)).trans x79, ⟨hR.1⟩⟩
  case rest =>
   clear HL9 M1 M2 HMC
   obtain ⟨rfl, HL10⟩ := hcut
   obtain ⟨rl, hrl⟩ := Y.lwat l1 (by have := N1.out; omega)
   have HRL := Aside0.mk hrl
   clear hrl
   go_upto_region 11 with (go_at_call 34; refine (Qe.calls B1 e1 l1 0 2 rl _ (Kd.C_below HR1.out HL10.out.1) HC1.out HRL.out).mono ?_; rintro e w10 ⟨rfl, hb⟩; have hb := Drawn0.below hb; have HL11 := Aside0.mk (Y.LW.below HL10.out hb); clear hb HL10)
   generalize (rl == 1) = allow
   obtain ⟨ra, rb, rd, rn, rt, xa, xb, f1, f2, f3, f4, f5, f6, f7, f8⟩ := G6.out allow
   have F1 := Aside0.mk f1
   have F2 := Aside0.mk f2
   have F3 := Aside0.mk f3
   have F4 := Aside0.mk f4
   have F5 := Aside0.mk f5
   have F6 := Aside0.mk f6
   have F7 := Aside0.mk f7
   have F8 := Aside0.mk f8
   clear f1 f2 f3 f4 f5 f6 f7 f8 G6
   go_upto_region 12 with (first | ((with_reducible refine gate_dst (N := 86) rfl ?_); refine Kd.R_lit k57 (w0 := w10) w10.heap.size 57 ?hg (N := 86) ?hd (xs := ([(⟨(⟨#[42]⟩ : ByteArray), [], [], right, allow⟩ : S57)] : List S57)) (inner := [.string (⟨#[42]⟩ : ByteArray), .slice none 0 0, .slice none 0 0, .int .i64 (right), .bool allow]) (ok := fun _ => True) (okp := fun _ => False) ?hr ?hp (fun _ hk => hk.elim) trivial (Below.refl _ _) (Nat.le_refl _) (by simp) ?_; (case hd => rfl); (case hg => rfl); (case hr => first | (go_simp; done) | (go_simp; rfl)); (case hp => exact (Reps.c5 (k57_mkM _ _ _ (⟨(⟨#[42]⟩ : ByteArray), [], [], right, allow⟩ : S57) (Kd.R_nil _ _ _ _ _) (Kd.R_nil _ _ _ _ _)) (Reps.none _ _))); intro v86 w11 ho hb hg hnew; obtain ⟨A86, d86, e86⟩ := Kd.R_slice ho; subst e86; have hbn := Y.below_none hg; have HN86 := Aside0.mk (And.intro (Kd.R_N ho) (And.intro hnew hbn)); clear ho hb hg hnew hbn) | (at_builtin; refine Kd.N_append_rows k57 (w0 := w10) w10.heap.size rfl (.tmp 86) (.tmp 87) 43 57 (.agg #[(.string ⟨#[]⟩), (.slice none 0 0), (.slice none 0 0), (.int .i64 0), (.bool false)]) 80 rfl Tryz.underlying43 Y.i57 rfl (by decide) (by omega) (.slice A86 1 d86) [(⟨(⟨#[42]⟩ : ByteArray), [], [], right, allow⟩ : S57)] lr A1 lr.length c1 (fun _ => True) (fun k => k < w10.heap.size) rfl rfl HN86.out.1 (Kd.F_below (Kd.C_F Y.heap57 HL11.out.2.1) HN86.out.2.2) (fun k hk => ⟨trivial, fun he => by obtain ⟨b, e1, e2⟩ := HN86.out.2.1; have := he.trans e1; injection this with this; omega⟩) (fun _ _ => trivial) (show Below w10.heap.size w10 w11 from HN86.out.2.2) (below_size HN86.out.2.2) (by have := HRU.out; simp; omega) ?_; intro vA w12 hn hb hg hat; generalize hl2 : [(⟨(⟨#[42]⟩ : ByteArray), [], [], right, allow⟩ : S57)] ++ lr = la at hn; obtain ⟨Aa, ca, e6⟩ := Kd.N_slice hn; subst e6; have HEla := Aside0.mk (show (⟨(⟨#[42]⟩ : ByteArray), [], [], right, allow⟩ : S57) :: lr = la from hl2); have HRDla := Aside0.mk (Kd.N_reads' hn).2; have HL12 := Aside0.mk (Y.LW.below HL11.out hb); clear hn hb hg hat hl2 HN86 HL11))
   have hm1 : Int.tmod right 4 = right % 4 := Int.tmod_eq_emod_of_nonneg HRI.out.1
   have hm2 : wrap64 (right % 4) = right % 4 := Y.w64 (by omega) (by omega)
   have hm3 : wrap64 (right % 4 + 1) = right % 4 + 1 := Y.w64 (by omega) (by omega)
   go_upto_region 13 with (first | ((with_reducible refine gate_dst (N := 94) rfl ?_); refine Kd.R_lit k57 (w0 := w12) w12.heap.size 57 ?hg (N := 94) ?hd (xs := ([(⟨(⟨#[42]⟩ : ByteArray), [], [], right % 4 + 1, allow⟩ : S57)] : List S57)) (inner := [.string (⟨#[42]⟩ : ByteArray), .slice none 0 0, .slice none 0 0, .int .i64 (right % 4 + 1), .bool allow]) (ok := fun _ => True) (okp := fun _ => False) ?hr ?hp (fun _ hk => hk.elim) trivial (Below.refl _ _) (Nat.le_refl _) (by simp) ?_; (case hd => rfl); (case hg => rfl); (case hr => first | (go_simp; done) | (go_simp; rfl)); (case hp => exact (Reps.c5 (k57_mkM _ _ _ (⟨(⟨#[42]⟩ : ByteArray), [], [], right % 4 + 1, allow⟩ : S57) (Kd.R_nil _ _ _ _ _) (Kd.R_nil _ _ _ _ _)) (Reps.none _ _))); intro v94 w13 ho hb hg hnew; obtain ⟨A94, d94, e94⟩ := Kd.R_slice ho; subst e94; have hbn := Y.below_none hg; have HN94 := Aside0.mk (And.intro (Kd.R_N ho) (And.intro hnew hbn)); clear ho hb hg hnew hbn) | (at_builtin; refine Kd.N_append_rows k57 (w0 := w12) w12.heap.size rfl (.tmp 94) (.tmp 95) 43 57 (.agg #[(.string ⟨#[]⟩), (.slice none 0 0), (.slice none 0 0), (.int .i64 0), (.bool false)]) 80 rfl Tryz.underlying43 Y.i57 rfl (by decide) (by omega) (.slice A94 1 d94) [(⟨(⟨#[42]⟩ : ByteArray), [], [], right % 4 + 1, allow⟩ : S57)] lr A1 lr.length c1 (fun _ => True) (fun k => k < w12.heap.size) rfl rfl HN94.out.1 (Kd.F_below (Kd.C_F Y.heap57 HL12.out.2.1) HN94.out.2.2) (fun k hk => ⟨trivial, fun he => by obtain ⟨b, e1, e2⟩ := HN94.out.2.1; have := he.trans e1; injection this with this; omega⟩) (fun _ _ => trivial) (show Below w12.heap.size w12 w13 from HN94.out.2.2) (below_size HN94.out.2.2) (by have := HRU.out; simp; omega) ?_; intro vA w14 hn hb hg hat; generalize hl2 : [(⟨(⟨#[42]⟩ : ByteArray), [], [], right % 4 + 1, allow⟩ : S57)] ++ lr = lb at hn; obtain ⟨Ab, cb, e6⟩ := Kd.N_slice hn; subst e6; have HElb := Aside0.mk (show (⟨(⟨#[42]⟩ : ByteArray), [], [], right % 4 + 1, allow⟩ : S57) :: lr = lb from hl2); have HRDlb := Aside0.mk (Kd.N_reads' hn).2; have HL13 := Aside0.mk (Y.LW.below HL12.out hb); have HRDa2 := Aside0.mk (And.intro HRDla.out.1 (Kd.C_below HRDla.out.2 hb)); clear HRDla; clear hn hb hg hat hl2 HN94 HL12))
   clear hm1 hm2 hm3
   go_cut [128] (fun v128 wc => ∃ q : Bool, v128 = .bool q ∧ Aside0 (Y.CQ q ra rb dn rd rn attr rt) ∧ Aside0 (Y.LW w wc A1 lr A2 dn ∧ Kd.C k57 wc Aa la.length la ∧ Kd.C k57 wc Ab lb.length lb))
   case first =>
    have HQ0 := Aside0.mk (show Y.LW w w14 A1 lr A2 dn ∧ Kd.C k57 w14 Aa la.length la ∧ Kd.C k57 w14 Ab lb.length lb from ⟨HL13.out, HRDa2.out.2, HRDlb.out.2⟩)
    clear HL13
    cases ra with
    | false =>
     go_wp2_with (go_at_call 30; refine (Qh.calls k Aa ca la false _ HQ0.out.2.1 HRDa2.out.1 (by rw [← HEla.out]; exact F1.out)).mono ?_; rintro e w15 ⟨rfl, hb⟩; have HQ1 := Aside0.mk (And.intro (Y.LW.below HQ0.out.1 hb) (And.intro (Kd.C_below HQ0.out.2.1 hb) (Kd.C_below HQ0.out.2.2 hb))); clear hb HQ0)
     go_meet
     case rel => exact ⟨_, rfl, ⟨nofun⟩, HQ1⟩
    | true =>
     cases rb with
     | false =>
      go_wp2_with (first | (go_at_call 30; refine (Qh.calls k Aa ca la true _ HQ0.out.2.1 HRDa2.out.1 (by rw [← HEla.out]; exact F1.out)).mono ?_; rintro e w15 ⟨rfl, hb⟩; have HQ1 := Aside0.mk (And.intro (Y.LW.below HQ0.out.1 hb) (And.intro (Kd.C_below HQ0.out.2.1 hb) (Kd.C_below HQ0.out.2.2 hb))); clear hb HQ0) | (go_at_call 30; refine (Qh.calls k Ab cb lb false _ HQ1.out.2.2 HRDlb.out.1 (by rw [← HElb.out]; exact F2.out)).mono ?_; rintro e w16 ⟨rfl, hb⟩; have HQ2 := Aside0.mk (And.intro (Y.LW.below HQ1.out.1 hb) (And.intro (Kd.C_below HQ1.out.2.1 hb) (Kd.C_below HQ1.out.2.2 hb))); clear hb HQ1))
      go_meet
      case rel => exact ⟨_, rfl, ⟨nofun⟩, HQ2⟩
     | true =>
      by_cases d0 : dn.length = 0
      case pos =>
       have d0b : ((dn.length : Int) == 0) = true := beq_iff_eq.mpr (by omega)
       have d0c : (dn.length == 0) = true := beq_iff_eq.mpr d0
       have d0d : dn = [] := List.length_eq_zero_iff.1 d0
       clear d0
       subst d0d
       go_wp2_with (first | (go_at_call 30; refine (Qh.calls k Aa ca la true _ HQ0.out.2.1 HRDa2.out.1 (by rw [← HEla.out]; exact F1.out)).mono ?_; rintro e w15 ⟨rfl, hb⟩; have HQ1 := Aside0.mk (And.intro (Y.LW.below HQ0.out.1 hb) (And.intro (Kd.C_below HQ0.out.2.1 hb) (Kd.C_below HQ0.out.2.2 hb))); clear hb HQ0) | (go_at_call 30; refine (Qh.calls k Ab cb lb true _ HQ1.out.2.2 HRDlb.out.1 (by rw [← HElb.out]; exact F2.out)).mono ?_; rintro e w16 ⟨rfl, hb⟩; have HQ2 := Aside0.mk (And.intro (Y.LW.below HQ1.out.1 hb) (And.intro (Kd.C_below HQ1.out.2.1 hb) (Kd.C_below HQ1.out.2.2 hb))); clear hb HQ1))
       go_meet
       case rel => exact ⟨_, rfl, ⟨nofun⟩, HQ2⟩
      have d0b : ((dn.length : Int) == 0) = false := beq_eq_false_iff_ne.2 (by omega)
      have d0c : (dn.length == 0) = false := beq_eq_false_iff_ne.2 d0
      have d0d : ¬ dn = [] := fun h => d0 (by rw [h]; rfl)
      have HD0 := Aside0.mk d0
      clear d0
      cases rd with
      | false =>
       go_wp2_with (first | (go_at_call 30; refine (Qh.calls k Aa ca la true _ HQ0.out.2.1 HRDa2.out.1 (by rw [← HEla.out]; exact F1.out)).mono ?_; rintro e w15 ⟨rfl, hb⟩; have HQ1 := Aside0.mk (And.intro (Y.LW.below HQ0.out.1 hb) (And.intro (Kd.C_below HQ0.out.2.1 hb) (Kd.C_below HQ0.out.2.2 hb))); clear hb HQ0) | (go_at_call 30; refine (Qh.calls k Ab cb lb true _ HQ1.out.2.2 HRDlb.out.1 (by rw [← HElb.out]; exact F2.out)).mono ?_; rintro e w16 ⟨rfl, hb⟩; have HQ2 := Aside0.mk (And.intro (Y.LW.below HQ1.out.1 hb) (And.intro (Kd.C_below HQ1.out.2.1 hb) (Kd.C_below HQ1.out.2.2 hb))); clear hb HQ1) | (go_at_call 35; refine (Qk.calls k A2 c2 dn false _ HQ2.out.1.2.2 HC.out.2 F3.out).mono ?_; rintro e w17 ⟨rfl, hb⟩; have HQ3 := Aside0.mk (And.intro (Y.LW.below HQ2.out.1 hb) (And.intro (Kd.C_below HQ2.out.2.1 hb) (Kd.C_below HQ2.out.2.2 hb))); clear hb HQ2))
       go_meet
       case rel => exact ⟨_, rfl, ⟨nofun⟩, HQ3⟩
      | true =>
       cases rn with
       | false =>
        go_wp2_with (first | (go_at_call 30; refine (Qh.calls k Aa ca la true _ HQ0.out.2.1 HRDa2.out.1 (by rw [← HEla.out]; exact F1.out)).mono ?_; rintro e w15 ⟨rfl, hb⟩; have HQ1 := Aside0.mk (And.intro (Y.LW.below HQ0.out.1 hb) (And.intro (Kd.C_below HQ0.out.2.1 hb) (Kd.C_below HQ0.out.2.2 hb))); clear hb HQ0) | (go_at_call 30; refine (Qh.calls k Ab cb lb true _ HQ1.out.2.2 HRDlb.out.1 (by rw [← HElb.out]; exact F2.out)).mono ?_; rintro e w16 ⟨rfl, hb⟩; have HQ2 := Aside0.mk (And.intro (Y.LW.below HQ1.out.1 hb) (And.intro (Kd.C_below HQ1.out.2.1 hb) (Kd.C_below HQ1.out.2.2 hb))); clear hb HQ1) | (go_at_call 35; refine (Qk.calls k A2 c2 dn true _ HQ2.out.1.2.2 HC.out.2 F3.out).mono ?_; rintro e w17 ⟨rfl, hb⟩; have HQ3 := Aside0.mk (And.intro (Y.LW.below HQ2.out.1 hb) (And.intro (Kd.C_below HQ2.out.2.1 hb) (Kd.C_below HQ2.out.2.2 hb))); clear hb HQ2) | (go_at_call 36; have hq3 := HQ3; clear hq3; with_reducible refine (Qq.calls k who false _ F4.out).mono ?_; rintro e w18 ⟨rfl, hb⟩; have hb := Drawn0.below hb; have HQ4 := Aside0.mk (And.intro (Y.LW.below HQ3.out.1 hb) (And.intro (Kd.C_below HQ3.out.2.1 hb) (Kd.C_below HQ3.out.2.2 hb))); clear hb HQ3))
        go_meet
        case rel => exact ⟨_, rfl, ⟨nofun⟩, HQ4⟩
       | true =>
        by_cases t0 : attr.toList = ([] : List UInt8)
        case pos =>
         have t0b : attr.toList.isEmpty = true := by rw [t0]; rfl
         have HT0 := Aside0.mk t0
         clear t0
         go_wp2_with (first | (go_at_call 30; refine (Qh.calls k Aa ca la true _ HQ0.out.2.1 HRDa2.out.1 (by rw [← HEla.out]; exact F1.out)).mono ?_; rintro e w15 ⟨rfl, hb⟩; have HQ1 := Aside0.mk (And.intro (Y.LW.below HQ0.out.1 hb) (And.intro (Kd.C_below HQ0.out.2.1 hb) (Kd.C_below HQ0.out.2.2 hb))); clear hb HQ0) | (go_at_call 30; refine (Qh.calls k Ab cb lb true _ HQ1.out.2.2 HRDlb.out.1 (by rw [← HElb.out]; exact F2.out)).mono ?_; rintro e w16 ⟨rfl, hb⟩; have HQ2 := Aside0.mk (And.intro (Y.LW.below HQ1.out.1 hb) (And.intro (Kd.C_below HQ1.out.2.1 hb) (Kd.C_below HQ1.out.2.2 hb))); clear hb HQ1) | (go_at_call 35; refine (Qk.calls k A2 c2 dn true _ HQ2.out.1.2.2 HC.out.2 F3.out).mono ?_; rintro e w17 ⟨rfl, hb⟩; have HQ3 := Aside0.mk (And.intro (Y.LW.below HQ2.out.1 hb) (And.intro (Kd.C_below HQ2.out.2.1 hb) (Kd.C_below HQ2.out.2.2 hb))); clear hb HQ2) | (go_at_call 36; have hq3 := HQ3; clear hq3; with_reducible refine (Qq.calls k who true _ F4.out).mono ?_; rintro e w18 ⟨rfl, hb⟩; have hb := Drawn0.below hb; have HQ4 := Aside0.mk (And.intro (Y.LW.below HQ3.out.1 hb) (And.intro (Kd.C_below HQ3.out.2.1 hb) (Kd.C_below HQ3.out.2.2 hb))); clear hb HQ3))
         go_meet
         case rel => exact ⟨_, rfl, ⟨fun _ => ⟨rfl, rfl, HD0.out, rfl, rfl, .inl HT0.out⟩⟩, HQ4⟩
        have t0b : attr.toList.isEmpty = false := by cases e : attr.toList with | nil => exact absurd e t0 | cons _ _ => rfl
        clear t0
        cases rt with
        | false =>
         go_wp2_with (first | (go_at_call 30; refine (Qh.calls k Aa ca la true _ HQ0.out.2.1 HRDa2.out.1 (by rw [← HEla.out]; exact F1.out)).mono ?_; rintro e w15 ⟨rfl, hb⟩; have HQ1 := Aside0.mk (And.intro (Y.LW.below HQ0.out.1 hb) (And.intro (Kd.C_below HQ0.out.2.1 hb) (Kd.C_below HQ0.out.2.2 hb))); clear hb HQ0) | (go_at_call 30; refine (Qh.calls k Ab cb lb true _ HQ1.out.2.2 HRDlb.out.1 (by rw [← HElb.out]; exact F2.out)).mono ?_; rintro e w16 ⟨rfl, hb⟩; have HQ2 := Aside0.mk (And.intro (Y.LW.below HQ1.out.1 hb) (And.intro (Kd.C_below HQ1.out.2.1 hb) (Kd.C_below HQ1.out.2.2 hb))); clear hb HQ1) | (go_at_call 35; refine (Qk.calls k A2 c2 dn true _ HQ2.out.1.2.2 HC.out.2 F3.out).mono ?_; rintro e w17 ⟨rfl, hb⟩; have HQ3 := Aside0.mk (And.intro (Y.LW.below HQ2.out.1 hb) (And.intro (Kd.C_below HQ2.out.2.1 hb) (Kd.C_below HQ2.out.2.2 hb))); clear hb HQ2) | (go_at_call 36; have hq3 := HQ3; clear hq3; with_reducible refine (Qq.calls k who true _ F4.out).mono ?_; rintro e w18 ⟨rfl, hb⟩; have hb := Drawn0.below hb; have HQ4 := Aside0.mk (And.intro (Y.LW.below HQ3.out.1 hb) (And.intro (Kd.C_below HQ3.out.2.1 hb) (Kd.C_below HQ3.out.2.2 hb))); clear hb HQ3) | (go_at_call 36; have hq4 := HQ4; clear hq4; with_reducible refine (Qq.calls k attr false _ F5.out).mono ?_; rintro e w19 ⟨rfl, hb⟩; have hb := Drawn0.below hb; have HQ5 := Aside0.mk (And.intro (Y.LW.below HQ4.out.1 hb) (And.intro (Kd.C_below HQ4.out.2.1 hb) (Kd.C_below HQ4.out.2.2 hb))); clear hb HQ4))
         go_meet
         case rel => exact ⟨_, rfl, ⟨nofun⟩, HQ5⟩
        | true =>
         go_wp2_with (first | (go_at_call 30; refine (Qh.calls k Aa ca la true _ HQ0.out.2.1 HRDa2.out.1 (by rw [← HEla.out]; exact F1.out)).mono ?_; rintro e w15 ⟨rfl, hb⟩; have HQ1 := Aside0.mk (And.intro (Y.LW.below HQ0.out.1 hb) (And.intro (Kd.C_below HQ0.out.2.1 hb) (Kd.C_below HQ0.out.2.2 hb))); clear hb HQ0) | (go_at_call 30; refine (Qh.calls k Ab cb lb true _ HQ1.out.2.2 HRDlb.out.1 (by rw [← HElb.out]; exact F2.out)).mono ?_; rintro e w16 ⟨rfl, hb⟩; have HQ2 := Aside0.mk (And.intro (Y.LW.below HQ1.out.1 hb) (And.intro (Kd.C_below HQ1.out.2.1 hb) (Kd.C_below HQ1.out.2.2 hb))); clear hb HQ1) | (go_at_call 35; refine (Qk.calls k A2 c2 dn true _ HQ2.out.1.2.2 HC.out.2 F3.out).mono ?_; rintro e w17 ⟨rfl, hb⟩; have HQ3 := Aside0.mk (And.intro (Y.LW.below HQ2.out.1 hb) (And.intro (Kd.C_below HQ2.out.2.1 hb) (Kd.C_below HQ2.out.2.2 hb))); clear hb HQ2) | (go_at_call 36; have hq3 := HQ3; clear hq3; with_reducible refine (Qq.calls k who true _ F4.out).mono ?_; rintro e w18 ⟨rfl, hb⟩; have hb := Drawn0.below hb; have HQ4 := Aside0.mk (And.intro (Y.LW.below HQ3.out.1 hb) (And.intro (Kd.C_below HQ3.out.2.1 hb) (Kd.C_below HQ3.out.2.2 hb))); clear hb HQ3) | (go_at_call 36; have hq4 := HQ4; clear hq4; with_reducible refine (Qq.calls k attr true _ F5.out).mono ?_; rintro e w19 ⟨rfl, hb⟩; have hb := Drawn0.below hb; have HQ5 := Aside0.mk (And.intro (Y.LW.below HQ4.out.1 hb) (And.intro (Kd.C_below HQ4.out.2.1 hb) (Kd.C_below HQ4.out.2.2 hb))); clear hb HQ4))
         go_meet
         case rel => exact ⟨_, rfl, ⟨fun _ => ⟨rfl, rfl, HD0.out, rfl, rfl, .inr rfl⟩⟩, HQ5⟩
   case rest =>
    have HCA := Aside0.mk (And.intro HRDa2.out.1 HRDlb.out.1)
    clear HL13 HRDa2 HRDlb
    obtain ⟨q, rfl, HQI, HQ⟩ := hcut
    cases q
    case true =>
     go_wp2
     go_ret
     exact ⟨rfl, HQ.out.1.1⟩
    obtain ⟨z1, z2, z3, z4, z5, z6⟩ := HQI.out rfl
    obtain ⟨rfl, rfl⟩ := F8.out z1 z2 z3 z4 z5 z6
    clear z1 z2 z3 z4 z5 z6
    have bt1 : (xa == xa) = true := beq_self_eq_true _
    have bt2 : (xb == xb) = true := beq_self_eq_true _
    go_wp2_with (first | (go_at_call 27; refine (Gc.calls k Aa ca la who A2 c2 dn attr right xa _ HQ.out.2.1 HCA.out.1 HQ.out.1.2.2 HC.out.2 (by rw [← HEla.out]; exact F6.out)).mono ?_; rintro e w20 ⟨rfl, hb⟩; have HQ2 := Aside0.mk (And.intro (Y.LW.below HQ.out.1 hb) (Kd.C_below HQ.out.2.2 hb)); clear hb HQ) | (go_at_call 27; refine (Gc.calls k Ab cb lb who A2 c2 dn attr right xb _ HQ2.out.2 HCA.out.2 HQ2.out.1.2.2 HC.out.2 (by rw [← HElb.out]; exact F7.out)).mono ?_; rintro e w21 ⟨rfl, hb⟩; have HB21 := Aside0.mk (below_step HQ2.out.1.1 hb); clear hb HQ2))
    go_ret
    exact ⟨rfl, HB21.out⟩
def Qd.Pure : Prop := ∀ (l0 : List Int) (l1 : List Int), (l0.length * 1 ≤ 140737488351232 ∧ ∀ y_ ∈ l0, (Lit.int .u8 y_).wf = true) → (l1.length * 1 ≤ 140737488351232 ∧ ∀ y_ ∈ l1, (Lit.int .u8 y_).wf = true) → ∃ k, Qd.OK k l0 l1
end Go.Proofs.YtmkeigielncpjaaGreatDoor.PFnAcl
