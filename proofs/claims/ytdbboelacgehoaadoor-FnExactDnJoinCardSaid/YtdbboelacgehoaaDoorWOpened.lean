/- WHAT CAME IN, OPENED: an argument that reads as data holds a plain value, kind by kind. Plain theorems; no condition. -/
import Derived.Test.YtdbboelacgehoaaDoorWWords
import Derived.ChangeArms
import Derived.ChangeSame
import Derived.SizedLaws
import Derived.OpenShut
import Derived.Deep.Slices
namespace Go.Proofs.YtdbboelacgehoaaDoorW.Opened
open Go.RowKit Go.Proofs.YtdbboelacgehoaaDoorW.PrintWords
set_option linter.unusedVariables false
section
variable {P : Program} {α β γ : Type}
/-- A value of type t that reads as data, and whose parts are within the reach, holds a value of kind d that meets Ok. -/
def Opn (P : Program) (t : TypeId) (d : Kd α) (Ok : α → Prop) : Prop :=
  ∀ {H : Type} {enc : TypeId × Value → H} {w : World} {base : Nat} {spare : Nat → Bool} {held : Bool} {fuel : Nat} {cs : List Value} {x : DataW H × List MemPlace},
    DataW.trod enc P w base spare held fuel t cs = some x → (∀ n ∈ DataW.weights P t x.1, n ≤ reachBytes) → ∃ a : α, d.K w a cs ∧ Ok a
theorem opn_int {t : TypeId} {k : IntKind} (ht : P.underlying t = some (.int k)) : Opn P t (Kd.int k) (fun n => (Lit.int k n).wf = true) := by
  intro H enc w base spare held fuel cs x h hw
  obtain ⟨n, rfl, rfl, hwf⟩ := DataW.trod_int ht h
  exact ⟨n, rfl, hwf⟩
theorem opn_bool {t : TypeId} (ht : P.underlying t = some .bool) : Opn P t Kd.bool (fun _ => True) := by
  intro H enc w base spare held fuel cs x h hw
  obtain ⟨b, rfl, rfl⟩ := DataW.trod_bool ht h
  exact ⟨b, rfl, trivial⟩
theorem opn_string {t : TypeId} (ht : P.underlying t = some .string) : Opn P t Kd.string (fun s => s.size ≤ 140737488351232) := by
  intro H enc w base spare held fuel cs x h hw
  obtain ⟨s, rfl, rfl, hs⟩ := DataW.trod_string ht h
  refine ⟨s, rfl, ?_⟩
  have := hw s.data.toList.length (by simp [DataW.weights])
  rw [Array.length_toList] at this
  exact this
theorem mem_weightsAll {H : Type} {e : TypeId} {ds : List (DataW H)} {d : DataW H} (hd : d ∈ ds) {n : Nat} (hn : n ∈ DataW.weights P e d) : n ∈ DataW.weightsAll P e ds := by
  induction ds with
  | nil => cases hd
  | cons a ds ih =>
    unfold DataW.weightsAll
    rcases List.mem_cons.1 hd with rfl | h
    · exact List.mem_append_left _ hn
    · exact List.mem_append_right _ (ih h)
theorem opn_slice {t e : TypeId} {b : Nat} {d : Kd α} {Ok : α → Prop} (ht : P.underlying t = some (.slice e)) (hC : P.cellsOf e = d.sz) (hb : P.bytesOf e = b) (ho : Opn P e d Ok) :
    Opn P t (Kd.slice e d) (fun l => l.length * b ≤ 140737488351232 ∧ ∀ x ∈ l, Ok x) := by
  intro H enc w base spare held fuel cs x h hw
  rcases DataW.trod_slice ht h with ⟨rfl, rfl⟩ | ⟨a, len, cap, elems, rest, n, _, rfl, rfl, _, hl, hm, hlen, hel, hsp, hns⟩
  · exact ⟨[], ⟨none, 0, rfl, Nat.le_refl _, ⟨rfl, by simp, fun h => by simp at h⟩⟩, by simp, by simp⟩
  · have hw2 : ∀ n ∈ DataW.weights P t (.slice (elems.map (·.1)) (rest.map (·.1))), n ≤ reachBytes := hw
    unfold DataW.weights at hw2
    rw [ht] at hw2
    have key : ∀ i, i < len → ∃ a' : α, (∃ c, c.length = d.sz ∧ d.K w a' c ∧ ∀ j u, c[j]? = some u → w.cell? (a.add (i * d.sz + j)) = some u) ∧ Ok a' := by
      intro i hi
      have h1 := hel i hi
      rw [List.getElem?_eq_getElem (show i < elems.length by omega)] at h1
      obtain ⟨c, hc, ht1⟩ := Option.bind_eq_some_iff.1 h1
      obtain ⟨_, hcl, hat⟩ := World.cells?_some hc
      obtain ⟨a', hK, hOk⟩ := ho ht1 (fun n hn => hw2 n (List.mem_cons_of_mem _ (List.mem_append_left _ (mem_weightsAll (List.mem_map.2 ⟨_, List.getElem_mem _, rfl⟩) hn))))
      refine ⟨a', ⟨c, d.K_len hK, hK, fun j u hu => ?_⟩, hOk⟩
      have hj : j < c.length := (List.getElem?_eq_some_iff.1 hu).1
      have := hat j (by rw [← hcl]; exact hj)
      rw [Go.Deep.add_add, hC] at this
      rw [this, hu]
    have build : ∀ m, m ≤ len → ∃ l : List α, l.length = m ∧ (∀ j p, l[j]? = some p → ∃ c, c.length = d.sz ∧ d.K w p c ∧ ∀ i u, c[i]? = some u → w.cell? (a.add (j * d.sz + i)) = some u) ∧ ∀ p ∈ l, Ok p := by
      intro m
      induction m with
      | zero => exact fun _ => ⟨[], rfl, fun j p h => by simp at h, fun p h => by simp at h⟩
      | succ m ih =>
        intro hm
        obtain ⟨l, h1, h2, h3⟩ := ih (by omega)
        obtain ⟨a', hc, hOk⟩ := key m (by omega)
        refine ⟨l ++ [a'], by simp [h1], fun j p hj => ?_, fun p hp => ?_⟩
        · rcases Nat.lt_or_ge j l.length with hlt | hge
          · rw [List.getElem?_append_left hlt] at hj; exact h2 j p hj
          · rw [List.getElem?_append_right hge] at hj
            have hj0 : j - l.length = 0 := by
              have := (List.getElem?_eq_some_iff.1 hj).1
              simp only [List.length_singleton] at this; omega
            rw [hj0] at hj
            simp only [List.getElem?_cons_zero, Option.some.injEq] at hj
            rw [← hj, show j = m by omega]; exact hc
        · rcases List.mem_append.1 hp with hp | hp
          · exact h3 p hp
          · rw [List.mem_singleton.1 hp]; exact hOk
    obtain ⟨l, h1, h2, h3⟩ := build len (Nat.le_refl _)
    have hwl := hw2 ((List.length (elems.map (·.1)) + List.length (rest.map (·.1))) * P.bytesOf e) (by simp)
    refine ⟨l, ⟨some a, cap, by rw [h1], by omega, ⟨rfl, ?_, fun _ => ⟨a, rfl, h2⟩⟩⟩, ?_, h3⟩
    · unfold maxLen at hm; omega
    · rw [h1, ← hlen, ← hb]
      refine Nat.le_trans ?_ hwl
      rw [List.length_map, List.length_map]
      exact Nat.mul_le_mul_right _ (Nat.le_add_right _ _)
/-- The same of some fields, one behind the other. -/
def OpnF (P : Program) (fs : List Field) (off : Nat) (d : Kd β) (Ok : β → Prop) : Prop :=
  ∀ {H : Type} {enc : TypeId × Value → H} {w : World} {base : Nat} {spare : Nat → Bool} {held : Bool} {n : Nat} {cs : List Value} {ys : List (DataW H × List MemPlace)},
    ys.length = fs.length → (∀ (i : Nat) (f : Field), fs[i]? = some f → DataW.trod enc P w base spare held n f.type ((cs.drop f.offset).take (P.cellsOf f.type)) = ys[i]?) →
    (∀ m ∈ DataW.weightsEach P (fs.map (·.type)) (ys.map (·.1)), m ≤ reachBytes) → cs.length = off + d.sz → ∃ b : β, d.K w b (cs.drop off) ∧ Ok b
theorem opnf_one {f : Field} {off : Nat} {d : Kd β} {Ok : β → Prop} (ho : f.offset = off) (hC : P.cellsOf f.type = d.sz) (h : Opn P f.type d Ok) : OpnF P [f] off d Ok := by
  intro H enc w base spare held n cs ys hl hf hw hcs
  match ys, hl with
  | [y], _ =>
    have h1 := hf 0 f rfl
    rw [ho, hC, List.take_of_length_le (by rw [List.length_drop]; omega)] at h1
    refine h h1 (fun m hm => hw m ?_)
    simp only [List.map_cons, List.map_nil, DataW.weightsEach]
    exact List.mem_append_left _ hm
theorem opnf_cons {f : Field} {fs : List Field} {off off2 : Nat} {d0 : Kd α} {d : Kd β} {Ok0 : α → Prop} {Ok : β → Prop} (ho : f.offset = off) (hC : P.cellsOf f.type = d0.sz) (h2 : off2 = off + d0.sz) (h : Opn P f.type d0 Ok0) (hs : OpnF P fs off2 d Ok) :
    OpnF P (f :: fs) off (Kd.pair d0 d) (fun p => Ok0 p.1 ∧ Ok p.2) := by
  intro H enc w base spare held n cs ys hl hf hw hcs
  match ys, hl with
  | y :: ys, hl =>
    have hcs' : cs.length = off + (d0.sz + d.sz) := hcs
    have h1 := hf 0 f rfl
    rw [ho, hC] at h1
    simp only [List.map_cons, DataW.weightsEach] at hw
    obtain ⟨a, hK, hOk⟩ := h h1 (fun m hm => hw m (List.mem_append_left _ hm))
    obtain ⟨b, hK2, hOk2⟩ := hs (ys := ys) (by simpa using hl) (fun i g hg => hf (i + 1) g hg) (fun m hm => hw m (List.mem_append_right _ hm)) (by omega)
    refine ⟨(a, b), ⟨(cs.drop off).take d0.sz, cs.drop off2, ?_, hK, hK2⟩, hOk, hOk2⟩
    rw [h2, ← List.drop_drop, List.take_append_drop]
theorem opn_struct {t : TypeId} {fs : Array Field} {l : List Field} {d : Kd β} {Ok : β → Prop} (ht : P.underlying t = some (.struct fs)) (hl : fs.toList = l) (hC : P.cellsOf t = d.sz) (ho : OpnF P l 0 d Ok) (f : γ → β) (g : β → γ) (hg : ∀ b, f (g b) = b) :
    Opn P t (Kd.iso d f) (fun x => Ok (f x)) := by
  intro H enc w base spare held fuel cs x h hw
  obtain ⟨xs, n, _, rfl, hcl, hlen, hf⟩ := DataW.trod_struct ht h
  have hw2 : ∀ n ∈ DataW.weights P t (.agg (xs.map (·.1))), n ≤ reachBytes := hw
  unfold DataW.weights at hw2
  rw [ht] at hw2
  subst hl
  obtain ⟨b, hK, hOk⟩ := ho (ys := xs) (by rw [hlen]; simp) (fun i f hf' => hf i f (by simpa using hf')) hw2 (by rw [hcl, hC]; omega)
  refine ⟨g b, ?_, ?_⟩
  · show d.K w (f (g b)) cs
    rw [hg]
    simpa using hK
  · show Ok (f (g b))
    rw [hg]; exact hOk
/-- An argument, opened. -/
theorem opn_arg {ts : List TypeId} {H : Type} {enc : TypeId × Value → H} {W : World} {base : Nat} {spare : Nat → Bool} {held : Bool} {ds : List (DataW H)} {j : Nat} {t : TypeId} {v : Value} {x : DataW H} {p : List MemPlace} {d : Kd α} {Ok : α → Prop}
    (hsz : (DataW.weightsEach P ts ds).all (· ≤ reachBytes) = true) (ht : ts[j]? = some t) (hd : ds[j]? = some x) (h : DataW.Trod enc P W base spare held t v x p) (ho : Opn P t d Ok) : ∃ a : α, d.K W a v.cells.toList ∧ Ok a := by
  obtain ⟨fuel, hf⟩ := h
  refine ho hf (fun n hn => ?_)
  have := List.all_eq_true.1 hsz n (DataW.weights_mem_each ht hd n hn)
  simpa using this
/-- A slice that came in. -/
theorem opn_slice_arg {e : TypeId} {d : Kd α} {W : World} {A : Option Addr} {len cap : Nat} {l : List α} (h : (Kd.slice e d).K W l (Value.slice A len cap).cells.toList) : len = l.length ∧ l.length ≤ cap ∧ Kd.C d W A l.length l := by
  obtain ⟨A', c, hcs, hle, hC⟩ := h
  simp only [Value.cells, List.cons.injEq, and_true] at hcs
  injection hcs with h1 h2 h3
  subst h1 h3
  exact ⟨h2, hle, hC⟩
end
end Go.Proofs.YtdbboelacgehoaaDoorW.Opened
