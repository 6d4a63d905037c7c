/- What an argument's data, once read, tell of its cells: kind by kind, for the rows of laws over structs and slices of structs. No condition. -/
import Derived.Test.YtbebcnnibjkclaaDoorWWords
import Derived.Deep.Slices
import Derived.Deep.Fields
import Derived.ChangeSame
import Derived.ChangeArms
namespace Go.Proofs.YtbebcnnibjkclaaDoor.Opens
open Go.ChangeShapes Go.WideShapes Go.Deep Go.Proofs.YtbebcnnibjkclaaDoorW.PrintWords
def Opens (P : Program) {α : Type} (t : TypeId) (d : Kd α) (Wf : α → Prop) : Prop :=
  ∀ (H : Type) (enc : TypeId × Value → H) (w : World) (fuel : Nat) (cs : List Value) (x : DataW H × List MemPlace),
    DataW.trod enc P w 0 (fun _ => true) true fuel t cs = some x → ∃ a, d.K w a cs ∧ Wf a
variable {P : Program}
theorem opens_int {t : TypeId} {k : IntKind} (ht : P.underlying t = some (.int k)) : Opens P t (Kd.int k) (fun a => (Lit.int k a).wf = true) := by
  intro H enc w fuel cs x h
  obtain ⟨n, rfl, _, hw⟩ := DataW.trod_int ht h
  exact ⟨n, rfl, hw⟩
theorem opens_string {t : TypeId} (ht : P.underlying t = some .string) : Opens P t Kd.string (fun a => a.size ≤ maxLen) := by
  intro H enc w fuel cs x h
  obtain ⟨s, rfl, _, hw⟩ := DataW.trod_string ht h
  exact ⟨s, rfl, hw⟩
theorem pick {α : Type} {p : Nat → α → Prop} (z : α) : ∀ n, (∀ i, i < n → ∃ a, p i a) → ∃ xs : List α, xs.length = n ∧ ∀ i a, xs[i]? = some a → p i a
  | 0, _ => ⟨[], rfl, fun i a h => by simp at h⟩
  | n + 1, h => by
    obtain ⟨xs, hl, hx⟩ := pick z n (fun i hi => h i (by omega))
    obtain ⟨a, ha⟩ := h n (by omega)
    refine ⟨xs ++ [a], by simp [hl], fun i b hb => ?_⟩
    rcases Nat.lt_or_ge i xs.length with hi | hi
    · rw [List.getElem?_append_left hi] at hb
      exact hx i b hb
    · rw [List.getElem?_append_right hi] at hb
      have hi0 : i - xs.length = 0 := by
        have := (List.getElem?_eq_some_iff.1 hb).1
        simp at this
        omega
      rw [hi0] at hb
      simp at hb
      obtain rfl : i = n := by omega
      exact hb ▸ ha
theorem opens_slice {α : Type} {t e : TypeId} {d : Kd α} {Wf : α → Prop} (z : α) (ht : P.underlying t = some (.slice e)) (hc : P.cellsOf e = d.sz) (he : Opens P e d Wf) :
    Opens P t (Kd.slice e d) (fun xs => xs.length ≤ maxLen ∧ ∀ x ∈ xs, Wf x) := by
  intro H enc w fuel cs x h
  rcases open_slice ht h with ⟨rfl, _⟩ | ⟨a, len, cap, m, n, D, Pl, rfl, _, hl, hm, hmm, _, hx⟩
  · refine ⟨[], ⟨none, 0, rfl, Nat.le_refl _, rfl, ?_, fun h0 => absurd h0 (by simp)⟩, by simp [maxLen], fun x hx => by cases hx⟩
    exact Nat.zero_le _
  · have hmc : m = cap := by simp at hmm; exact hmm
    subst hmc
    obtain ⟨xs, hxl, hxs⟩ := pick (p := fun i b => (∃ cs', d.K w b cs' ∧ ∀ j u, cs'[j]? = some u → w.cell? (a.add (i * d.sz + j)) = some u) ∧ Wf b) z len (fun i hi => by
      obtain ⟨cs', h1, h2⟩ := hx i (by omega)
      obtain ⟨b, hb, hw⟩ := he H enc w n cs' _ h2
      rw [hc] at h1
      obtain ⟨_, hcl, hat⟩ := World.cells?_some h1
      refine ⟨b, ⟨cs', hb, fun j u hu => ?_⟩, hw⟩
      have hj := (List.getElem?_eq_some_iff.1 hu).1
      have := hat j (by omega)
      rw [hu] at this
      rw [← this, Go.Deep.add_add])
    subst hxl
    refine ⟨xs, ⟨some a, m, rfl, hl, rfl, ?_, fun _ => ⟨a, rfl, fun j p hj => ?_⟩⟩, by omega, fun b hb => ?_⟩
    · simp only [maxLen] at hm
      omega
    · obtain ⟨⟨cs', hk, hcell⟩, _⟩ := hxs j p hj
      exact ⟨cs', d.K_len hk, hk, hcell⟩
    · obtain ⟨i, hi⟩ := List.getElem?_of_mem hb
      exact (hxs i b hi).2
/-- Fields in line, from field j on. -/
def OpensF (P : Program) {α : Type} (fs : List Field) (d : Kd α) (Wf : α → Prop) : Prop :=
  ∀ (H : Type) (enc : TypeId × Value → H) (w : World) (n : Nat) (cs : List Value), cs.length = fs.length →
    (∀ (j : Nat) (f : Field), fs[j]? = some f → ∃ v y, cs[j]? = some v ∧ DataW.trod enc P w 0 (fun _ => true) true n f.type [v] = some y) → ∃ a, d.K w a cs ∧ Wf a
theorem opensF_last {α : Type} {f : Field} {d : Kd α} {Wf : α → Prop} (h : Opens P f.type d Wf) : OpensF P [f] d Wf := by
  intro H enc w n cs hl hf
  obtain ⟨v, y, hv, hy⟩ := hf 0 f rfl
  match cs, hl with
  | [v0], _ =>
    obtain rfl : v0 = v := by simpa using hv
    exact h H enc w n _ _ hy
theorem opensF_cons {α β : Type} {f : Field} {fs : List Field} {d : Kd α} {d' : Kd β} {Wf : α → Prop} {Wf' : β → Prop} (h : Opens P f.type d Wf) (h' : OpensF P fs d' Wf') :
    OpensF P (f :: fs) (Kd.pair d d') (fun p => Wf p.1 ∧ Wf' p.2) := by
  intro H enc w n cs hl hf
  match cs, hl with
  | v0 :: rest, hl =>
    obtain ⟨v, y, hv, hy⟩ := hf 0 f rfl
    obtain rfl : v0 = v := by simpa using hv
    obtain ⟨a, ha, hw⟩ := h H enc w n _ _ hy
    obtain ⟨b, hb, hw'⟩ := h' H enc w n rest (by simpa using hl) (fun j g hj => by
      obtain ⟨v, y, hv, hy⟩ := hf (j + 1) g (by simpa using hj)
      exact ⟨v, y, by simpa using hv, hy⟩)
    exact ⟨(a, b), ⟨[v0], rest, rfl, ha, hb⟩, hw, hw'⟩
theorem opens_struct {α β : Type} {t : TypeId} {fs : List Field} {d : Kd α} {Wf : α → Prop} (g : β → α) (gi : α → β) (hg : ∀ a, g (gi a) = a) (ht : P.underlying t = some (.struct fs.toArray)) (hone : oneCellFields P fs.toArray = true) (hC : P.cellsOf t = fs.length)
    (h : OpensF P fs d Wf) : Opens P t (Kd.iso d g) (fun b => Wf (g b)) := by
  intro H enc w fuel cs x hx
  obtain ⟨ys, n, _, _, hlen, hyl, hf⟩ := DataW.trod_struct ht hx
  obtain ⟨a, ha, hw⟩ := h H enc w n cs (by rw [hlen, hC]) (fun j f hj => by
    have hj' : (fs.toArray)[j]? = some f := by simpa using hj
    obtain ⟨ho, hk⟩ := hone_of hone j f hj'
    have hjl := (List.getElem?_eq_some_iff.1 hj).1
    have hcl : j < cs.length := by omega
    have h1 := hf j f hj'
    rw [ho, hk] at h1
    have hone' : (cs.drop j).take 1 = [cs[j]] := by
      rw [List.drop_eq_getElem_cons hcl]
      rfl
    rw [hone'] at h1
    have hys : j < ys.length := by rw [hyl]; simpa using hjl
    exact ⟨cs[j], ys[j], List.getElem?_eq_getElem hcl, by rw [h1, List.getElem?_eq_getElem hys]⟩)
  exact ⟨gi a, show d.K w (g (gi a)) cs by rw [hg]; exact ha, by show Wf (g (gi a)); rw [hg]; exact hw⟩
/-- An argument: its own cells. -/
theorem Opens.arg {α : Type} {t : TypeId} {d : Kd α} {Wf : α → Prop} (h : Opens P t d Wf) {H : Type} {enc : TypeId × Value → H} {w : World} {v : Value} {D : DataW H} {ps : List MemPlace}
    (ht : DataW.Trod enc P w 0 (fun _ => true) true t v D ps) : ∃ a, d.K w a v.cells.toList ∧ Wf a := by
  obtain ⟨fuel, hf⟩ := ht
  exact h H enc w fuel _ _ hf
end Go.Proofs.YtbebcnnibjkclaaDoor.Opens
