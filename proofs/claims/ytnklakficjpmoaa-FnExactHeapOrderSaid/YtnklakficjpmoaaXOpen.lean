/- Arguments that are structs, slices of structs and the like, opened: a reading of a type tells a value of its kind. Plain theorems, no condition. -/
import Derived.Test.YtnklakficjpmoaaWWords
import Derived.ChangeArms
import Derived.Deep.Slices
namespace Go.Proofs.YtnklakficjpmoaaX
open Go.ChangeShapes Go.WideShapes Go.Deep Go.Proofs.YtnklakficjpmoaaW.PrintWords
set_option linter.unusedVariables false

/-- Whatever is read as type t is a value of kind d. -/
def Opens (P : Program) (t : TypeId) {α : Type} (d : Kd α) (wf : α → Prop) : Prop :=
  ∀ (H : Type) (enc : TypeId × Value → H) (w : World) (fuel : Nat) (cs : List Value) (x : DataW H × List MemPlace),
    DataW.trod enc P w 0 (fun _ => true) true fuel t cs = some x → ∃ a : α, d.K w a cs ∧ wf a
theorem Opens.int {P : Program} {t : TypeId} {k : IntKind} (ht : P.underlying t = some (.int k)) : Opens P t (Kd.int k) (fun n => (Lit.int k n).wf = true) := by
  intro H enc w fuel cs x h
  obtain ⟨n, rfl, _, hw⟩ := DataW.trod_int ht h
  exact ⟨n, rfl, hw⟩
theorem Opens.bool {P : Program} {t : TypeId} (ht : P.underlying t = some .bool) : Opens P t Kd.bool (fun _ => True) := by
  intro H enc w fuel cs x h
  obtain ⟨b, rfl, _⟩ := DataW.trod_bool ht h
  exact ⟨b, rfl, trivial⟩
theorem Opens.string {P : Program} {t : TypeId} (ht : P.underlying t = some .string) : Opens P t Kd.string (fun s => s.size ≤ maxLen) := by
  intro H enc w fuel cs x h
  obtain ⟨s, rfl, _, hw⟩ := DataW.trod_string ht h
  exact ⟨s, rfl, hw⟩
theorem list_of {α : Type} (z : α) {n : Nat} {R : Nat → α → Prop} (h : ∀ i, i < n → ∃ y, R i y) : ∃ xs : List α, xs.length = n ∧ ∀ i y, xs[i]? = some y → R i y := by
  induction n with
  | zero => exact ⟨[], rfl, fun i y hy => by simp at hy⟩
  | succ n ih =>
    obtain ⟨xs, hl, hx⟩ := ih (fun i hi => h i (by omega))
    obtain ⟨y, hy⟩ := h n (by omega)
    refine ⟨xs ++ [y], by rw [List.length_append, hl]; rfl, fun i u hu => ?_⟩
    by_cases hi : i < xs.length
    · rw [List.getElem?_append_left hi] at hu
      exact hx i u hu
    · rw [List.getElem?_append_right (by omega)] at hu
      have h0 : i - xs.length = 0 := by
        rcases Nat.eq_zero_or_pos (i - xs.length) with h0 | h0
        · exact h0
        · rw [List.getElem?_eq_none (by simp; omega)] at hu; cases hu
      rw [h0] at hu
      obtain rfl : y = u := by simpa using hu
      obtain rfl : i = n := by omega
      exact hy
theorem Opens.slice {P : Program} {t e : TypeId} {α : Type} {d : Kd α} {wf : α → Prop} (ht : P.underlying t = some (.slice e)) (hc : P.cellsOf e = d.sz) (z : α) (ho : Opens P e d wf) :
    Opens P t (Kd.slice e d) (fun xs => xs.length ≤ maxLen ∧ ∀ y ∈ xs, wf y) := by
  intro H enc w fuel cs x h
  rcases open_slice ht h with ⟨rfl, _⟩ | ⟨a, len, cap, m, n, D, Pl, rfl, _, hl, hm, hmm, _, hi⟩
  · exact ⟨[], ⟨none, 0, rfl, Nat.le_refl _, rfl, by simp, fun h0 => absurd h0 (by simp)⟩, by simp, by simp⟩
  · have hmm' : m = cap := by simpa using hmm
    subst hmm'
    obtain ⟨xs, hxl, hx⟩ := list_of z (n := len) (R := fun i y => ∃ c, c.length = d.sz ∧ d.K w y c ∧ wf y ∧ ∀ j u, c[j]? = some u → w.cell? (a.add (i * d.sz + j)) = some u) (fun i hlt => by
      obtain ⟨cs', hcs, hrd⟩ := hi i (by omega)
      obtain ⟨y, hK, hw⟩ := ho H enc w n cs' _ hrd
      obtain ⟨_, hcl, hat⟩ := World.cells?_some hcs
      rw [hc] at hcl hat
      refine ⟨y, cs', hcl, hK, hw, fun j u hu => ?_⟩
      have hj : j < cs'.length := (List.getElem?_eq_some_iff.1 hu).1
      rw [← Go.Deep.add_add, hat j (by omega)]
      exact hu)
    subst hxl
    refine ⟨xs, ⟨some a, m, rfl, hl, rfl, ?_, fun _ => ⟨a, rfl, fun j p hp => ?_⟩⟩, by simp only [maxLen] at *; omega, fun y hy => ?_⟩
    · simp only [maxLen] at hm; omega
    · obtain ⟨c, h1, h2, _, h4⟩ := hx j p hp
      exact ⟨c, h1, h2, h4⟩
    · obtain ⟨i, hi', rfl⟩ := List.getElem_of_mem hy
      obtain ⟨c, _, _, h3, _⟩ := hx i _ (List.getElem?_eq_getElem hi')
      exact h3
/-- The same of a struct's fields from the offset o on. -/
def OpensF (P : Program) (o : Nat) (fs : List Field) {α : Type} (d : Kd α) (wf : α → Prop) : Prop :=
  ∀ (H : Type) (enc : TypeId × Value → H) (w : World) (n : Nat) (cs : List Value), cs.length = d.sz →
    (∀ (i : Nat) (f : Field), fs[i]? = some f → ∃ y, DataW.trod enc P w 0 (fun _ => true) true n f.type ((cs.drop (f.offset - o)).take (P.cellsOf f.type)) = some y) → ∃ a : α, d.K w a cs ∧ wf a
theorem OpensF.one {P : Program} {o : Nat} {f : Field} {α : Type} {d : Kd α} {wf : α → Prop} (hf : f.offset = o) (hc : P.cellsOf f.type = d.sz) (h : Opens P f.type d wf) : OpensF P o [f] d wf := by
  intro H enc w n cs hl hr
  obtain ⟨y, hy⟩ := hr 0 f rfl
  rw [hf, Nat.sub_self, List.drop_zero, hc, List.take_of_length_le (by omega)] at hy
  exact h H enc w n cs y hy
theorem OpensF.cons {P : Program} {o : Nat} {f : Field} {fs : List Field} {α β : Type} {d : Kd α} {d' : Kd β} {wf : α → Prop} {wf' : β → Prop} (hf : f.offset = o) (hc : P.cellsOf f.type = d.sz) (h : Opens P f.type d wf)
    (hs : ∀ g ∈ fs, o + d.sz ≤ g.offset) (h' : OpensF P (o + d.sz) fs d' wf') : OpensF P o (f :: fs) (Kd.pair d d') (fun p => wf p.1 ∧ wf' p.2) := by
  intro H enc w n cs hl hr
  have hl : cs.length = d.sz + d'.sz := hl
  obtain ⟨y, hy⟩ := hr 0 f rfl
  rw [hf, Nat.sub_self, List.drop_zero, hc] at hy
  obtain ⟨a, hK, hw⟩ := h H enc w n _ y hy
  obtain ⟨b, hK', hw'⟩ := h' H enc w n (cs.drop d.sz) (by rw [List.length_drop]; omega) (fun i g hg => by
    obtain ⟨y, hy⟩ := hr (i + 1) g hg
    have hm := hs g (List.mem_of_getElem? hg)
    refine ⟨y, ?_⟩
    rw [List.drop_drop, show d.sz + (g.offset - (o + d.sz)) = g.offset - o by omega]
    exact hy)
  exact ⟨(a, b), ⟨_, _, (List.take_append_drop d.sz cs).symm, hK, hK'⟩, hw, hw'⟩
theorem Opens.struct {P : Program} {t : TypeId} {fs : Array Field} {α : Type} {d : Kd α} {wf : α → Prop} (ht : P.underlying t = some (.struct fs)) (hc : P.cellsOf t = d.sz) (h : OpensF P 0 fs.toList d wf) : Opens P t d wf := by
  intro H enc w fuel cs x hx
  obtain ⟨xs, n, _, _, hl, hxl, hf⟩ := DataW.trod_struct ht hx
  refine h H enc w n cs (hl.trans hc) (fun i f hi => ?_)
  have hi' : fs[i]? = some f := by rw [← hi]; simp
  have hlt : i < fs.size := (Array.getElem?_eq_some_iff.1 hi').1
  have := hf i f hi'
  rw [Nat.sub_zero]
  exact ⟨xs[i]'(by omega), this.trans (List.getElem?_eq_getElem (by omega))⟩
theorem Opens.iso {P : Program} {t : TypeId} {α β : Type} {d : Kd α} {wf : α → Prop} {f : β → α} (g : α → β) (hg : ∀ y, f (g y) = y) (h : Opens P t d wf) : Opens P t (Kd.iso d f) (fun x => wf (f x)) := by
  intro H enc w fuel cs x hx
  obtain ⟨a, hK, hw⟩ := h H enc w fuel cs x hx
  exact ⟨g a, by show d.K w (f (g a)) cs; rw [hg]; exact hK, by show wf (f (g a)); rw [hg]; exact hw⟩
theorem cells_eq {cs : Array Value} {l : List Value} (h : cs.toList = l) : cs = l.toArray := by rw [← h]
end Go.Proofs.YtnklakficjpmoaaX
