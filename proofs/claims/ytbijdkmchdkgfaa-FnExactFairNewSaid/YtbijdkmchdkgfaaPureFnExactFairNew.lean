/- The program's FairNew and the reference's answer alike, for every delta, and what is handed back is new memory. No condition. -/
import Derived.Test.YtbijdkmchdkgfaaPFnExactFairNewx
import Derived.Laws.BitsLemmas
namespace Go.Proofs.Ytbijdkmchdkgfaa.Pure
open Go.RowKit Go.Proofs.Ytbijdkmchdkgfaa.PFnExactFairNew Go.Proofs.YtbijdkmchdkgfaaW.PrintWords Go.Proofs.YtbijdkmchdkgfaaW.PrintLast Go.Proofs.YtbijdkmchdkgfaaW.PrintMore
set_option linter.unusedVariables false
set_option linter.unusedSimpArgs false

def EvP {α : Type} (g : Nat → Option α) (P : α → Prop) : Prop := ∃ r, Ev g r ∧ P r
theorem EvP.ret {α : Type} {r : α} {P : α → Prop} (h : P r) : EvP (fun _ => some r) P := ⟨r, Ev.now r, h⟩
theorem EvP.bind {α β : Type} {g : Nat → Option α} {f : Nat → α → Option β} {P : α → Prop} {Q : β → Prop} (h : EvP g P) (k : ∀ r, P r → EvP (fun n => f n r) Q) : EvP (fun n => (g n).bind (f n)) Q := by
  obtain ⟨r, hr, hp⟩ := h
  obtain ⟨q, hq, hQ⟩ := k r hp
  exact ⟨q, Ev.bind hr hq, hQ⟩
theorem EvP.ite {α : Type} {c : Prop} [Decidable c] {a b : Nat → Option α} {Q : α → Prop} (h : c → EvP a Q) (h' : ¬ c → EvP b Q) : EvP (fun n => if c then a n else b n) Q := by
  by_cases hc : c
  · simp only [if_pos hc]; exact h hc
  · simp only [if_neg hc]; exact h' hc
theorem EvP.yes {α : Type} {c : Prop} [Decidable c] {a b : Nat → Option α} {Q : α → Prop} (hc : c) (h : EvP a Q) : EvP (fun n => if c then a n else b n) Q := by
  simp only [if_pos hc]; exact h
theorem EvP.no {α : Type} {c : Prop} [Decidable c] {a b : Nat → Option α} {Q : α → Prop} (hc : ¬ c) (h : EvP b Q) : EvP (fun n => if c then a n else b n) Q := by
  simp only [if_neg hc]; exact h
theorem EvP.step {α : Type} {g : Nat → Option α} {Q : α → Prop} (h : EvP (fun k => g (k + 1)) Q) : EvP g Q := by
  obtain ⟨r, hr, hq⟩ := h
  exact ⟨r, Ev.step (fun _ => rfl) hr, hq⟩
theorem EvP.rounds {α : Type} {g : Nat → Option α} {r : α} (h : EvP g (fun x => x = r)) : ∃ k, g k = some r := by
  obtain ⟨q, hq, rfl⟩ := h
  exact hq.rounds
theorem specDelta_ok (a : Int) : EvP (fun _ => spec_l13Delta.f a) (fun r => r = true ↔ 0 ≤ a ∧ a ≤ 10000000) := by
  unfold spec_l13Delta.f
  refine EvP.ite (fun h => EvP.ret ?_) (fun h => EvP.ret ⟨(fun h => by cases h), fun z => by omega⟩)
  rw [decide_eq_true_iff]; omega
theorem within_ev (a b c : Int) : EvP (fun _ => impl_within.f a b c) (fun r => r = true ↔ b ≤ a ∧ a ≤ c) := by
  unfold impl_within.f
  refine EvP.ite (fun h => EvP.ret ?_) (fun h => EvP.ret ⟨(fun h => by cases h), fun z => by omega⟩)
  rw [decide_eq_true_iff]; omega
theorem implDelta_ok (a : Int) : EvP (fun _ => impl_isDelta.f a) (fun r => r = true ↔ 0 ≤ a ∧ a ≤ 10000000) := by
  unfold impl_isDelta.f
  exact EvP.bind (within_ev a _ _) (fun r h => EvP.ret h)

theorem eqFairNil (a b c d : Int) : EvP (fun k => laws_eqFair.f k a b c d [] a b c d []) (fun r => r = true) := by
  unfold laws_eqFair.f laws_eqVec.f
  refine EvP.yes rfl ?_
  refine EvP.bind (P := fun r => r = true) (EvP.yes rfl (EvP.yes rfl (EvP.yes rfl (EvP.ret rfl)))) ?_
  rintro _ rfl
  refine EvP.yes (by simp) ?_
  refine EvP.bind (P := fun r => r = true) ?_ ?_
  · unfold laws_eqKidS.f
    refine EvP.yes rfl (EvP.step ?_)
    simp only [laws_eqKidS.l0]
    exact EvP.no (by simp) (EvP.ret rfl)
  · rintro _ rfl
    exact EvP.yes (by simp) (EvP.ret rfl)
theorem FnExactFairNew : laws_FnExactFairNew.Pure := by
  intro a _
  refine EvP.rounds ?_
  have both : ∃ d, EvP (fun _ => spec_FairNew.f a) (fun r => r = (d, 0, 0, 0, [])) ∧ EvP (fun _ => impl_FairNew.f a) (fun r => r = (d, 0, 0, 0, [])) := by
    by_cases h : 0 ≤ a ∧ a ≤ 10000000
    · refine ⟨a, ?_, ?_⟩
      · unfold spec_FairNew.f
        exact EvP.bind (specDelta_ok a) (fun t ht => EvP.yes (ht.2 h) (EvP.ret rfl))
      · unfold impl_FairNew.f
        exact EvP.bind (implDelta_ok a) (fun t ht => EvP.yes (ht.2 h) (EvP.ret rfl))
    · refine ⟨0, ?_, ?_⟩
      · unfold spec_FairNew.f
        exact EvP.bind (specDelta_ok a) (fun t ht => EvP.no (fun g => h (ht.1 g)) (EvP.ret rfl))
      · unfold impl_FairNew.f
        exact EvP.bind (implDelta_ok a) (fun t ht => EvP.no (fun g => h (ht.1 g)) (EvP.ret rfl))
  obtain ⟨d, hs, hi⟩ := both
  have held : EvP (fun k => laws_heldFair.f k d 0 0 0 [] 1) (fun r => r = 1) := by
    unfold laws_heldFair.f laws_heldKidS.f
    refine EvP.bind (P := fun r => r = 1) (EvP.step ?_) ?_
    · simp only [laws_heldKidS.l0]
      exact EvP.no (by simp) (EvP.ret rfl)
    · rintro _ rfl
      exact EvP.no (by omega) (EvP.ret rfl)
  unfold laws_FnExactFairNew.f
  refine EvP.bind hs ?_
  rintro _ rfl
  refine EvP.bind hi ?_
  rintro _ rfl
  refine EvP.bind (eqFairNil d 0 0 0) ?_
  rintro _ rfl
  refine EvP.yes (by simp) ?_
  refine EvP.bind (P := fun r => r = (1, [])) ?_ ?_
  · unfold laws_markFair.f laws_markKidS.f
    refine EvP.bind (P := fun r => r = (1, [])) (EvP.step ?_) ?_
    · simp only [laws_markKidS.l0]
      exact EvP.no (by simp) (EvP.ret rfl)
    · rintro _ rfl
      exact EvP.ret rfl
  rintro _ rfl
  refine EvP.bind held ?_
  rintro _ rfl
  refine EvP.no (by omega) (EvP.yes rfl (EvP.bind hi ?_))
  rintro _ rfl
  refine EvP.bind (eqFairNil d 0 0 0) ?_
  rintro _ rfl
  refine EvP.yes (by simp) (EvP.bind held ?_)
  rintro _ rfl
  exact EvP.no (by omega) (EvP.yes rfl (EvP.ret rfl))

end Go.Proofs.Ytbijdkmchdkgfaa.Pure
