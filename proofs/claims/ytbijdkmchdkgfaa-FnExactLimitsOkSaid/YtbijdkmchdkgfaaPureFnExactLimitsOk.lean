/- The program's LimitsOk and the reference's answer alike, for every argument. No condition. -/
import Derived.Test.YtbijdkmchdkgfaaPFnExactLimitsOkx1
import Derived.Laws.BitsLemmas
namespace Go.Proofs.Ytbijdkmchdkgfaa.Pure
open Go.RowKit Go.Proofs.Ytbijdkmchdkgfaa.PFnExactLimitsOk Go.Proofs.YtbijdkmchdkgfaaW.PrintWords Go.Proofs.YtbijdkmchdkgfaaW.PrintLast Go.Proofs.YtbijdkmchdkgfaaW.PrintMore
set_option linter.unusedVariables false
set_option linter.unusedSimpArgs false

theorem some_no {P : Prop} [Decidable P] (h : ¬ P) : (some false : Option Bool) = some (decide P) := by rw [decide_eq_false h]
theorem some_iff {P Q : Prop} [Decidable P] [Decidable Q] (h : Q ↔ P) : (some (decide Q) : Option Bool) = some (decide P) := by rw [decide_eq_decide.2 h]
theorem within_ok (a b c : Int) : impl_within.f a b c = some (decide (b ≤ a ∧ a ≤ c)) := by
  unfold impl_within.f
  split
  · exact some_iff (by omega)
  · exact some_no (by omega)

def Lim (a b c d : Int) : Prop := (1 ≤ a ∧ a ≤ 64) ∧ (1 ≤ b ∧ b ≤ 100000) ∧ (1 ≤ c ∧ c ≤ 1000000) ∧ (0 ≤ d ∧ d ≤ 100000)
instance (a b c d : Int) : Decidable (Lim a b c d) := by unfold Lim; infer_instance
theorem spec_lim (a b c d : Int) (e : Bool) : spec_LimitsOk.f a b c d e = some (decide (Lim a b c d)) := by
  unfold spec_LimitsOk.f
  repeat' split
  all_goals first | (apply some_iff; unfold Lim; omega) | (apply some_no; unfold Lim; omega)
theorem impl_lim (a b c d : Int) (e : Bool) : impl_LimitsOk.f a b c d e = some (decide (Lim a b c d)) := by
  unfold impl_LimitsOk.f
  simp only [within_ok, Option.bind_some, decide_eq_true_eq]
  repeat' split
  all_goals first | (apply some_iff; unfold Lim; omega) | (apply some_no; unfold Lim; omega)
theorem FnExactLimitsOk : laws_FnExactLimitsOk.Pure := by
  intro a b c d e _
  unfold laws_FnExactLimitsOk.f laws_toLimits.f
  simp only [Option.bind_some, spec_lim, impl_lim]
  simp

end Go.Proofs.Ytbijdkmchdkgfaa.Pure
