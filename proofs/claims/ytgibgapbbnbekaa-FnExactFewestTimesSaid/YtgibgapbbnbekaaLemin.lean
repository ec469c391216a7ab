/- Plain lemmas on the printed functions: what they compute; conditions stand in each lemma. -/
import Derived.Test.YtgibgapbbnbekaaQx1
import Derived.Test.YtgibgapbbnbekaaLembase
namespace Go.Proofs.Ytgibgapbbnbekaa.Lem
open Go.RowKit Go.Proofs.Ytgibgapbbnbekaa.Q Go.Proofs.YtgibgapbbnbekaaW.PrintWords Go.Proofs.YtgibgapbbnbekaaW.PrintLast Go.Proofs.YtgibgapbbnbekaaW.PrintMore Go.Proofs.Ytgibgapbbnbekaa.Lem
set_option linter.unusedVariables false
set_option linter.unusedSimpArgs false
theorem in_spec (a b c : Int) : spec_l01In.f a b c = some (decide (b ≤ a ∧ a ≤ c)) := by
  unfold spec_l01In.f
  by_cases h : b ≤ a <;> simp [h]
theorem in_impl (a b c : Int) : impl_in.f a b c = some (decide (b ≤ a ∧ a ≤ c)) := by
  unfold impl_in.f
  by_cases h : b ≤ a <;> simp [h]

end Go.Proofs.Ytgibgapbbnbekaa.Lem
