/- Plain lemmas on the printed functions: what they compute; conditions stand in each lemma. -/
import Derived.Test.YtekcdkefomkgdaaQx1
import Derived.Test.YtekcdkefomkgdaaQx4
import Derived.Test.YtekcdkefomkgdaaLembase
namespace Go.Proofs.Ytekcdkefomkgdaa.Lem
open Go.RowKit Go.Proofs.Ytekcdkefomkgdaa.Q Go.Proofs.YtekcdkefomkgdaaW.PrintWords Go.Proofs.YtekcdkefomkgdaaW.PrintLast Go.Proofs.YtekcdkefomkgdaaW.PrintMore Go.Proofs.Ytekcdkefomkgdaa.Lem
set_option linter.unusedVariables false
set_option linter.unusedSimpArgs false
theorem in_spec (a b c : Int) : spec_l01In.f a b c = some (decide (b ≤ a ∧ a ≤ c)) := by
  unfold spec_l01In.f
  by_cases h : b ≤ a <;> simp [h]
theorem in_impl (a b c : Int) : impl_in.f a b c = some (decide (b ≤ a ∧ a ≤ c)) := by
  unfold impl_in.f
  by_cases h : b ≤ a <;> simp [h]

end Go.Proofs.Ytekcdkefomkgdaa.Lem
