/- FnExactMissingPart: the program's MissingPart answers as the reference's does, at all arguments; no condition. -/
import Derived.Test.YtnffhpgchfbmhaaQx6
import Derived.Test.YtnffhpgchfbmhaaQx10
import Derived.Test.YtnffhpgchfbmhaaLembase
import Derived.Test.YtnffhpgchfbmhaaLemin
import Derived.Test.YtnffhpgchfbmhaaLemsumB
import Derived.Test.YtnffhpgchfbmhaaLemsumS
import Derived.Test.YtnffhpgchfbmhaaLemsumI
import Derived.Test.YtnffhpgchfbmhaaLemweighA
namespace Go.Proofs.Ytnffhpgchfbmhaa.Pure
open Go.RowKit Go.Proofs.Ytnffhpgchfbmhaa.Q Go.Proofs.YtnffhpgchfbmhaaW.PrintWords Go.Proofs.YtnffhpgchfbmhaaW.PrintLast Go.Proofs.YtnffhpgchfbmhaaW.PrintMore Go.Proofs.Ytnffhpgchfbmhaa.Lem
set_option linter.unusedVariables false
set_option linter.unusedSimpArgs false
theorem FnExactMissingPart : laws_FnExactMissingPart.Pure := by
  intro a b c f w _ _ _ _ _
  refine ⟨30, ?_⟩
  have e : laws_toDough.f a b c = some (a, b, c) := rfl
  simp only [laws_FnExactMissingPart.f, e, Option.bind_some, spec_MissingPart.f, partNo_spec a b c f w (-1) (.inr rfl) 30 (by omega), missing_impl a b c f w 30 (by omega)]
  simp

end Go.Proofs.Ytnffhpgchfbmhaa.Pure
