/- FnExactCanTell: the program's CanTell answers as the reference's does, at all arguments; no condition. -/
import Derived.Test.YtnffhpgchfbmhaaQx6
import Derived.Test.YtnffhpgchfbmhaaQx29
import Derived.Test.YtnffhpgchfbmhaaLembase
import Derived.Test.YtnffhpgchfbmhaaLemin
import Derived.Test.YtnffhpgchfbmhaaLemsumB
import Derived.Test.YtnffhpgchfbmhaaLemsumS
import Derived.Test.YtnffhpgchfbmhaaLemsumI
import Derived.Test.YtnffhpgchfbmhaaLemweighA
import Derived.Test.YtnffhpgchfbmhaaLemsortA
import Derived.Test.YtnffhpgchfbmhaaLemweighB
namespace Go.Proofs.Ytnffhpgchfbmhaa.Pure
open Go.RowKit Go.Proofs.Ytnffhpgchfbmhaa.Q Go.Proofs.YtnffhpgchfbmhaaW.PrintWords Go.Proofs.YtnffhpgchfbmhaaW.PrintLast Go.Proofs.YtnffhpgchfbmhaaW.PrintMore Go.Proofs.Ytnffhpgchfbmhaa.Lem
set_option linter.unusedVariables false
set_option linter.unusedSimpArgs false
theorem FnExactCanTell : laws_FnExactCanTell.Pure := by
  intro a b c f _ _ _ _
  refine ⟨100, ?_⟩
  have e : laws_toDough.f a b c = some (a, b, c) := rfl
  simp only [laws_FnExactCanTell.f, e, Option.bind_some, can_spec a b c f 100 (by omega), can_impl a b c f 100 (by omega)]
  simp

end Go.Proofs.Ytnffhpgchfbmhaa.Pure
