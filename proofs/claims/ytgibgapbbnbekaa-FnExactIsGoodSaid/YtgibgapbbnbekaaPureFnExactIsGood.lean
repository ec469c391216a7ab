/- FnExactIsGood: the program's IsGood answers as the reference's does, at all arguments; no condition. -/
import Derived.Test.YtgibgapbbnbekaaQx1
import Derived.Test.YtgibgapbbnbekaaQx2
import Derived.Test.YtgibgapbbnbekaaLembase
import Derived.Test.YtgibgapbbnbekaaLemin
import Derived.Test.YtgibgapbbnbekaaLemthawA
namespace Go.Proofs.Ytgibgapbbnbekaa.Pure
open Go.RowKit Go.Proofs.Ytgibgapbbnbekaa.Q Go.Proofs.YtgibgapbbnbekaaW.PrintWords Go.Proofs.YtgibgapbbnbekaaW.PrintLast Go.Proofs.YtgibgapbbnbekaaW.PrintMore Go.Proofs.Ytgibgapbbnbekaa.Lem
set_option linter.unusedVariables false
set_option linter.unusedSimpArgs false
theorem FnExactIsGood : laws_FnExactIsGood.Pure := by
  intro a b o n _ _ _ _
  simp [laws_FnExactIsGood.f, laws_toFrozen.f, isGood_spec, isGood_impl]

end Go.Proofs.Ytgibgapbbnbekaa.Pure
