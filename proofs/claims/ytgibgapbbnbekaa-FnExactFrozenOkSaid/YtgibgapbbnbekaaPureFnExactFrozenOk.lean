/- FnExactFrozenOk: the program's FrozenOk answers as the reference's does, at all arguments; no condition. -/
import Derived.Test.YtgibgapbbnbekaaQx1
import Derived.Test.YtgibgapbbnbekaaLembase
import Derived.Test.YtgibgapbbnbekaaLemin
import Derived.Test.YtgibgapbbnbekaaLemthawA
namespace Go.Proofs.Ytgibgapbbnbekaa.Pure
open Go.RowKit Go.Proofs.Ytgibgapbbnbekaa.Q Go.Proofs.YtgibgapbbnbekaaW.PrintWords Go.Proofs.YtgibgapbbnbekaaW.PrintLast Go.Proofs.YtgibgapbbnbekaaW.PrintMore Go.Proofs.Ytgibgapbbnbekaa.Lem
set_option linter.unusedVariables false
set_option linter.unusedSimpArgs false
theorem FnExactFrozenOk : laws_FnExactFrozenOk.Pure := by
  intro a b _ _
  simp [laws_FnExactFrozenOk.f, laws_toFrozen.f, frozen_spec, frozen_impl]

end Go.Proofs.Ytgibgapbbnbekaa.Pure
