/- FnExactHalfCut: the program's HalfCut answers as the reference's does, at all arguments; no condition. -/
import Derived.Test.YtfalckmlbiiedaaQx15
import Derived.Test.YtfalckmlbiiedaaLembase
import Derived.Test.YtfalckmlbiiedaaLemin
import Derived.Test.YtfalckmlbiiedaaLemints
import Derived.Test.YtfalckmlbiiedaaLemcakeA
import Derived.Test.YtfalckmlbiiedaaLemsumS
import Derived.Test.YtfalckmlbiiedaaLemsumI
import Derived.Test.YtfalckmlbiiedaaLemcakeB
namespace Go.Proofs.Ytfalckmlbiiedaa.Pure
open Go.RowKit Go.Proofs.Ytfalckmlbiiedaa.Q Go.Proofs.YtfalckmlbiiedaaW.PrintWords Go.Proofs.YtfalckmlbiiedaaW.PrintLast Go.Proofs.YtfalckmlbiiedaaW.PrintMore Go.Proofs.Ytfalckmlbiiedaa.Lem
set_option linter.unusedVariables false
set_option linter.unusedSimpArgs false
theorem FnExactHalfCut : laws_FnExactHalfCut.Pure := by
  intro l ⟨hl, _⟩
  refine ⟨2 * l.length + 9 + 1, ?_⟩
  unfold laws_FnExactHalfCut.f
  by_cases hb : (l.length : Int) > 1048576
  · rw [if_pos hb]
  rw [if_neg hb]
  simp only [toIntS_ok l (2 * l.length + 9 + 1) (by omega) (by omega), Option.bind_some, half_spec l (2 * l.length + 9 + 1) (by omega) (by omega), half_impl l (2 * l.length + 9 + 1) (by omega) (by omega)]
  simp only [laws_FnExactHalfCut.j0, toIntS_ok l (2 * l.length + 9) (by omega) (by omega), Option.bind_some, eqIntS_self l (2 * l.length + 9) (by omega) (by omega)]
  simp

end Go.Proofs.Ytfalckmlbiiedaa.Pure
