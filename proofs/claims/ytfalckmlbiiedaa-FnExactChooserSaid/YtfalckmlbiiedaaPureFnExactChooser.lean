/- FnExactChooser: the program's Chooser answers as the reference's does, at all arguments; no condition. -/
import Derived.Test.YtfalckmlbiiedaaQx20
import Derived.Test.YtfalckmlbiiedaaLembase
import Derived.Test.YtfalckmlbiiedaaLemin
import Derived.Test.YtfalckmlbiiedaaLemints
import Derived.Test.YtfalckmlbiiedaaLemcakeA
import Derived.Test.YtfalckmlbiiedaaLemsumS
import Derived.Test.YtfalckmlbiiedaaLemsumI
import Derived.Test.YtfalckmlbiiedaaLemcakeB
import Derived.Test.YtfalckmlbiiedaaLemcakeC
namespace Go.Proofs.Ytfalckmlbiiedaa.Pure
open Go.RowKit Go.Proofs.Ytfalckmlbiiedaa.Q Go.Proofs.YtfalckmlbiiedaaW.PrintWords Go.Proofs.YtfalckmlbiiedaaW.PrintLast Go.Proofs.YtfalckmlbiiedaaW.PrintMore Go.Proofs.Ytfalckmlbiiedaa.Lem
set_option linter.unusedVariables false
set_option linter.unusedSimpArgs false
theorem FnExactChooser : laws_FnExactChooser.Pure := by
  intro m y ⟨hm, _⟩ ⟨hy, _⟩
  refine ⟨2 * m.length + 2 * y.length + 17 + 1, ?_⟩
  unfold laws_FnExactChooser.f
  by_cases hb : (m.length : Int) > 1048576
  · rw [if_pos hb]
  rw [if_neg hb]
  by_cases hc : (y.length : Int) > 1048576
  · rw [if_pos hc]
  rw [if_neg hc]
  simp only [toIntS_ok m (2 * m.length + 2 * y.length + 17 + 1) (by omega) (by omega), toIntS_ok y (2 * m.length + 2 * y.length + 17 + 1) (by omega) (by omega), Option.bind_some, choose_spec m y (2 * m.length + 2 * y.length + 17 + 1) (by omega) (by omega) (by omega), choose_impl m y (2 * m.length + 2 * y.length + 17 + 1) (by omega) (by omega) (by omega)]
  simp only [laws_FnExactChooser.j0, toIntS_ok m (2 * m.length + 2 * y.length + 17) (by omega) (by omega), toIntS_ok y (2 * m.length + 2 * y.length + 17) (by omega) (by omega), Option.bind_some, eqIntS_self m (2 * m.length + 2 * y.length + 17) (by omega) (by omega), eqIntS_self y (2 * m.length + 2 * y.length + 17) (by omega) (by omega)]
  simp

end Go.Proofs.Ytfalckmlbiiedaa.Pure
