/- FnExactCakeOk: the program's CakeOk answers as the reference's does, at all arguments; no condition. -/
import Derived.Test.YtfalckmlbiiedaaQx13
import Derived.Test.YtfalckmlbiiedaaLembase
import Derived.Test.YtfalckmlbiiedaaLemin
import Derived.Test.YtfalckmlbiiedaaLemints
import Derived.Test.YtfalckmlbiiedaaLemcakeA
namespace Go.Proofs.Ytfalckmlbiiedaa.Pure
open Go.RowKit Go.Proofs.Ytfalckmlbiiedaa.Q Go.Proofs.YtfalckmlbiiedaaW.PrintWords Go.Proofs.YtfalckmlbiiedaaW.PrintLast Go.Proofs.YtfalckmlbiiedaaW.PrintMore Go.Proofs.Ytfalckmlbiiedaa.Lem
set_option linter.unusedVariables false
set_option linter.unusedSimpArgs false
theorem FnExactCakeOk : laws_FnExactCakeOk.Pure := by
  intro l ⟨hl, _⟩
  refine ⟨l.length + 1, ?_⟩
  unfold laws_FnExactCakeOk.f
  by_cases hb : (l.length : Int) > 1048576
  · rw [if_pos hb]
  rw [if_neg hb]
  simp only [toIntS_ok l (l.length + 1) (by omega) (by omega), Option.bind_some, cake_spec l (l.length + 1) (by omega) (by omega), cake_impl, eqIntS_self l (l.length + 1) (by omega) (by omega)]
  simp

end Go.Proofs.Ytfalckmlbiiedaa.Pure
