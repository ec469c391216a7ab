/- FnExactLengthsOk: the program's LengthsOk answers as the reference's does, at all arguments; no condition. -/
import Derived.Test.YtcjbdbbnbhobbaaQx5
import Derived.Test.YtcjbdbbnbhobbaaLembase
import Derived.Test.YtcjbdbbnbhobbaaLemin
import Derived.Test.YtcjbdbbnbhobbaaLemints
import Derived.Test.YtcjbdbbnbhobbaaLemsheetsA
namespace Go.Proofs.Ytcjbdbbnbhobbaa.Pure
open Go.RowKit Go.Proofs.Ytcjbdbbnbhobbaa.Q Go.Proofs.YtcjbdbbnbhobbaaW.PrintWords Go.Proofs.YtcjbdbbnbhobbaaW.PrintLast Go.Proofs.YtcjbdbbnbhobbaaW.PrintMore Go.Proofs.Ytcjbdbbnbhobbaa.Lem
set_option linter.unusedVariables false
set_option linter.unusedSimpArgs false
theorem FnExactLengthsOk : laws_FnExactLengthsOk.Pure := by
  intro l s ⟨hl, _⟩ _
  refine ⟨l.length + 1, ?_⟩
  unfold laws_FnExactLengthsOk.f
  by_cases hb : (l.length : Int) > 1048576
  · rw [if_pos hb]
  rw [if_neg hb]
  simp only [toIntS_ok l (l.length + 1) (by omega) (by omega), Option.bind_some, lens_spec l s (l.length + 1) (by omega) (by omega), lens_impl, eqIntS_self l (l.length + 1) (by omega) (by omega)]
  simp

end Go.Proofs.Ytcjbdbbnbhobbaa.Pure
