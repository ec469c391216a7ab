/- FnExactLeastStrips: the program's LeastStrips answers as the reference's does, at all arguments; no condition. -/
import Derived.Test.YtcjbdbbnbhobbaaQx16
import Derived.Test.YtcjbdbbnbhobbaaLembase
import Derived.Test.YtcjbdbbnbhobbaaLemin
import Derived.Test.YtcjbdbbnbhobbaaLemints
import Derived.Test.YtcjbdbbnbhobbaaLemsheetsA
import Derived.Test.YtcjbdbbnbhobbaaLemsheetsB
import Derived.Test.YtcjbdbbnbhobbaaLemsheetsC
namespace Go.Proofs.Ytcjbdbbnbhobbaa.Pure
open Go.RowKit Go.Proofs.Ytcjbdbbnbhobbaa.Q Go.Proofs.YtcjbdbbnbhobbaaW.PrintWords Go.Proofs.YtcjbdbbnbhobbaaW.PrintLast Go.Proofs.YtcjbdbbnbhobbaaW.PrintMore Go.Proofs.Ytcjbdbbnbhobbaa.Lem
set_option linter.unusedVariables false
set_option linter.unusedSimpArgs false
theorem FnExactLeastStrips : laws_FnExactLeastStrips.Pure := by
  intro l s ⟨hl, _⟩ _
  refine ⟨2 * l.length + 3, ?_⟩
  unfold laws_FnExactLeastStrips.f
  by_cases hb : (l.length : Int) > 1048576
  · rw [if_pos hb]
  rw [if_neg hb]
  simp only [toIntS_ok l (2 * l.length + 3) (by omega) (by omega), Option.bind_some, least_spec l s (2 * l.length + 3) (by omega) (by omega), least_impl l s (2 * l.length + 3) (by omega) (by omega), eqIntS_self l (2 * l.length + 3) (by omega) (by omega)]
  simp

end Go.Proofs.Ytcjbdbbnbhobbaa.Pure
