/- FnExactWasteOf: the program's WasteOf answers as the reference's does, at all arguments; no condition. -/
import Derived.Test.YtcjbdbbnbhobbaaQx14
import Derived.Test.YtcjbdbbnbhobbaaLembase
import Derived.Test.YtcjbdbbnbhobbaaLemin
import Derived.Test.YtcjbdbbnbhobbaaLemints
import Derived.Test.YtcjbdbbnbhobbaaLemsheetsA
import Derived.Test.YtcjbdbbnbhobbaaLemsheetsB
namespace Go.Proofs.Ytcjbdbbnbhobbaa.Pure
open Go.RowKit Go.Proofs.Ytcjbdbbnbhobbaa.Q Go.Proofs.YtcjbdbbnbhobbaaW.PrintWords Go.Proofs.YtcjbdbbnbhobbaaW.PrintLast Go.Proofs.YtcjbdbbnbhobbaaW.PrintMore Go.Proofs.Ytcjbdbbnbhobbaa.Lem
set_option linter.unusedVariables false
set_option linter.unusedSimpArgs false
theorem FnExactWasteOf : laws_FnExactWasteOf.Pure := by
  intro l s n ⟨hl, _⟩ _ _
  refine ⟨l.length + 1, ?_⟩
  unfold laws_FnExactWasteOf.f
  by_cases hb : (l.length : Int) > 1048576
  · rw [if_pos hb]
  rw [if_neg hb]
  simp only [toIntS_ok l (l.length + 1) (by omega) (by omega), Option.bind_some, waste_spec l s n (l.length + 1) (by omega) (by omega), waste_impl l s n (l.length + 1) (by omega) (by omega), eqIntS_self l (l.length + 1) (by omega) (by omega)]
  simp

end Go.Proofs.Ytcjbdbbnbhobbaa.Pure
