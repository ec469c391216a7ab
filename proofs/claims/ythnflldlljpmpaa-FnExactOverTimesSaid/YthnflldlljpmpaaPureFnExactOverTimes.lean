/- FnExactOverTimes: the program's OverTimes answers as the reference's does, at all arguments; no condition. -/
import Derived.Test.YthnflldlljpmpaaQx15
import Derived.Test.YthnflldlljpmpaaLembase
import Derived.Test.YthnflldlljpmpaaLemin
import Derived.Test.YthnflldlljpmpaaLemstMachine
import Derived.Test.YthnflldlljpmpaaLempowA
import Derived.Test.YthnflldlljpmpaaLempowB
import Derived.Test.YthnflldlljpmpaaLempowD
namespace Go.Proofs.Ythnflldlljpmpaa.Pure
open Go.RowKit Go.Proofs.Ythnflldlljpmpaa.Q Go.Proofs.YthnflldlljpmpaaW.PrintWords Go.Proofs.YthnflldlljpmpaaW.PrintLast Go.Proofs.YthnflldlljpmpaaW.PrintMore Go.Proofs.Ythnflldlljpmpaa.Lem
set_option linter.unusedVariables false
set_option linter.unusedSimpArgs false
theorem FnExactOverTimes : laws_FnExactOverTimes.Pure := by
  intro l a ⟨hl, _⟩ _
  refine ⟨l.length + 20020, ?_⟩
  unfold maxLen at hl
  unfold laws_FnExactOverTimes.f
  obtain ⟨q, hq, hc⟩ := szMachineS_ok l hl
  rw [hq]
  simp only [Option.bind_some]
  by_cases hb : q < 0
  · rw [if_pos hb]
  rw [if_neg hb]
  have hl2 : l.length ≤ 1048576 := by omega
  have hm : (l.map cvMachine).length = l.length := List.length_map _
  simp only [toMachineS_ok l (l.length + 20020) (by omega) (by omega), Option.bind_some, over_spec (l.map cvMachine) a (l.length + 20020) (by omega) (by omega), over_impl (l.map cvMachine) a (l.length + 20020) (by omega), eqMachineS_self (l.map cvMachine) (l.length + 20020) (by omega) (by omega)]
  simp

end Go.Proofs.Ythnflldlljpmpaa.Pure
