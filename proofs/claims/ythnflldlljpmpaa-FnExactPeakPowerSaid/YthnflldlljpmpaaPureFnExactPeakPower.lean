/- FnExactPeakPower: the program's PeakPower answers as the reference's does, at all arguments; no condition. -/
import Derived.Test.YthnflldlljpmpaaQx19
import Derived.Test.YthnflldlljpmpaaLembase
import Derived.Test.YthnflldlljpmpaaLemin
import Derived.Test.YthnflldlljpmpaaLemstMachine
import Derived.Test.YthnflldlljpmpaaLempowA
import Derived.Test.YthnflldlljpmpaaLempowB
import Derived.Test.YthnflldlljpmpaaLemmaxI
import Derived.Test.YthnflldlljpmpaaLempowE
namespace Go.Proofs.Ythnflldlljpmpaa.Pure
open Go.RowKit Go.Proofs.Ythnflldlljpmpaa.Q Go.Proofs.YthnflldlljpmpaaW.PrintWords Go.Proofs.YthnflldlljpmpaaW.PrintLast Go.Proofs.YthnflldlljpmpaaW.PrintMore Go.Proofs.Ythnflldlljpmpaa.Lem
set_option linter.unusedVariables false
set_option linter.unusedSimpArgs false
theorem FnExactPeakPower : laws_FnExactPeakPower.Pure := by
  intro l ⟨hl, _⟩
  refine ⟨l.length + 20020 + 1, ?_⟩
  unfold maxLen at hl
  unfold laws_FnExactPeakPower.f
  obtain ⟨q, hq, hc⟩ := szMachineS_ok l hl
  rw [hq]
  simp only [Option.bind_some]
  by_cases hb : q < 0
  · rw [if_pos hb]
  rw [if_neg hb]
  have hl2 : l.length ≤ 1048576 := by omega
  have hm : (l.map cvMachine).length = l.length := List.length_map _
  simp only [toMachineS_ok l (l.length + 20020 + 1) (by omega) (by omega), Option.bind_some, peak_spec (l.map cvMachine) (l.length + 20020 + 1) (by omega) (by omega), peak_impl (l.map cvMachine) (l.length + 20020 + 1) (by omega)]
  simp only [laws_FnExactPeakPower.j0, toMachineS_ok l (l.length + 20020) (by omega) (by omega), Option.bind_some, eqMachineS_self (l.map cvMachine) (l.length + 20020) (by omega) (by omega)]
  simp

end Go.Proofs.Ythnflldlljpmpaa.Pure
