/- FnExactBestStart: the program's BestStart answers as the reference's does, at all arguments; no condition. -/
import Derived.Test.YthnflldlljpmpaaQx26
import Derived.Test.YthnflldlljpmpaaLembase
import Derived.Test.YthnflldlljpmpaaLemin
import Derived.Test.YthnflldlljpmpaaLemstMachine
import Derived.Test.YthnflldlljpmpaaLempowA
import Derived.Test.YthnflldlljpmpaaLempowB
import Derived.Test.YthnflldlljpmpaaLemmaxI
import Derived.Test.YthnflldlljpmpaaLempowE
import Derived.Test.YthnflldlljpmpaaLembestA
namespace Go.Proofs.Ythnflldlljpmpaa.Pure
open Go.RowKit Go.Proofs.Ythnflldlljpmpaa.Q Go.Proofs.YthnflldlljpmpaaW.PrintWords Go.Proofs.YthnflldlljpmpaaW.PrintLast Go.Proofs.YthnflldlljpmpaaW.PrintMore Go.Proofs.Ythnflldlljpmpaa.Lem
set_option linter.unusedVariables false
set_option linter.unusedSimpArgs false
theorem FnExactBestStart : laws_FnExactBestStart.Pure := by
  intro l a b ⟨hl, _⟩ _ _
  obtain ⟨k, hk⟩ : ∃ k, l.length + 3030010 < k := ⟨_, Nat.lt_succ_self _⟩
  refine ⟨k, ?_⟩
  unfold maxLen at hl
  unfold laws_FnExactBestStart.f
  obtain ⟨q, hq, hc⟩ := szMachineS_ok l hl
  rw [hq]
  simp only [Option.bind_some]
  by_cases hb : q < 0
  · rw [if_pos hb]
  rw [if_neg hb]
  have hl2 : l.length ≤ 1048576 := by omega
  have hm : (l.map cvMachine).length = l.length := List.length_map _
  simp only [toMachineS_ok l k (by omega) (by omega), Option.bind_some, best_spec (l.map cvMachine) a b k (by omega) (by omega), best_impl (l.map cvMachine) a b k (by omega), eqMachineS_self (l.map cvMachine) k (by omega) (by omega)]
  simp

end Go.Proofs.Ythnflldlljpmpaa.Pure
