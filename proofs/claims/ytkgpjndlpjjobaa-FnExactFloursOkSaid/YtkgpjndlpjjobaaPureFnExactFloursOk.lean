/- FnExactFloursOk: the program's FloursOk answers as the reference's does, at all arguments; no condition. -/
import Derived.Test.YtkgpjndlpjjobaaQx6
import Derived.Test.YtkgpjndlpjjobaaLembase
import Derived.Test.YtkgpjndlpjjobaaLemin
import Derived.Test.YtkgpjndlpjjobaaLemstFlour
import Derived.Test.YtkgpjndlpjjobaaLemblendA
namespace Go.Proofs.Ytkgpjndlpjjobaa.Pure
open Go.RowKit Go.Proofs.Ytkgpjndlpjjobaa.Q Go.Proofs.YtkgpjndlpjjobaaW.PrintWords Go.Proofs.YtkgpjndlpjjobaaW.PrintLast Go.Proofs.YtkgpjndlpjjobaaW.PrintMore Go.Proofs.Ytkgpjndlpjjobaa.Lem
set_option linter.unusedVariables false
set_option linter.unusedSimpArgs false
theorem FnExactFloursOk : laws_FnExactFloursOk.Pure := by
  intro l ⟨hl, _⟩
  refine ⟨l.length + 1, ?_⟩
  unfold maxLen at hl
  unfold laws_FnExactFloursOk.f
  obtain ⟨q, hq, hc⟩ := szFlourS_ok l hl
  rw [hq]
  simp only [Option.bind_some]
  by_cases hb : q < 0
  · rw [if_pos hb]
  rw [if_neg hb]
  have hl2 : l.length ≤ 1048576 := by omega
  have hm : (l.map cvFlour).length = l.length := List.length_map _
  simp only [toFlourS_ok l (l.length + 1) (by omega) (by omega), Option.bind_some, flours_spec (l.map cvFlour) (l.length + 1) (by omega) (by omega), flours_impl, eqFlourS_self (l.map cvFlour) (l.length + 1) (by omega) (by omega)]
  simp

end Go.Proofs.Ytkgpjndlpjjobaa.Pure
