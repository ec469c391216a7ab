/- FnExactStrengthOf: the program's StrengthOf answers as the reference's does, at all arguments; no condition. -/
import Derived.Test.YtkgpjndlpjjobaaQx18
import Derived.Test.YtkgpjndlpjjobaaLembase
import Derived.Test.YtkgpjndlpjjobaaLemin
import Derived.Test.YtkgpjndlpjjobaaLemints
import Derived.Test.YtkgpjndlpjjobaaLemstFlour
import Derived.Test.YtkgpjndlpjjobaaLemblendA
import Derived.Test.YtkgpjndlpjjobaaLemblendB
import Derived.Test.YtkgpjndlpjjobaaLemsumB
import Derived.Test.YtkgpjndlpjjobaaLemsumS
import Derived.Test.YtkgpjndlpjjobaaLemsumI
import Derived.Test.YtkgpjndlpjjobaaLemblendC
namespace Go.Proofs.Ytkgpjndlpjjobaa.Pure
open Go.RowKit Go.Proofs.Ytkgpjndlpjjobaa.Q Go.Proofs.YtkgpjndlpjjobaaW.PrintWords Go.Proofs.YtkgpjndlpjjobaaW.PrintLast Go.Proofs.YtkgpjndlpjjobaaW.PrintMore Go.Proofs.Ytkgpjndlpjjobaa.Lem
set_option linter.unusedVariables false
set_option linter.unusedSimpArgs false
theorem FnExactStrengthOf : laws_FnExactStrengthOf.Pure := by
  intro l ks ⟨hl, _⟩ ⟨hk, _⟩
  refine ⟨2 * l.length + 2 * ks.length + 20, ?_⟩
  unfold maxLen at hl
  unfold laws_FnExactStrengthOf.f
  by_cases ha : (ks.length : Int) > 1048576
  · rw [if_pos ha]
  rw [if_neg ha]
  obtain ⟨q, hq, hc⟩ := szFlourS_ok l hl
  rw [hq]
  simp only [Option.bind_some]
  by_cases hb : q < 0
  · rw [if_pos hb]
  rw [if_neg hb]
  have hl2 : l.length ≤ 1048576 := by omega
  have hm : (l.map cvFlour).length = l.length := List.length_map _
  simp only [toFlourS_ok l (2 * l.length + 2 * ks.length + 20) (by omega) (by omega), toIntS_ok ks (2 * l.length + 2 * ks.length + 20) (by omega) (by omega), Option.bind_some, strength_spec (l.map cvFlour) ks (2 * l.length + 2 * ks.length + 20) (by omega) (by omega) (by omega), strength_impl (l.map cvFlour) ks (2 * l.length + 2 * ks.length + 20) (by omega) (by omega) (by omega), eqFlourS_self (l.map cvFlour) (2 * l.length + 2 * ks.length + 20) (by omega) (by omega), eqIntS_self ks (2 * l.length + 2 * ks.length + 20) (by omega) (by omega)]
  simp

end Go.Proofs.Ytkgpjndlpjjobaa.Pure
