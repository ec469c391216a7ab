/- FnExactCheapestTwo: the program's CheapestTwo answers as the reference's does, at all arguments; no condition. -/
import Derived.Test.YtkgpjndlpjjobaaQx21
import Derived.Test.YtkgpjndlpjjobaaLembase
import Derived.Test.YtkgpjndlpjjobaaLemin
import Derived.Test.YtkgpjndlpjjobaaLemstFlour
import Derived.Test.YtkgpjndlpjjobaaLemblendA
import Derived.Test.YtkgpjndlpjjobaaLemblendB
import Derived.Test.YtkgpjndlpjjobaaLemsumB
import Derived.Test.YtkgpjndlpjjobaaLemsumS
import Derived.Test.YtkgpjndlpjjobaaLemsumI
import Derived.Test.YtkgpjndlpjjobaaLemblendC
import Derived.Test.YtkgpjndlpjjobaaLemblendD
namespace Go.Proofs.Ytkgpjndlpjjobaa.Pure
open Go.RowKit Go.Proofs.Ytkgpjndlpjjobaa.Q Go.Proofs.YtkgpjndlpjjobaaW.PrintWords Go.Proofs.YtkgpjndlpjjobaaW.PrintLast Go.Proofs.YtkgpjndlpjjobaaW.PrintMore Go.Proofs.Ytkgpjndlpjjobaa.Lem
set_option linter.unusedVariables false
set_option linter.unusedSimpArgs false
theorem FnExactCheapestTwo : laws_FnExactCheapestTwo.Pure := by
  intro l a b ⟨hl, _⟩ _ _
  obtain ⟨K, hK⟩ : ∃ K, K = l.length + cAll a l.length + 70 := ⟨_, rfl⟩
  refine ⟨K + 1, ?_⟩
  unfold maxLen at hl
  unfold laws_FnExactCheapestTwo.f
  obtain ⟨q, hq, hc⟩ := szFlourS_ok l hl
  rw [hq]
  simp only [Option.bind_some]
  by_cases hb : q < 0
  · rw [if_pos hb]
  rw [if_neg hb]
  have hl2 : l.length ≤ 1048576 := by omega
  have hm : (l.map cvFlour).length = l.length := List.length_map _
  simp only [toFlourS_ok l (K + 1) (by omega) (by omega), Option.bind_some, cheap_spec (l.map cvFlour) a b (K + 1) (by omega) (by rw [hm]; omega), cheap_impl (l.map cvFlour) a b (K + 1) (by omega) (by rw [hm]; omega)]
  simp only [laws_FnExactCheapestTwo.j0, toFlourS_ok l K (by omega) (by omega), Option.bind_some, eqFlourS_self (l.map cvFlour) K (by omega) (by omega)]
  simp

end Go.Proofs.Ytkgpjndlpjjobaa.Pure
