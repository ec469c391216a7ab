/- FnExactStrongestFor: the program's StrongestFor answers as the reference's does, at all arguments; no condition. -/
import Derived.Test.YtkgpjndlpjjobaaQx39
import Derived.Test.YtkgpjndlpjjobaaLemstrM
namespace Go.Proofs.Ytkgpjndlpjjobaa.Pure
open Go.RowKit Go.Proofs.Ytkgpjndlpjjobaa.Q Go.Proofs.YtkgpjndlpjjobaaW.PrintWords Go.Proofs.YtkgpjndlpjjobaaW.PrintLast Go.Proofs.YtkgpjndlpjjobaaW.PrintMore Go.Proofs.Ytkgpjndlpjjobaa.Lem
set_option linter.unusedVariables false
set_option linter.unusedSimpArgs false
theorem FnExactStrongestFor : laws_FnExactStrongestFor.Pure := by
  intro l a ⟨hl, _⟩ _
  obtain ⟨K, hK⟩ : ∃ K, K = l.length + 1100 := ⟨_, rfl⟩
  refine ⟨K, ?_⟩
  unfold maxLen at hl
  unfold laws_FnExactStrongestFor.f
  obtain ⟨q, hq, hc⟩ := szFlourS_ok l hl
  rw [hq]
  simp only [Option.bind_some]
  by_cases hb : q < 0
  · rw [if_pos hb]
  rw [if_neg hb]
  have hl2 : l.length ≤ 1048576 := by omega
  have hm : (l.map cvFlour).length = l.length := List.length_map _
  obtain ⟨v, e1, e2⟩ := strong_same (l.map cvFlour) a (by omega) K (by omega)
  simp only [toFlourS_ok l K (by omega) (by omega), Option.bind_some, e1, e2, eqFlourS_self (l.map cvFlour) K (by omega) (by omega), if_true]

end Go.Proofs.Ytkgpjndlpjjobaa.Pure
