/- FnExactStripsUsed: the program's StripsUsed answers as the reference's does, at all arguments; no condition. -/
import Derived.Test.YtcjbdbbnbhobbaaQx24
import Derived.Test.YtcjbdbbnbhobbaaLemstripM
namespace Go.Proofs.Ytcjbdbbnbhobbaa.Pure
open Go.RowKit Go.Proofs.Ytcjbdbbnbhobbaa.Q Go.Proofs.YtcjbdbbnbhobbaaW.PrintWords Go.Proofs.YtcjbdbbnbhobbaaW.PrintLast Go.Proofs.YtcjbdbbnbhobbaaW.PrintMore Go.Proofs.Ytcjbdbbnbhobbaa.Lem
set_option linter.unusedVariables false
set_option linter.unusedSimpArgs false
theorem FnExactStripsUsed : laws_FnExactStripsUsed.Pure := by
  intro l s o ⟨hl, _⟩ _ ⟨ho, _⟩
  obtain ⟨K, hK⟩ : ∃ K, K = l.length + 2 * o.length + 2000 := ⟨_, rfl⟩
  refine ⟨K, ?_⟩
  unfold laws_FnExactStripsUsed.f
  by_cases hb : (l.length : Int) > 1048576
  · rw [if_pos hb]
  rw [if_neg hb]
  by_cases hb2 : (o.length : Int) > 1048576
  · rw [if_pos hb2]
  rw [if_neg hb2]
  obtain ⟨v, e1, e2⟩ := used_same l s o (by omega) (by omega) K (by omega)
  simp only [toIntS_ok l K (by omega) (by omega), toIntS_ok o K (by omega) (by omega), Option.bind_some, e1, e2, eqIntS_self l K (by omega) (by omega), eqIntS_self o K (by omega) (by omega), if_true]

end Go.Proofs.Ytcjbdbbnbhobbaa.Pure
