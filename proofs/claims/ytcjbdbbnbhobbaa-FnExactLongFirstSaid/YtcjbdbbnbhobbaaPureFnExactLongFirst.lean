/- FnExactLongFirst: the program's LongFirst answers as the reference's does, at all arguments; no condition. -/
import Derived.Test.YtcjbdbbnbhobbaaQx26
import Derived.Test.YtcjbdbbnbhobbaaQx28
import Derived.Test.YtcjbdbbnbhobbaaLemlongM
namespace Go.Proofs.Ytcjbdbbnbhobbaa.Pure
open Go.RowKit Go.Proofs.Ytcjbdbbnbhobbaa.Q Go.Proofs.YtcjbdbbnbhobbaaW.PrintWords Go.Proofs.YtcjbdbbnbhobbaaW.PrintLast Go.Proofs.YtcjbdbbnbhobbaaW.PrintMore Go.Proofs.Ytcjbdbbnbhobbaa.Lem
set_option linter.unusedVariables false
set_option linter.unusedSimpArgs false
theorem FnExactLongFirst : laws_FnExactLongFirst.Pure := by
  intro l s ⟨hl, _⟩ _
  obtain ⟨K, hK⟩ : ∃ K, K = l.length + 2000 := ⟨_, rfl⟩
  refine ⟨K + 1, ?_⟩
  unfold maxLen at hl
  unfold laws_FnExactLongFirst.f
  by_cases hb : (l.length : Int) > 1048576
  · rw [if_pos hb]
  rw [if_neg hb]
  obtain ⟨v, hv, e1, e2⟩ := long_same l s (by omega) (K + 1) (by omega)
  obtain ⟨v', hv', e1', e2'⟩ := long_same l s (by omega) K (by omega)
  have ev : v' = v := by
    have := spec_LongFirst.mono l s K v' e1'
    rw [e1] at this
    exact (Option.some.inj this).symm
  subst ev
  simp only [toIntS_ok l (K + 1) (by omega) (by omega), Option.bind_some, e1, e2, eqIntS_self v' (K + 1) (by omega) (by omega), if_true, eqIntS_self l (K + 1) (by omega) (by omega)]
  rw [markIntS_ok l (K + 1) (by omega) (by omega)]
  simp only [Option.bind_some]
  rw [if_neg (by omega)]
  simp only [laws_FnExactLongFirst.j0, Bool.not_true, Bool.false_eq_true, if_false]
  rw [markIntS_ok v' K (by omega) (by omega)]
  simp only [Option.bind_some]
  rw [heldIntS_ok v'.length K (by omega) (by omega)]
  simp only [Option.bind_some]
  rw [if_neg (by omega), if_pos trivial]
  simp only [toIntS_ok l K (by omega) (by omega), Option.bind_some, e2', eqIntS_self v' K (by omega) (by omega), if_true]
  rw [if_neg (by omega)]

end Go.Proofs.Ytcjbdbbnbhobbaa.Pure
