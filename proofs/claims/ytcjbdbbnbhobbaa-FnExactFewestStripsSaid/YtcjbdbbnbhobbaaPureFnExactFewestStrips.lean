/- FnExactFewestStrips: the program's FewestStrips answers as the reference's does, at all arguments; no condition. -/
import Derived.Test.YtcjbdbbnbhobbaaQx14
import Derived.Test.YtcjbdbbnbhobbaaQx28
import Derived.Test.YtcjbdbbnbhobbaaQx29
import Derived.Test.YtcjbdbbnbhobbaaLembase
import Derived.Test.YtcjbdbbnbhobbaaLemin
import Derived.Test.YtcjbdbbnbhobbaaLemeqI
import Derived.Test.YtcjbdbbnbhobbaaLemints
import Derived.Test.YtcjbdbbnbhobbaaLemsheetsA
import Derived.Test.YtcjbdbbnbhobbaaLemfewD
namespace Go.Proofs.Ytcjbdbbnbhobbaa.Pure
open Go.RowKit Go.Proofs.Ytcjbdbbnbhobbaa.Q Go.Proofs.YtcjbdbbnbhobbaaW.PrintWords Go.Proofs.YtcjbdbbnbhobbaaW.PrintLast Go.Proofs.YtcjbdbbnbhobbaaW.PrintMore Go.Proofs.Ytcjbdbbnbhobbaa.Lem
set_option linter.unusedVariables false
set_option linter.unusedSimpArgs false
theorem FnExactFewestStrips : laws_FnExactFewestStrips.Pure := by
  intro l s ⟨hl, _⟩ _
  cases hL : lensOk l s with
  | true =>
    obtain ⟨v, K, _, hK⟩ := fewest (fits_ok hL)
    obtain ⟨k, hk⟩ : ∃ k, k = K + l.length + 1 := ⟨_, rfl⟩
    have h2 := hK k (by omega)
    refine ⟨k, ?_⟩
    unfold laws_FnExactFewestStrips.f
    by_cases hb : (l.length : Int) > 1048576
    · rw [if_pos hb]
    rw [if_neg hb]
    simp only [toIntS_ok l k (by omega) (by omega), Option.bind_some, spec_f_ok hL k (by omega), impl_f_ok hL k, h2.1, h2.2, eqIntS_self l k (by omega) (by omega), if_true]
  | false =>
    refine ⟨l.length + 1, ?_⟩
    unfold laws_FnExactFewestStrips.f
    by_cases hb : (l.length : Int) > 1048576
    · rw [if_pos hb]
    rw [if_neg hb]
    have e1 : spec_FewestStrips.f (l.length + 1) l s = some (-1) := by
      unfold spec_FewestStrips.f; rw [lens_spec l s (l.length + 1) (by omega) (by omega), hL]; rfl
    have e2 : impl_FewestStrips.f (l.length + 1) l s = some (-1) := by
      unfold impl_FewestStrips.f; rw [lens_impl, hL]; rfl
    simp only [toIntS_ok l (l.length + 1) (by omega) (by omega), Option.bind_some, e1, e2, eqIntS_self l (l.length + 1) (by omega) (by omega), if_true]

end Go.Proofs.Ytcjbdbbnbhobbaa.Pure
