/- FnExactPrefers: the program's Prefers answers as the reference's does, at all arguments; no condition. -/
import Derived.Test.YtekcdkefomkgdaaQx14
import Derived.Test.YtekcdkefomkgdaaLembase
import Derived.Test.YtekcdkefomkgdaaLemin
import Derived.Test.YtekcdkefomkgdaaLemeqI
import Derived.Test.YtekcdkefomkgdaaLemints
import Derived.Test.YtekcdkefomkgdaaLemssI
import Derived.Test.YtekcdkefomkgdaaLemtasteA
import Derived.Test.YtekcdkefomkgdaaLemtasteB
import Derived.Test.YtekcdkefomkgdaaLemtasteC
namespace Go.Proofs.Ytekcdkefomkgdaa.Pure
open Go.RowKit Go.Proofs.Ytekcdkefomkgdaa.Q Go.Proofs.YtekcdkefomkgdaaW.PrintWords Go.Proofs.YtekcdkefomkgdaaW.PrintLast Go.Proofs.YtekcdkefomkgdaaW.PrintMore Go.Proofs.Ytekcdkefomkgdaa.Lem
set_option linter.unusedVariables false
set_option linter.unusedSimpArgs false
theorem FnExactPrefers : laws_FnExactPrefers.Pure := by
  intro l n a b ⟨hl, hv⟩ _ _ _
  obtain ⟨K, hK⟩ : ∃ K, K = l.length + 16000000 := ⟨_, rfl⟩
  refine ⟨K * 2, ?_⟩
  unfold maxLen at hl hv
  unfold laws_FnExactPrefers.f
  obtain ⟨q, hq, hc⟩ := szIntSS_ok l (K * 2) hl (fun v h => (hv v h).1) (by omega)
  rw [hq]
  simp only [Option.bind_some]
  by_cases hb : q < 0
  · rw [if_pos hb]
  rw [if_neg hb]
  obtain ⟨hl2, hv2⟩ : l.length ≤ 1048576 ∧ ∀ v ∈ l, v.length ≤ 1048576 := by
    rcases hc with h | h
    · exact absurd h hb
    · exact h.2
  simp only [toIntSS_ok l 1048576 (K * 2) (by omega) hv2 (by omega) (by omega), Option.bind_some, prefers_spec l n a b 1048576 (K * 2) (by omega) hv2 (by omega) (by omega), prefers_impl l n a b 1048576 (K * 2) (by omega) hv2 (by omega) (by omega), eqIntSS_self l 1048576 (K * 2) (by omega) hv2 (by omega) (by omega)]
  simp

end Go.Proofs.Ytekcdkefomkgdaa.Pure
