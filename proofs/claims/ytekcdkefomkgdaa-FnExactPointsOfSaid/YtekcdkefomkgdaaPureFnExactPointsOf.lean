/- FnExactPointsOf: the program's PointsOf answers as the reference's does, at all arguments; no condition. -/
import Derived.Test.YtekcdkefomkgdaaQx4
import Derived.Test.YtekcdkefomkgdaaQx9
import Derived.Test.YtekcdkefomkgdaaQx16
import Derived.Test.YtekcdkefomkgdaaQx19
import Derived.Test.YtekcdkefomkgdaaLembase
import Derived.Test.YtekcdkefomkgdaaLemin
import Derived.Test.YtekcdkefomkgdaaLemeqI
import Derived.Test.YtekcdkefomkgdaaLemints
import Derived.Test.YtekcdkefomkgdaaLemssI
import Derived.Test.YtekcdkefomkgdaaLemtasteA
import Derived.Test.YtekcdkefomkgdaaLemtasteB
import Derived.Test.YtekcdkefomkgdaaLemtasteC
import Derived.Test.YtekcdkefomkgdaaLemmarks
import Derived.Test.YtekcdkefomkgdaaLempointsA
namespace Go.Proofs.Ytekcdkefomkgdaa.Pure
open Go.RowKit Go.Proofs.Ytekcdkefomkgdaa.Q Go.Proofs.YtekcdkefomkgdaaW.PrintWords Go.Proofs.YtekcdkefomkgdaaW.PrintLast Go.Proofs.YtekcdkefomkgdaaW.PrintMore Go.Proofs.Ytekcdkefomkgdaa.Lem
set_option linter.unusedVariables false
set_option linter.unusedSimpArgs false
theorem FnExactPointsOf : laws_FnExactPointsOf.Pure := by
  intro l n ⟨hl, hv⟩ _
  obtain ⟨K, hK⟩ : ∃ K, K = l.length + 33000000 := ⟨_, rfl⟩
  refine ⟨K + 1, ?_⟩
  unfold maxLen at hl hv
  unfold laws_FnExactPointsOf.f
  obtain ⟨q, hq, hc⟩ := szIntSS_ok l (K + 1) hl (fun v h => (hv v h).1) (by omega)
  rw [hq]
  simp only [Option.bind_some]
  by_cases hb : q < 0
  · rw [if_pos hb]
  rw [if_neg hb]
  obtain ⟨hl2, hv2⟩ : l.length ≤ 1048576 ∧ ∀ v ∈ l, v.length ≤ 1048576 := by
    rcases hc with h | h
    · exact absurd h hb
    · exact h.2
  obtain ⟨r, hr, hr0⟩ := markIntSS_ok l 1048576 (K + 1) (by omega) hv2 (by omega) (by omega)
  have hP := points_length l n
  have e1 : ∀ k, 32000000 < k → laws_toIntSS.f k l = some l := fun k h => toIntSS_ok l 1048576 k (by omega) hv2 (by omega) (by omega)
  have e2 : ∀ k, 32000000 < k → impl_PointsOf.f k l n = some (points l n) := fun k h => points_impl l n 1048576 k (by omega) hv2 (by omega) (by omega)
  have e3 : ∀ k, 32000000 < k → laws_eqIntS.f k (points l n) (points l n) = some true := fun k h => eqIntS_self (points l n) k (by omega) (by omega)
  rw [e1 (K + 1) (by omega)]
  simp only [Option.bind_some]
  rw [points_spec l n 1048576 (K + 1) (by omega) hv2 (by omega) (by omega)]
  simp only [Option.bind_some]
  rw [e2 (K + 1) (by omega)]
  simp only [Option.bind_some]
  rw [e3 (K + 1) (by omega)]
  simp only [Option.bind_some, if_true]
  rw [eqIntSS_self l 1048576 (K + 1) (by omega) hv2 (by omega) (by omega)]
  simp only [Option.bind_some, if_true]
  rw [hr]
  simp only [Option.bind_some]
  rw [if_neg hr0, Bool.not_true, laws_FnExactPointsOf.j0, if_neg (by simp), markIntS_ok (points l n) K (by omega) (by omega)]
  simp only [Option.bind_some]
  rw [heldIntS_ok (points l n).length K (by omega) (by omega)]
  simp only [Option.bind_some]
  rw [if_neg (by omega), if_pos trivial, e1 K (by omega)]
  simp only [Option.bind_some]
  rw [e2 K (by omega)]
  simp only [Option.bind_some]
  rw [e3 K (by omega)]
  simp only [Option.bind_some, if_true]
  rw [if_neg (by omega)]

end Go.Proofs.Ytekcdkefomkgdaa.Pure
