/- FnExactBestShares: the program's BestShares answers as the reference's does, at all arguments; no condition. -/
import Derived.Test.YtfalckmlbiiedaaQx18
import Derived.Test.YtfalckmlbiiedaaLembase
import Derived.Test.YtfalckmlbiiedaaLemin
import Derived.Test.YtfalckmlbiiedaaLemints
import Derived.Test.YtfalckmlbiiedaaLemcakeA
import Derived.Test.YtfalckmlbiiedaaLemsumB
import Derived.Test.YtfalckmlbiiedaaLemsumS
import Derived.Test.YtfalckmlbiiedaaLemsumI
import Derived.Test.YtfalckmlbiiedaaLemcakeB
import Derived.Test.YtfalckmlbiiedaaLemsharesA
import Derived.Test.YtfalckmlbiiedaaLemsharesB
namespace Go.Proofs.Ytfalckmlbiiedaa.Pure
open Go.RowKit Go.Proofs.Ytfalckmlbiiedaa.Q Go.Proofs.YtfalckmlbiiedaaW.PrintWords Go.Proofs.YtfalckmlbiiedaaW.PrintLast Go.Proofs.YtfalckmlbiiedaaW.PrintMore Go.Proofs.Ytfalckmlbiiedaa.Lem
set_option linter.unusedVariables false
set_option linter.unusedSimpArgs false
theorem FnExactBestShares : laws_FnExactBestShares.Pure := by
  intro l n ⟨hl, _⟩ _
  obtain ⟨k, hk⟩ : ∃ k, l.length + 60010 < k := ⟨_, Nat.lt_succ_self _⟩
  refine ⟨k, ?_⟩
  unfold laws_FnExactBestShares.f
  by_cases hb : (l.length : Int) > 1048576
  · rw [if_pos hb]
  rw [if_neg hb]
  simp only [toIntS_ok l k (by omega) (by omega), Option.bind_some, shares_spec l n k (by omega) (by omega), shares_impl l n k (by omega) (by omega), eqIntS_self l k (by omega) (by omega)]
  simp

end Go.Proofs.Ytfalckmlbiiedaa.Pure
