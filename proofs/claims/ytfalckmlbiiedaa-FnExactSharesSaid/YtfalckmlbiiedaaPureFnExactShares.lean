/- FnExactShares: the program's Shares answers as the reference's does, at all arguments; no condition. -/
import Derived.Test.YtfalckmlbiiedaaQx26
import Derived.Test.YtfalckmlbiiedaaLemsharesM
namespace Go.Proofs.Ytfalckmlbiiedaa.Pure
open Go.RowKit Go.Proofs.Ytfalckmlbiiedaa.Q Go.Proofs.YtfalckmlbiiedaaW.PrintWords Go.Proofs.YtfalckmlbiiedaaW.PrintLast Go.Proofs.YtfalckmlbiiedaaW.PrintMore Go.Proofs.Ytfalckmlbiiedaa.Lem
set_option linter.unusedVariables false
set_option linter.unusedSimpArgs false
theorem FnExactShares : laws_FnExactShares.Pure := by
  intro l n ⟨hl, _⟩ _
  obtain ⟨K, hK⟩ : ∃ K, K = l.length + 5000 := ⟨_, rfl⟩
  refine ⟨K + 1 + 1 + 1, ?_⟩
  unfold maxLen at hl
  unfold laws_FnExactShares.f
  by_cases hb : (l.length : Int) > 1048576
  · rw [if_pos hb]
  rw [if_neg hb]
  have hv := sharesV_len l n
  generalize hV : sharesV l n = V at hv
  obtain ⟨v, b⟩ := V
  dsimp only at hv
  simp only [toIntS_ok l (K + 1 + 1 + 1) (by omega) (by omega), Option.bind_some, shares_spec l n (K + 1 + 1 + 1) (by omega) (by omega), shares_impl l n (K + 1 + 1 + 1) (by omega), hV, eqIntS_self v (K + 1 + 1 + 1) (by omega) (by omega), if_true, bne_self_eq_false]
  rw [laws_FnExactShares.j0, if_neg (by simp)]
  simp only [toIntS_ok l (K + 1 + 1) (by omega) (by omega), Option.bind_some, eqIntS_self l (K + 1 + 1) (by omega) (by omega), if_true, markIntS_ok l (K + 1 + 1) (by omega) (by omega)]
  rw [if_neg (by omega), eqIntS_self v (K + 1 + 1) (by omega) (by omega)]
  simp only [Option.bind_some, if_true, bne_self_eq_false]
  rw [laws_FnExactShares.j1, if_neg (by simp), markIntS_ok v (K + 1) (by omega) (by omega)]
  simp only [Option.bind_some]
  rw [heldIntS_ok v.length (K + 1) (by omega) (by omega)]
  simp only [Option.bind_some]
  rw [if_neg (by omega), if_pos trivial]
  simp only [toIntS_ok l (K + 1) (by omega) (by omega), Option.bind_some, shares_impl l n (K + 1) (by omega), hV, eqIntS_self v (K + 1) (by omega) (by omega), if_true, bne_self_eq_false]
  rw [laws_FnExactShares.j2, if_neg (by simp), heldIntS_ok v.length K (by omega) (by omega)]
  simp only [Option.bind_some]
  rw [if_neg (by omega), if_pos trivial]

end Go.Proofs.Ytfalckmlbiiedaa.Pure
