/- Plain lemmas on the printed functions: what they compute; conditions stand in each lemma. -/
import Derived.Test.YtcjbdbbnbhobbaaQx4
import Derived.Test.YtcjbdbbnbhobbaaLembase
namespace Go.Proofs.Ytcjbdbbnbhobbaa.Lem
open Go.RowKit Go.Proofs.Ytcjbdbbnbhobbaa.Q Go.Proofs.YtcjbdbbnbhobbaaW.PrintWords Go.Proofs.YtcjbdbbnbhobbaaW.PrintLast Go.Proofs.YtcjbdbbnbhobbaaW.PrintMore Go.Proofs.Ytcjbdbbnbhobbaa.Lem
set_option linter.unusedVariables false
set_option linter.unusedSimpArgs false
theorem eqIntS_self (l : List Int) (k : Nat) (hl : l.length ≤ 9223372036854775807) (hk : l.length < k) : laws_eqIntS.f k l l = some true := by
  unfold laws_eqIntS.f
  rw [if_pos rfl]
  have := run_all (fun k x5 => laws_eqIntS.l0 k l l x5) l.length hl (fun _ => true) false (some true)
    (fun k i hi => by
      simp only [laws_eqIntS.l0]
      rw [if_pos (by omega), if_pos (by omega), if_pos (by omega)])
    (fun k => by
      simp only [laws_eqIntS.l0]
      rw [if_neg (by omega)]) k hk
  rw [this]
  simp

end Go.Proofs.Ytcjbdbbnbhobbaa.Lem
