/- Plain lemmas on the printed functions: what they compute; conditions stand in each lemma. -/
import Derived.Test.YtekcdkefomkgdaaQx9
import Derived.Test.YtekcdkefomkgdaaLembase
namespace Go.Proofs.Ytekcdkefomkgdaa.Lem
open Go.RowKit Go.Proofs.Ytekcdkefomkgdaa.Q Go.Proofs.YtekcdkefomkgdaaW.PrintWords Go.Proofs.YtekcdkefomkgdaaW.PrintLast Go.Proofs.YtekcdkefomkgdaaW.PrintMore Go.Proofs.Ytekcdkefomkgdaa.Lem
set_option linter.unusedVariables false
set_option linter.unusedSimpArgs false
theorem eqIntS_self (l : List Int) (k : Nat) (hl : l.length ≤ 9223372036854775807) (hk : l.length < k) : laws_eqIntS.f k l l = some true := by
  unfold laws_eqIntS.f
  rw [if_pos rfl]
  have := run_all (fun k x5 => laws_eqIntS.l0 k l l x5) l.length hl (fun _ => true) false (some true)
    (fun k i hi => by
      simp only [laws_eqIntS.l0]
      rw [if_pos (by omega), if_pos (by omega), if_pos (by omega)])
    (fun k => by
      simp only [laws_eqIntS.l0]
      rw [if_neg (by omega)]) k hk
  rw [this]
  simp

end Go.Proofs.Ytekcdkefomkgdaa.Lem
