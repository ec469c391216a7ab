/- Plain lemmas on the printed functions: what they compute; conditions stand in each lemma. -/
import Derived.Test.YtfalckmlbiiedaaQx11
import Derived.Test.YtfalckmlbiiedaaQx12
import Derived.Test.YtfalckmlbiiedaaLembase
namespace Go.Proofs.Ytfalckmlbiiedaa.Lem
open Go.RowKit Go.Proofs.Ytfalckmlbiiedaa.Q Go.Proofs.YtfalckmlbiiedaaW.PrintWords Go.Proofs.YtfalckmlbiiedaaW.PrintLast Go.Proofs.YtfalckmlbiiedaaW.PrintMore Go.Proofs.Ytfalckmlbiiedaa.Lem
set_option linter.unusedVariables false
set_option linter.unusedSimpArgs false
theorem toIntS_ok (l : List Int) (k : Nat) (hl : l.length ≤ 35184372088832) (hk : l.length < k) : laws_toIntS.f k l = some l := by
  unfold laws_toIntS.f
  rw [if_pos (by omega), if_pos (by simpa using hl)]
  have := copy_loop (fun k x3 x4 => laws_toIntS.l0 k l x3 x4) l.length (by omega) (fun i => id (l.getD i 0))
    (fun k i xs hi hx => by
      simp only [laws_toIntS.l0]
      rw [if_pos (by omega), if_pos (by omega), if_pos (by omega), rd_nat]
      simp)
    (fun k xs hx => by
      simp only [laws_toIntS.l0]
      rw [if_neg (by omega)]) (List.replicate l.length 0) (by simp) k hk
  rw [map_range_getD] at this
  simpa using this
theorem eqIntS_self (l : List Int) (k : Nat) (hl : l.length ≤ 9223372036854775807) (hk : l.length < k) : laws_eqIntS.f k l l = some true := by
  unfold laws_eqIntS.f
  rw [if_pos rfl]
  have := run_all (fun k x5 => laws_eqIntS.l0 k l l x5) l.length hl (fun _ => true) false (some true)
    (fun k i hi => by
      simp only [laws_eqIntS.l0]
      rw [if_pos (by omega), if_pos (by omega), if_pos (by omega)])
    (fun k => by
      simp only [laws_eqIntS.l0]
      rw [if_neg (by omega)]) k hk
  rw [this]
  simp

end Go.Proofs.Ytfalckmlbiiedaa.Lem
