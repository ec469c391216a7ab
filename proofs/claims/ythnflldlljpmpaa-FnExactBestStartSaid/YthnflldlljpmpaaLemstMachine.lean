/- Plain lemmas on the printed functions: what they compute; conditions stand in each lemma. -/
import Derived.Test.YthnflldlljpmpaaQx0
import Derived.Test.YthnflldlljpmpaaQx1
import Derived.Test.YthnflldlljpmpaaQx3
import Derived.Test.YthnflldlljpmpaaQx4
import Derived.Test.YthnflldlljpmpaaQx5
import Derived.Test.YthnflldlljpmpaaLembase
namespace Go.Proofs.Ythnflldlljpmpaa.Lem
open Go.RowKit Go.Proofs.Ythnflldlljpmpaa.Q Go.Proofs.YthnflldlljpmpaaW.PrintWords Go.Proofs.YthnflldlljpmpaaW.PrintLast Go.Proofs.YthnflldlljpmpaaW.PrintMore Go.Proofs.Ythnflldlljpmpaa.Lem
set_option linter.unusedVariables false
set_option linter.unusedSimpArgs false
def cvMachine (x : S44) : S40 := ⟨x.f0, x.f1, x.f2⟩
theorem toMachine_ok (a0 a1 a2 : Int) : laws_toMachine.f a0 a1 a2 = some (a0, a1, a2) := rfl
theorem eqMachine_self (a0 a1 a2 : Int) : laws_eqMachine.f a0 a1 a2 a0 a1 a2 = some true := by simp [laws_eqMachine.f]
theorem rdLMachine (l : List S44) (i : Nat) : rd_T44 l (i : Int) = l.getD i z44 := by simp [rd_T44]
theorem rdIMachine (l : List S40) (i : Nat) : rd_T40 l (i : Int) = l.getD i z40 := by simp [rd_T40]
theorem toMachineS_ok (l : List S44) (k : Nat) (hl : l.length ≤ 1000000000) (hk : l.length < k) : laws_toMachineS.f k l = some (l.map cvMachine) := by
  unfold laws_toMachineS.f
  rw [if_pos (by omega), if_pos (by rw [Int.toNat_natCast]; omega)]
  have := copy_loop (fun k x3 x4 => laws_toMachineS.l0 k l x3 x4) l.length (by omega) (fun i => cvMachine (l.getD i z44))
    (fun k i xs hi hx => by
      simp only [laws_toMachineS.l0, toMachine_ok, Option.bind_some, rdLMachine]
      rw [if_pos (by omega), if_pos (by omega), if_pos (by omega)]
      simp [cvMachine])
    (fun k xs hx => by
      simp only [laws_toMachineS.l0]
      rw [if_neg (by omega)]) (List.replicate l.length z40) (by simp) k hk
  rw [map_range_getD] at this
  simpa using this
theorem eqMachineS_self (l : List S40) (k : Nat) (hl : l.length ≤ 1000000000) (hk : l.length < k) : laws_eqMachineS.f k l l = some true := by
  unfold laws_eqMachineS.f
  rw [if_pos rfl]
  have := run_all (fun k x5 => laws_eqMachineS.l0 k l l x5) l.length (by omega) (fun _ => true) false (some true)
    (fun k i hi => by
      simp only [laws_eqMachineS.l0, eqMachine_self, Option.bind_some]
      rw [if_pos (by omega), if_pos (by omega), if_pos (by omega)])
    (fun k => by
      simp only [laws_eqMachineS.l0]
      rw [if_neg (by omega)]) k hk
  rw [this]
  simp
theorem szMachineS_ok (l : List S44) (hl : l.length ≤ 9223372036854775807) : ∃ q, laws_szMachineS.f l 1048576 = some q ∧ (q < 0 ∨ (0 ≤ q ∧ l.length ≤ 1048576)) := by
  unfold laws_szMachineS.f
  rw [w64 (n := 1048576 - (l.length : Int)) (by omega) (by omega)]
  by_cases h : 1048576 - (l.length : Int) < 0
  · rw [if_pos h]
    exact ⟨_, rfl, .inl (by omega)⟩
  · rw [if_neg h]
    exact ⟨_, rfl, .inr ⟨by omega, by omega⟩⟩

end Go.Proofs.Ythnflldlljpmpaa.Lem
