/- FnExactPowerAt: the program's PowerAt answers as the reference's does, at all arguments; no condition. -/
import Derived.Test.YthnflldlljpmpaaQx0
import Derived.Test.YthnflldlljpmpaaQx8
import Derived.Test.YthnflldlljpmpaaQx10
import Derived.Test.YthnflldlljpmpaaLembase
import Derived.Test.YthnflldlljpmpaaLemin
import Derived.Test.YthnflldlljpmpaaLemstMachine
import Derived.Test.YthnflldlljpmpaaLempowA
import Derived.Test.YthnflldlljpmpaaLempowB
namespace Go.Proofs.Ythnflldlljpmpaa.Pure
open Go.RowKit Go.Proofs.Ythnflldlljpmpaa.Q Go.Proofs.YthnflldlljpmpaaW.PrintWords Go.Proofs.YthnflldlljpmpaaW.PrintLast Go.Proofs.YthnflldlljpmpaaW.PrintMore Go.Proofs.Ythnflldlljpmpaa.Lem
set_option linter.unusedVariables false
set_option linter.unusedSimpArgs false
def powerAt (l : List S40) (t : Int) : Int := if machOk l = true ∧ 0 ≤ t ∧ t ≤ 1439 then pw l t.toNat else -1
theorem powerAt_spec (l : List S40) (t : Int) (k : Nat) (hl : l.length ≤ 1000000000) (hk : l.length + 20000 < k) : spec_PowerAt.f k l t = some (powerAt l t) := by
  simp only [spec_PowerAt.f, mach_spec l k hl (by omega), in_spec, Option.bind_some, powerAt]
  by_cases h : machOk l = true
  · by_cases h2 : 0 ≤ t ∧ t ≤ 1439
    · rw [if_pos h, decide_eq_true h2, if_pos rfl, powers_spec l h k (by omega), if_pos (c := machOk l = true ∧ _) ⟨h, h2⟩]
      simp only [Option.bind_some]
      rw [if_pos h2.1, pws_len, if_pos (by omega), rd_pws l t h2.1 (by omega)]
    · rw [if_pos h, decide_eq_false h2, if_neg (by simp), if_neg (c := machOk l = true ∧ _) (fun hh => h2 hh.2)]
  · rw [if_neg h, if_neg (c := machOk l = true ∧ _) (fun hh => h hh.1)]
theorem powerAt_impl (l : List S40) (t : Int) (k : Nat) (hk : l.length + 20000 < k) : impl_PowerAt.f k l t = some (powerAt l t) := by
  simp only [impl_PowerAt.f, mach_impl, in_impl, Option.bind_some, powerAt]
  by_cases h : machOk l = true
  · by_cases h2 : 0 ≤ t ∧ t ≤ 1439
    · rw [if_pos h, decide_eq_true h2, if_pos rfl, powers_impl l h k (by omega), if_pos (c := machOk l = true ∧ _) ⟨h, h2⟩]
      simp only [Option.bind_some]
      rw [if_pos h2.1, pws_len, if_pos (by omega), rd_pws l t h2.1 (by omega)]
    · rw [if_pos h, decide_eq_false h2, if_neg (by simp), if_neg (c := machOk l = true ∧ _) (fun hh => h2 hh.2)]
  · rw [if_neg h, if_neg (c := machOk l = true ∧ _) (fun hh => h hh.1)]
theorem FnExactPowerAt : laws_FnExactPowerAt.Pure := by
  intro l t ⟨hl, _⟩ _
  refine ⟨l.length + 20001, ?_⟩
  unfold maxLen at hl
  unfold laws_FnExactPowerAt.f
  obtain ⟨q, hq, hc⟩ := szMachineS_ok l hl
  rw [hq]
  simp only [Option.bind_some]
  by_cases hb : q < 0
  · rw [if_pos hb]
  rw [if_neg hb]
  have hl2 : l.length ≤ 1048576 := by omega
  have hm : (l.map cvMachine).length = l.length := List.length_map _
  simp only [toMachineS_ok l (l.length + 20001) (by omega) (by omega), Option.bind_some, powerAt_spec (l.map cvMachine) t (l.length + 20001) (by omega) (by omega), powerAt_impl (l.map cvMachine) t (l.length + 20001) (by omega), eqMachineS_self (l.map cvMachine) (l.length + 20001) (by omega) (by omega)]
  simp

end Go.Proofs.Ythnflldlljpmpaa.Pure
