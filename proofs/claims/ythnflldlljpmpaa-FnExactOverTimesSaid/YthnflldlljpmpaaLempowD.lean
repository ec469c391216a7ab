/- Plain lemmas on the printed functions: what they compute; conditions stand in each lemma. -/
import Derived.Test.YthnflldlljpmpaaQx0
import Derived.Test.YthnflldlljpmpaaQx13
import Derived.Test.YthnflldlljpmpaaQx14
import Derived.Test.YthnflldlljpmpaaLembase
import Derived.Test.YthnflldlljpmpaaLemin
import Derived.Test.YthnflldlljpmpaaLemstMachine
import Derived.Test.YthnflldlljpmpaaLempowA
import Derived.Test.YthnflldlljpmpaaLempowB
namespace Go.Proofs.Ythnflldlljpmpaa.Lem
open Go.RowKit Go.Proofs.Ythnflldlljpmpaa.Q Go.Proofs.YthnflldlljpmpaaW.PrintWords Go.Proofs.YthnflldlljpmpaaW.PrintLast Go.Proofs.YthnflldlljpmpaaW.PrintMore Go.Proofs.Ythnflldlljpmpaa.Lem
set_option linter.unusedVariables false
set_option linter.unusedSimpArgs false
def overs (p : List Int) (most : Int) : Int := (List.range 1440).foldl (fun c i => if p.getD i 0 > most then c + 1 else c) 0
def overTimes (l : List S40) (most : Int) : Int := if machOk l = true ∧ 0 ≤ most ∧ most ≤ 1000000 then overs (pws l) most else -1
theorem over_spec (l : List S40) (a : Int) (k : Nat) (hl : l.length ≤ 1000000000) (hk : l.length + 20010 < k) : spec_OverTimes.f k l a = some (overTimes l a) := by
  obtain ⟨k, rfl⟩ : ∃ m, k = m + 1 := ⟨k - 1, by omega⟩
  simp only [spec_OverTimes.f, mach_spec l (k + 1) hl (by omega), in_spec, Option.bind_some, overTimes, spec_OverTimes.j0]
  by_cases h : machOk l = true
  · by_cases h2 : 0 ≤ a ∧ a ≤ 1000000
    · rw [if_pos h, decide_eq_true h2, if_neg (by simp), powers_spec l h k (by omega), if_pos (c := machOk l = true ∧ _) ⟨h, h2⟩]
      simp only [Option.bind_some]
      have hp := pws_len l
      generalize pws l = p at hp
      have L := loop_fold (fun k i c => spec_OverTimes.l0 k a c p i) 1440 0 (by omega) (fun i c => 0 ≤ c ∧ c ≤ (i : Int)) (fun c i => if p.getD i 0 > a then c + 1 else c) (fun c => some c)
        (fun k i c hB hi hc => by
          simp only [spec_OverTimes.l0, rd_nat]
          rw [if_pos (by omega), if_pos (by omega), if_pos (by omega), w64 (n := c + 1) (by omega) (by omega)]
          by_cases hh : p.getD i 0 > a
          · rw [if_pos hh, if_pos hh]
          · rw [if_neg hh, if_neg hh])
        (fun i c hi hc => by split <;> omega)
        (fun k c hB hc => by
          simp only [spec_OverTimes.l0]
          rw [if_neg (by omega)]) k 0 ⟨by omega, by omega⟩ (by omega)
      exact L.1
    · rw [if_pos h, decide_eq_false h2, if_pos (by simp), if_neg (c := machOk l = true ∧ _) (fun hh => h2 hh.2)]
  · rw [if_neg h, if_pos trivial, if_neg (c := machOk l = true ∧ _) (fun hh => h hh.1)]
theorem over_impl (l : List S40) (a : Int) (k : Nat) (hk : l.length + 20010 < k) : impl_OverTimes.f k l a = some (overTimes l a) := by
  obtain ⟨k, rfl⟩ : ∃ m, k = m + 1 := ⟨k - 1, by omega⟩
  simp only [impl_OverTimes.f, mach_impl, in_impl, Option.bind_some, overTimes, impl_OverTimes.j0]
  by_cases h : machOk l = true
  · by_cases h2 : 0 ≤ a ∧ a ≤ 1000000
    · rw [if_pos h, decide_eq_true h2, if_neg (by simp), powers_impl l h k (by omega), if_pos (c := machOk l = true ∧ _) ⟨h, h2⟩]
      simp only [Option.bind_some]
      have hp := pws_len l
      generalize pws l = p at hp
      rw [hp]
      have L := loop_fold (fun k i c => impl_OverTimes.l0 k a c p (1440 : Nat) i) 1440 0 (by omega) (fun i c => 0 ≤ c ∧ c ≤ (i : Int)) (fun c i => if p.getD i 0 > a then c + 1 else c) (fun c => some c)
        (fun k i c hB hi hc => by
          simp only [impl_OverTimes.l0, rd_nat]
          rw [if_pos (by omega), if_pos (by omega), if_pos (by omega), w64 (n := c + 1) (by omega) (by omega)]
          by_cases hh : p.getD i 0 > a
          · rw [if_pos hh, if_pos hh]
          · rw [if_neg hh, if_neg hh])
        (fun i c hi hc => by split <;> omega)
        (fun k c hB hc => by
          simp only [impl_OverTimes.l0]
          rw [if_neg (by omega)]) k 0 ⟨by omega, by omega⟩ (by omega)
      exact L.1
    · rw [if_pos h, decide_eq_false h2, if_pos (by simp), if_neg (c := machOk l = true ∧ _) (fun hh => h2 hh.2)]
  · rw [if_neg h, if_pos trivial, if_neg (c := machOk l = true ∧ _) (fun hh => h hh.1)]

end Go.Proofs.Ythnflldlljpmpaa.Lem
