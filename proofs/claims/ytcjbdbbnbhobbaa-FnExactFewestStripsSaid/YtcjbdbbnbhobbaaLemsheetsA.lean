/- Plain lemmas on the printed functions: what they compute; conditions stand in each lemma. -/
import Derived.Test.YtcjbdbbnbhobbaaQx1
import Derived.Test.YtcjbdbbnbhobbaaQx3
import Derived.Test.YtcjbdbbnbhobbaaQx4
import Derived.Test.YtcjbdbbnbhobbaaLembase
import Derived.Test.YtcjbdbbnbhobbaaLemin
import Derived.Test.YtcjbdbbnbhobbaaLemints
namespace Go.Proofs.Ytcjbdbbnbhobbaa.Lem
open Go.RowKit Go.Proofs.Ytcjbdbbnbhobbaa.Q Go.Proofs.YtcjbdbbnbhobbaaW.PrintWords Go.Proofs.YtcjbdbbnbhobbaaW.PrintLast Go.Proofs.YtcjbdbbnbhobbaaW.PrintMore Go.Proofs.Ytcjbdbbnbhobbaa.Lem
set_option linter.unusedVariables false
set_option linter.unusedSimpArgs false
def lensOk (l : List Int) (s : Int) : Bool := decide ((1 ≤ s ∧ s ≤ 200) ∧ l.length ≤ 12) && l.all fun x => decide (1 ≤ x ∧ x ≤ s)
theorem lensOk_iff {l : List Int} {s : Int} : lensOk l s = true ↔ ((1 ≤ s ∧ s ≤ 200) ∧ l.length ≤ 12) ∧ ∀ x ∈ l, 1 ≤ x ∧ x ≤ s := by simp [lensOk, List.all_eq_true]
theorem lens_impl (l : List Int) (s : Int) : impl_LengthsOk.f l s = some (lensOk l s) := by
  simp only [impl_LengthsOk.f, in_impl, impl_allIn.f, Option.bind_some, lensOk]
  by_cases h : 1 ≤ s ∧ s ≤ 200
  · rw [decide_eq_true h, if_pos rfl]
    by_cases h2 : (l.length : Int) ≤ 12
    · rw [if_pos h2, decide_eq_true ⟨h, by omega⟩, Bool.true_and]
      simp [Bool.decide_and]
    · rw [if_neg h2, decide_eq_false (by omega), Bool.false_and]
  · rw [decide_eq_false h, if_neg (by simp), decide_eq_false (fun hh => h hh.1), Bool.false_and]
theorem lens_spec (l : List Int) (s : Int) (k : Nat) (hl : l.length ≤ 9223372036854775807) (hk : l.length < k) : spec_LengthsOk.f k l s = some (lensOk l s) := by
  unfold spec_LengthsOk.f
  rw [run_all (fun k x5 => spec_LengthsOk.l0 k l s x5) l.length hl (fun i => decide (1 ≤ l.getD i 0 ∧ l.getD i 0 ≤ s)) false (some (decide ((1 ≤ s ∧ s ≤ 200) ∧ l.length ≤ 12)))
    (fun k i hi => by
      simp only [spec_LengthsOk.l0, in_spec, Option.bind_some, rd_nat]
      rw [if_pos (by omega), if_pos (by omega)])
    (fun k => by
      simp only [spec_LengthsOk.l0, in_spec, Option.bind_some]
      rw [if_neg (by omega)]
      by_cases h : 1 ≤ s ∧ s ≤ 200
      · rw [decide_eq_true h, if_pos rfl]
        congr 1
        rw [decide_eq_decide]
        omega
      · rw [decide_eq_false h, if_neg (by simp), decide_eq_false (fun hh => h hh.1)]) k hk]
  rw [all_range_getD l 0 (fun x => decide (1 ≤ x ∧ x ≤ s))]
  unfold lensOk
  cases l.all (fun x => decide (1 ≤ x ∧ x ≤ s)) <;> simp

end Go.Proofs.Ytcjbdbbnbhobbaa.Lem
