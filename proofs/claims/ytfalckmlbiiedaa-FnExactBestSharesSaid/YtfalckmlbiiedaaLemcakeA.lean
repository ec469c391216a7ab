/- Plain lemmas on the printed functions: what they compute; conditions stand in each lemma. -/
import Derived.Test.YtfalckmlbiiedaaQx4
import Derived.Test.YtfalckmlbiiedaaQx10
import Derived.Test.YtfalckmlbiiedaaLembase
import Derived.Test.YtfalckmlbiiedaaLemin
import Derived.Test.YtfalckmlbiiedaaLemints
namespace Go.Proofs.Ytfalckmlbiiedaa.Lem
open Go.RowKit Go.Proofs.Ytfalckmlbiiedaa.Q Go.Proofs.YtfalckmlbiiedaaW.PrintWords Go.Proofs.YtfalckmlbiiedaaW.PrintLast Go.Proofs.YtfalckmlbiiedaaW.PrintMore Go.Proofs.Ytfalckmlbiiedaa.Lem
set_option linter.unusedVariables false
set_option linter.unusedSimpArgs false
def cakeOk (l : List Int) : Bool := decide (1 ≤ l.length ∧ l.length ≤ 40) && l.all fun x => decide (0 ≤ x ∧ x ≤ 1000)
theorem cakeOk_iff {l : List Int} : cakeOk l = true ↔ (1 ≤ l.length ∧ l.length ≤ 40) ∧ ∀ x ∈ l, 0 ≤ x ∧ x ≤ 1000 := by simp [cakeOk, List.all_eq_true]
theorem cake_impl (l : List Int) : impl_CakeOk.f l = some (cakeOk l) := by
  simp only [impl_CakeOk.f, in_impl, impl_allIn.f, Option.bind_some, cakeOk]
  by_cases h : (1 : Int) ≤ l.length ∧ (l.length : Int) ≤ 40
  · rw [decide_eq_true h, if_pos rfl, decide_eq_true (by omega), Bool.true_and]
    simp [Bool.decide_and]
  · rw [decide_eq_false h, if_neg (by simp), decide_eq_false (by omega), Bool.false_and]
theorem cake_spec (l : List Int) (k : Nat) (hl : l.length ≤ 9223372036854775807) (hk : l.length < k) : spec_CakeOk.f k l = some (cakeOk l) := by
  unfold spec_CakeOk.f
  rw [run_all (fun k x3 => spec_CakeOk.l0 k l x3) l.length hl (fun i => decide (0 ≤ l.getD i 0 ∧ l.getD i 0 ≤ 1000)) false (some (decide (1 ≤ l.length ∧ l.length ≤ 40)))
    (fun k i hi => by
      simp only [spec_CakeOk.l0, in_spec, Option.bind_some, rd_nat]
      rw [if_pos (by omega), if_pos (by omega)])
    (fun k => by
      simp only [spec_CakeOk.l0, in_spec, Option.bind_some]
      rw [if_neg (by omega)]
      congr 1
      rw [decide_eq_decide]
      omega) k hk]
  rw [all_range_getD l 0 (fun x => decide (0 ≤ x ∧ x ≤ 1000))]
  unfold cakeOk
  cases l.all (fun x => decide (0 ≤ x ∧ x ≤ 1000)) <;> simp

end Go.Proofs.Ytfalckmlbiiedaa.Lem
