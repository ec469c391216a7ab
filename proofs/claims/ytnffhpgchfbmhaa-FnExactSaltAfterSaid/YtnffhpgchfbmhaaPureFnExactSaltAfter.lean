/- FnExactSaltAfter: the program's SaltAfter answers as the reference's does, at all arguments; no condition. -/
import Derived.Test.YtnffhpgchfbmhaaQx1
import Derived.Test.YtnffhpgchfbmhaaLembase
import Derived.Test.YtnffhpgchfbmhaaLemin
namespace Go.Proofs.Ytnffhpgchfbmhaa.Pure
open Go.RowKit Go.Proofs.Ytnffhpgchfbmhaa.Q Go.Proofs.YtnffhpgchfbmhaaW.PrintWords Go.Proofs.YtnffhpgchfbmhaaW.PrintLast Go.Proofs.YtnffhpgchfbmhaaW.PrintMore Go.Proofs.Ytnffhpgchfbmhaa.Lem
set_option linter.unusedVariables false
set_option linter.unusedSimpArgs false
def saltAfter (g m : Int) : Int := if (1 ≤ g ∧ g ≤ 1000000) ∧ 0 ≤ m ∧ m ≤ g then wrap64 (Int.tdiv (wrap64 (m * 1000)) g) else -1
theorem salt_spec (g m : Int) : spec_SaltAfter.f g m = some (saltAfter g m) := by
  simp only [spec_SaltAfter.f, in_spec, Option.bind_some, saltAfter]
  by_cases h : 1 ≤ g ∧ g ≤ 1000000
  · by_cases h2 : 0 ≤ m ∧ m ≤ g
    · rw [decide_eq_true h, if_pos rfl, decide_eq_true h2, if_pos rfl, if_neg (by omega), if_pos ⟨h, h2⟩]
    · rw [decide_eq_true h, if_pos rfl, decide_eq_false h2, if_neg (by simp), if_neg (fun hh => h2 hh.2)]
  · rw [decide_eq_false h, if_neg (by simp), if_neg (fun hh => h hh.1)]
theorem salt_impl (g m : Int) : impl_SaltAfter.f g m = some (saltAfter g m) := by
  simp only [impl_SaltAfter.f, in_impl, Option.bind_some, saltAfter]
  by_cases h : 1 ≤ g ∧ g ≤ 1000000
  · by_cases h2 : 0 ≤ m ∧ m ≤ g
    · rw [decide_eq_true h, if_pos rfl, decide_eq_true h2, if_pos rfl, if_neg (by omega), if_pos ⟨h, h2⟩]
    · rw [decide_eq_true h, if_pos rfl, decide_eq_false h2, if_neg (by simp), if_neg (fun hh => h2 hh.2)]
  · rw [decide_eq_false h, if_neg (by simp), if_neg (fun hh => h hh.1)]
theorem FnExactSaltAfter : laws_FnExactSaltAfter.Pure := by
  intro g m _ _
  simp [laws_FnExactSaltAfter.f, salt_spec, salt_impl]

end Go.Proofs.Ytnffhpgchfbmhaa.Pure
