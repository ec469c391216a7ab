/- Plain lemmas on the printed functions: what they compute; conditions stand in each lemma. -/
import Derived.Test.YtkgpjndlpjjobaaQx0
import Derived.Test.YtkgpjndlpjjobaaQx1
import Derived.Test.YtkgpjndlpjjobaaQx2
import Derived.Test.YtkgpjndlpjjobaaQx3
import Derived.Test.YtkgpjndlpjjobaaLembase
import Derived.Test.YtkgpjndlpjjobaaLemin
import Derived.Test.YtkgpjndlpjjobaaLemstFlour
namespace Go.Proofs.Ytkgpjndlpjjobaa.Lem
open Go.RowKit Go.Proofs.Ytkgpjndlpjjobaa.Q Go.Proofs.YtkgpjndlpjjobaaW.PrintWords Go.Proofs.YtkgpjndlpjjobaaW.PrintLast Go.Proofs.YtkgpjndlpjjobaaW.PrintMore Go.Proofs.Ytkgpjndlpjjobaa.Lem
set_option linter.unusedVariables false
set_option linter.unusedSimpArgs false
def flOk (f : S42) : Bool := decide ((50 ≤ f.f0 ∧ f.f0 ≤ 500) ∧ (1 ≤ f.f1 ∧ f.f1 ≤ 100) ∧ 0 ≤ f.f2 ∧ f.f2 ≤ 100)
theorem flOk_iff {f : S42} : flOk f = true ↔ (50 ≤ f.f0 ∧ f.f0 ≤ 500) ∧ (1 ≤ f.f1 ∧ f.f1 ≤ 100) ∧ 0 ≤ f.f2 ∧ f.f2 ≤ 100 := by simp [flOk]
def floursOk (l : List S42) : Bool := decide (1 ≤ l.length ∧ l.length ≤ 5) && l.all flOk
theorem floursOk_iff {l : List S42} : floursOk l = true ↔ (1 ≤ l.length ∧ l.length ≤ 5) ∧ ∀ f ∈ l, flOk f = true := by simp [floursOk, List.all_eq_true]
theorem flour_one (a b c : Int) : impl_FloursOk_1.f a b c = some (!flOk ⟨a, b, c⟩) := by
  simp only [impl_FloursOk_1.f, in_impl, Option.bind_some, flOk]
  by_cases h : 50 ≤ a ∧ a ≤ 500
  · rw [decide_eq_true h, if_pos rfl]
    by_cases h2 : 1 ≤ b ∧ b ≤ 100
    · rw [decide_eq_true h2, if_pos rfl]
      simp [h, h2]
    · rw [decide_eq_false h2, if_neg (by simp), decide_eq_false (fun hh => h2 hh.2.1)]
      rfl
  · rw [decide_eq_false h, if_neg (by simp), decide_eq_false (fun hh => h hh.1)]
    rfl
theorem flours_impl (l : List S42) : impl_FloursOk.f l = some (floursOk l) := by
  have e : impl_Flour_30.pred = fun x => !flOk x := by
    funext x
    simp only [impl_Flour_30.pred, flour_one]
    cases flOk x <;> simp
  simp only [impl_FloursOk.f, in_impl, impl_Flour_30.f, Option.bind_some, floursOk, e]
  by_cases h : (1 : Int) ≤ l.length ∧ (l.length : Int) ≤ 5
  · rw [decide_eq_true h, if_pos rfl, decide_eq_true (by omega), Bool.true_and]
    congr 1
    rw [List.any_eq_not_all_not]
    simp
  · rw [decide_eq_false h, if_neg (by simp), decide_eq_false (by omega), Bool.false_and]
theorem flours_spec (l : List S42) (k : Nat) (hl : l.length ≤ 1000000000) (hk : l.length < k) : spec_FloursOk.f k l = some (floursOk l) := by
  unfold spec_FloursOk.f
  rw [run_all (fun k x3 => spec_FloursOk.l0 k l x3) l.length (by omega) (fun i => flOk (l.getD i z42)) false (some (decide (1 ≤ l.length ∧ l.length ≤ 5)))
    (fun k i hi => by
      simp only [spec_FloursOk.l0, in_spec, Option.bind_some, rdIFlour]
      rw [if_pos (by omega), if_pos (by omega)]
      generalize l.getD i z42 = f
      unfold flOk
      by_cases h : 50 ≤ f.f0 ∧ f.f0 ≤ 500
      · rw [decide_eq_true h, if_pos rfl]
        by_cases h2 : 1 ≤ f.f1 ∧ f.f1 ≤ 100
        · rw [decide_eq_true h2, if_pos rfl]
          simp only [h, h2, and_self, true_and]
        · rw [decide_eq_false h2, if_neg (by simp), decide_eq_false (fun hh => h2 hh.2.1), if_neg (by simp)]
      · rw [decide_eq_false h, if_neg (by simp), decide_eq_false (fun hh => h hh.1), if_neg (by simp)])
    (fun k => by
      simp only [spec_FloursOk.l0, in_spec, Option.bind_some]
      rw [if_neg (by omega)]
      congr 1
      rw [decide_eq_decide]
      omega) k hk]
  rw [all_range_getD l z42 flOk]
  unfold floursOk
  cases l.all flOk <;> simp

end Go.Proofs.Ytkgpjndlpjjobaa.Lem
