/- Plain lemmas on the printed functions: what they compute; conditions stand in each lemma. -/
import Derived.Test.YtnffhpgchfbmhaaQx0
import Derived.Test.YtnffhpgchfbmhaaLembase
namespace Go.Proofs.Ytnffhpgchfbmhaa.Lem
open Go.RowKit Go.Proofs.Ytnffhpgchfbmhaa.Q Go.Proofs.YtnffhpgchfbmhaaW.PrintWords Go.Proofs.YtnffhpgchfbmhaaW.PrintLast Go.Proofs.YtnffhpgchfbmhaaW.PrintMore Go.Proofs.Ytnffhpgchfbmhaa.Lem
set_option linter.unusedVariables false
set_option linter.unusedSimpArgs false
theorem sum_bounds {M : Int} : ∀ (l : List Int), (∀ x ∈ l, 0 ≤ x ∧ x ≤ M) → 0 ≤ l.sum ∧ l.sum ≤ l.length * M
  | [], _ => by simp
  | a :: l, h => by
    have := sum_bounds l (fun x hx => h x (List.mem_cons_of_mem _ hx))
    have ha := h a List.mem_cons_self
    rw [List.sum_cons, List.length_cons]
    have e : ((l.length + 1 : Nat) : Int) * M = l.length * M + M := by
      rw [Int.natCast_add, Int.add_mul]
      simp
    omega
/-- Small sums: a list whose numbers are from 0 to M, and whose length times M is small. -/
def Small (l : List Int) : Prop := ∃ M : Int, (∀ x ∈ l, 0 ≤ x ∧ x ≤ M) ∧ l.length * M ≤ 4611686018427387904 ∧ l.length ≤ 4611686018427387904
theorem Small.drop {l : List Int} (h : Small l) (i : Nat) : 0 ≤ (l.drop i).sum ∧ (l.drop i).sum ≤ l.sum := by
  obtain ⟨M, h1, h2, h3⟩ := h
  have e : l.sum = (l.take i).sum + (l.drop i).sum := by rw [← List.sum_append, List.take_append_drop]
  have a := sum_bounds (M := M) (l.take i) (fun x hx => h1 x (List.mem_of_mem_take hx))
  have b := sum_bounds (M := M) (l.drop i) (fun x hx => h1 x (List.mem_of_mem_drop hx))
  omega
theorem Small.sum {l : List Int} (h : Small l) : 0 ≤ l.sum ∧ l.sum ≤ 4611686018427387904 := by
  obtain ⟨M, h1, h2, h3⟩ := h
  have := sum_bounds l h1
  omega

end Go.Proofs.Ytnffhpgchfbmhaa.Lem
