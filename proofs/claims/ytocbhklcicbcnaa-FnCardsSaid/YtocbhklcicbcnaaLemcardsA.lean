/- Plain lemmas on the printed functions: what they compute; conditions stand in each lemma. -/
import Derived.Test.YtocbhklcicbcnaaQx1
import Derived.Test.YtocbhklcicbcnaaLembase
import Derived.Test.YtocbhklcicbcnaaLemin
namespace Go.Proofs.Ytocbhklcicbcnaa.Lem
open Go.RowKit Go.Proofs.Ytocbhklcicbcnaa.Q Go.Proofs.YtocbhklcicbcnaaW.PrintWords Go.Proofs.YtocbhklcicbcnaaW.PrintLast Go.Proofs.YtocbhklcicbcnaaW.PrintMore Go.Proofs.Ytocbhklcicbcnaa.Lem
set_option linter.unusedVariables false
set_option linter.unusedSimpArgs false
def cardOk (a b : Int) : Bool := decide ((0 ≤ a ∧ a ≤ 9) ∧ 0 ≤ b ∧ b ≤ 1000)
theorem cardOk_iff {a b : Int} : cardOk a b = true ↔ (0 ≤ a ∧ a ≤ 9) ∧ 0 ≤ b ∧ b ≤ 1000 := by simp [cardOk]
theorem card_spec (a b : Int) : spec_CardOk.f a b = some (cardOk a b) := by
  simp only [spec_CardOk.f, in_spec, Option.bind_some, cardOk]
  by_cases h : 0 ≤ a ∧ a ≤ 9 <;> simp [h]
theorem card_impl (a b : Int) : impl_CardOk.f a b = some (cardOk a b) := by
  simp only [impl_CardOk.f, in_impl, Option.bind_some, cardOk]
  by_cases h : 0 ≤ a ∧ a ≤ 9 <;> simp [h]

end Go.Proofs.Ytocbhklcicbcnaa.Lem
