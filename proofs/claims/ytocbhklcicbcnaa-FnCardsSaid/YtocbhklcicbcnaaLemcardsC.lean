/- Plain lemmas on the printed functions: what they compute; conditions stand in each lemma. -/
import Derived.Test.YtocbhklcicbcnaaQx2
import Derived.Test.YtocbhklcicbcnaaLembase
import Derived.Test.YtocbhklcicbcnaaLemin
import Derived.Test.YtocbhklcicbcnaaLemcardsA
namespace Go.Proofs.Ytocbhklcicbcnaa.Lem
open Go.RowKit Go.Proofs.Ytocbhklcicbcnaa.Q Go.Proofs.YtocbhklcicbcnaaW.PrintWords Go.Proofs.YtocbhklcicbcnaaW.PrintLast Go.Proofs.YtocbhklcicbcnaaW.PrintMore Go.Proofs.Ytocbhklcicbcnaa.Lem
set_option linter.unusedVariables false
set_option linter.unusedSimpArgs false
def useFree (a b : Int) : Int × Int × Bool := if cardOk a b = true ∧ b ≠ 0 then (a, b - 1, true) else (a, b, false)
theorem use_spec (a b : Int) : spec_UseFree.f a b = some (useFree a b) := by
  simp only [spec_UseFree.f, card_spec, Option.bind_some, useFree]
  by_cases h : cardOk a b = true
  · have := cardOk_iff.1 h
    by_cases h2 : b = 0
    · simp [h, h2]
    · simp only [h, h2, if_true, if_false, not_false_eq_true, and_self, ne_eq]
      rw [w64 (by omega) (by omega)]
  · simp [h]
theorem use_impl (a b : Int) : impl_UseFree.f a b = some (useFree a b) := by
  simp only [impl_UseFree.f, card_impl, Option.bind_some, useFree]
  by_cases h : cardOk a b = true
  · have := cardOk_iff.1 h
    by_cases h2 : b = 0
    · simp [h, h2]
    · simp only [h, h2, if_true, if_false, not_false_eq_true, and_self, ne_eq]
      rw [w64 (by omega) (by omega)]
  · simp [h]
theorem eqCard_self (a b : Int) : laws_eqCard.f a b a b = some true := by simp [laws_eqCard.f]

end Go.Proofs.Ytocbhklcicbcnaa.Lem
