/- Plain lemmas on the printed functions: what they compute; conditions stand in each lemma. -/
import Derived.Test.YtocbhklcicbcnaaQx1
import Derived.Test.YtocbhklcicbcnaaLembase
import Derived.Test.YtocbhklcicbcnaaLemin
import Derived.Test.YtocbhklcicbcnaaLemcardsA
namespace Go.Proofs.Ytocbhklcicbcnaa.Lem
open Go.RowKit Go.Proofs.Ytocbhklcicbcnaa.Q Go.Proofs.YtocbhklcicbcnaaW.PrintWords Go.Proofs.YtocbhklcicbcnaaW.PrintLast Go.Proofs.YtocbhklcicbcnaaW.PrintMore Go.Proofs.Ytocbhklcicbcnaa.Lem
set_option linter.unusedVariables false
set_option linter.unusedSimpArgs false
def untilFree (a b : Int) : Int := if cardOk a b = true then 10 - a else -1
theorem until_spec (a b : Int) : spec_LoavesUntilFree.f a b = some (untilFree a b) := by
  simp only [spec_LoavesUntilFree.f, card_spec, Option.bind_some, untilFree]
  by_cases h : cardOk a b = true
  · have := cardOk_iff.1 h
    simp only [h, if_true]
    rw [w64 (by omega) (by omega)]
  · simp [h]
theorem until_impl (a b : Int) : impl_LoavesUntilFree.f a b = some (untilFree a b) := by
  simp only [impl_LoavesUntilFree.f, card_impl, Option.bind_some, untilFree]
  by_cases h : cardOk a b = true
  · have := cardOk_iff.1 h
    simp only [h, if_true]
    rw [w64 (by omega) (by omega)]
  · simp [h]

end Go.Proofs.Ytocbhklcicbcnaa.Lem
