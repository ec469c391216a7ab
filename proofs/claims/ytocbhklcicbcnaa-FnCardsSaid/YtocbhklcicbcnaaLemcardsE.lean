/- Plain lemmas on the printed functions: what they compute; conditions stand in each lemma. -/
import Derived.Test.YtocbhklcicbcnaaQx7
import Derived.Test.YtocbhklcicbcnaaQx8
import Derived.Test.YtocbhklcicbcnaaLembase
import Derived.Test.YtocbhklcicbcnaaLemin
import Derived.Test.YtocbhklcicbcnaaLemcardsA
namespace Go.Proofs.Ytocbhklcicbcnaa.Lem
open Go.RowKit Go.Proofs.Ytocbhklcicbcnaa.Q Go.Proofs.YtocbhklcicbcnaaW.PrintWords Go.Proofs.YtocbhklcicbcnaaW.PrintLast Go.Proofs.YtocbhklcicbcnaaW.PrintMore Go.Proofs.Ytocbhklcicbcnaa.Lem
set_option linter.unusedVariables false
set_option linter.unusedSimpArgs false
def join (a b c d : Int) : Int × Int × Bool :=
  if cardOk a b = true ∧ cardOk c d = true ∧ cardOk ((a + c) % 10) (b + d + (a + c) / 10) = true then ((a + c) % 10, b + d + (a + c) / 10, true) else (0, 0, false)
theorem join_spec (k : Nat) (a b c d : Int) : spec_JoinCards.f (k + 1) a b c d = some (join a b c d) := by
  simp only [spec_JoinCards.f, card_spec, Option.bind_some, spec_JoinCards.j0, join]
  by_cases h : cardOk a b = true
  · have := cardOk_iff.1 h
    by_cases h2 : cardOk c d = true
    · have := cardOk_iff.1 h2
      have e1 : wrap64 (a + c) = a + c := w64 (by omega) (by omega)
      have e2 : Int.tmod (a + c) 10 = (a + c) % 10 := Int.tmod_eq_emod_of_nonneg (by omega)
      have e3 : Int.tdiv (a + c) 10 = (a + c) / 10 := Int.tdiv_eq_ediv_of_nonneg (by omega)
      have e4 : wrap64 ((a + c) / 10) = (a + c) / 10 := w64 (by omega) (by omega)
      have e6 : wrap64 (b + d) = b + d := w64 (by omega) (by omega)
      have e5 : wrap64 (b + d + (a + c) / 10) = b + d + (a + c) / 10 := w64 (by omega) (by omega)
      simp only [h, h2, e1, e2, e3, e4, e5, e6, if_true, true_and, Bool.not_true, Bool.false_eq_true, if_false]
      by_cases h3 : cardOk ((a + c) % 10) (b + d + (a + c) / 10) = true <;> simp [h3]
    · simp [h, h2]
  · simp [h]
theorem join_impl (k : Nat) (a b c d : Int) : impl_JoinCards.f (k + 1) a b c d = some (join a b c d) := by
  simp only [impl_JoinCards.f, card_impl, Option.bind_some, impl_JoinCards.j0, join]
  by_cases h : cardOk a b = true
  · have := cardOk_iff.1 h
    by_cases h2 : cardOk c d = true
    · have := cardOk_iff.1 h2
      have e1 : wrap64 (a + c) = a + c := w64 (by omega) (by omega)
      have e2 : Int.tmod (a + c) 10 = (a + c) % 10 := Int.tmod_eq_emod_of_nonneg (by omega)
      have e3 : Int.tdiv (a + c) 10 = (a + c) / 10 := Int.tdiv_eq_ediv_of_nonneg (by omega)
      have e4 : wrap64 ((a + c) / 10) = (a + c) / 10 := w64 (by omega) (by omega)
      have e6 : wrap64 (b + d) = b + d := w64 (by omega) (by omega)
      have e5 : wrap64 (b + d + (a + c) / 10) = b + d + (a + c) / 10 := w64 (by omega) (by omega)
      simp only [h, h2, e1, e2, e3, e4, e5, e6, if_true, true_and, Bool.not_true, Bool.false_eq_true, if_false]
      by_cases h3 : cardOk ((a + c) % 10) (b + d + (a + c) / 10) = true <;> simp [h3]
    · simp [h, h2]
  · simp [h]

end Go.Proofs.Ytocbhklcicbcnaa.Lem
