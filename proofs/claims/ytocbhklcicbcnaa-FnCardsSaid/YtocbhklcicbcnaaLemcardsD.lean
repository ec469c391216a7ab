/- Plain lemmas on the printed functions: what they compute; conditions stand in each lemma. -/
import Derived.Test.YtocbhklcicbcnaaQx4
import Derived.Test.YtocbhklcicbcnaaQx5
import Derived.Test.YtocbhklcicbcnaaLembase
import Derived.Test.YtocbhklcicbcnaaLemin
import Derived.Test.YtocbhklcicbcnaaLemcardsA
namespace Go.Proofs.Ytocbhklcicbcnaa.Lem
open Go.RowKit Go.Proofs.Ytocbhklcicbcnaa.Q Go.Proofs.YtocbhklcicbcnaaW.PrintWords Go.Proofs.YtocbhklcicbcnaaW.PrintLast Go.Proofs.YtocbhklcicbcnaaW.PrintMore Go.Proofs.Ytocbhklcicbcnaa.Lem
set_option linter.unusedVariables false
set_option linter.unusedSimpArgs false
def buy (a b n : Int) : Int × Int × Bool :=
  if cardOk a b = true ∧ 0 ≤ n ∧ n ≤ 1000 ∧ cardOk ((a + n) % 10) (b + (a + n) / 10) = true then ((a + n) % 10, b + (a + n) / 10, true) else (a, b, false)
theorem buy_spec (k : Nat) (a b n : Int) : spec_BuyLoaves.f (k + 1) a b n = some (buy a b n) := by
  simp only [spec_BuyLoaves.f, card_spec, in_spec, Option.bind_some, spec_BuyLoaves.j0, buy]
  by_cases h : cardOk a b = true
  · have := cardOk_iff.1 h
    by_cases h2 : 0 ≤ n ∧ n ≤ 1000
    · have e1 : wrap64 (a + n) = a + n := w64 (by omega) (by omega)
      have e2 : Int.tmod (a + n) 10 = (a + n) % 10 := Int.tmod_eq_emod_of_nonneg (by omega)
      have e3 : Int.tdiv (a + n) 10 = (a + n) / 10 := Int.tdiv_eq_ediv_of_nonneg (by omega)
      have e4 : wrap64 ((a + n) / 10) = (a + n) / 10 := w64 (by omega) (by omega)
      have e5 : wrap64 (b + (a + n) / 10) = b + (a + n) / 10 := w64 (by omega) (by omega)
      simp only [h, h2, e1, e2, e3, e4, e5, and_self, decide_true, if_true, true_and, Bool.not_true, Bool.false_eq_true, if_false]
      by_cases h3 : cardOk ((a + n) % 10) (b + (a + n) / 10) = true <;> simp [h3]
    · rw [if_neg (c := cardOk a b = true ∧ _) (fun hh => h2 ⟨hh.2.1, hh.2.2.1⟩)]
      simp [h, h2]
  · simp [h]
theorem buy_impl (k : Nat) (a b n : Int) : impl_BuyLoaves.f (k + 1) a b n = some (buy a b n) := by
  simp only [impl_BuyLoaves.f, card_impl, in_impl, Option.bind_some, impl_BuyLoaves.j0, buy]
  by_cases h : cardOk a b = true
  · have := cardOk_iff.1 h
    by_cases h2 : 0 ≤ n ∧ n ≤ 1000
    · have e1 : wrap64 (a + n) = a + n := w64 (by omega) (by omega)
      have e2 : Int.tmod (a + n) 10 = (a + n) % 10 := Int.tmod_eq_emod_of_nonneg (by omega)
      have e3 : Int.tdiv (a + n) 10 = (a + n) / 10 := Int.tdiv_eq_ediv_of_nonneg (by omega)
      have e4 : wrap64 ((a + n) / 10) = (a + n) / 10 := w64 (by omega) (by omega)
      have e5 : wrap64 (b + (a + n) / 10) = b + (a + n) / 10 := w64 (by omega) (by omega)
      simp only [h, h2, e1, e2, e3, e4, e5, and_self, decide_true, if_true, true_and, Bool.not_true, Bool.false_eq_true, if_false]
      by_cases h3 : cardOk ((a + n) % 10) (b + (a + n) / 10) = true <;> simp [h3]
    · rw [if_neg (c := cardOk a b = true ∧ _) (fun hh => h2 ⟨hh.2.1, hh.2.2.1⟩)]
      simp [h, h2]
  · simp [h]

end Go.Proofs.Ytocbhklcicbcnaa.Lem
