/- Plain lemmas on the printed functions: what they compute; conditions stand in each lemma. -/
import Derived.Test.YtfalckmlbiiedaaQx7
import Derived.Test.YtfalckmlbiiedaaQx19
import Derived.Test.YtfalckmlbiiedaaLembase
import Derived.Test.YtfalckmlbiiedaaLemin
import Derived.Test.YtfalckmlbiiedaaLemints
import Derived.Test.YtfalckmlbiiedaaLemcakeA
import Derived.Test.YtfalckmlbiiedaaLemsumS
import Derived.Test.YtfalckmlbiiedaaLemsumI
import Derived.Test.YtfalckmlbiiedaaLemcakeB
namespace Go.Proofs.Ytfalckmlbiiedaa.Lem
open Go.RowKit Go.Proofs.Ytfalckmlbiiedaa.Q Go.Proofs.YtfalckmlbiiedaaW.PrintWords Go.Proofs.YtfalckmlbiiedaaW.PrintLast Go.Proofs.YtfalckmlbiiedaaW.PrintMore Go.Proofs.Ytfalckmlbiiedaa.Lem
set_option linter.unusedVariables false
set_option linter.unusedSimpArgs false
theorem half_in {l : List Int} (h : cakeOk l = true) : 0 ≤ (half l).1 ∧ (half l).1 ≤ l.length ∧ (half l).2 = min (l.take (half l).1.toNat).sum (l.drop (half l).1.toNat).sum := by
  have hr := half_rel h
  obtain ⟨r1, r2, r3, r4, r5⟩ := hr
  unfold half
  rw [if_pos h]
  exact ⟨r3, r4, r5⟩
def choose (m y : List Int) : Int × Int :=
  if cakeOk m = true ∧ cakeOk y = true ∧ m.length = y.length then
    if (y.take (half m).1.toNat).sum ≥ (y.drop (half m).1.toNat).sum then ((m.drop (half m).1.toNat).sum, (y.take (half m).1.toNat).sum) else ((m.take (half m).1.toNat).sum, (y.drop (half m).1.toNat).sum)
  else (-1, -1)
theorem choose_spec (m y : List Int) (k : Nat) (hm : m.length ≤ 1000000000) (hy : y.length ≤ 1000000000) (hk : 2 * m.length + 2 * y.length + 16 < k) : spec_Chooser.f k m y = some (choose m y) := by
  obtain ⟨k, rfl⟩ : ∃ q, k = q + 1 := ⟨k - 1, by omega⟩
  simp only [spec_Chooser.f, cake_spec m (k + 1) (by omega) (by omega), cake_spec y (k + 1) (by omega) (by omega), Option.bind_some, choose, spec_Chooser.j0]
  by_cases h1 : cakeOk m = true
  · by_cases h2 : cakeOk y = true
    · rw [if_pos h1, if_pos h2]
      by_cases h3 : m.length = y.length
      · have e : ((m.length : Int) != (y.length : Int)) = false := by rw [h3]; simp
        rw [e, if_neg (by simp), half_spec m k (by omega) (by omega), if_pos (c := cakeOk m = true ∧ _) ⟨h1, h2, h3⟩]
        simp only [Option.bind_some]
        have hi := half_in h1
        rw [if_pos hi.1, if_pos (by omega), sumS_spec _ ((cake_small h2).take _) k (by rw [List.length_take]; omega)]
        simp only [Option.bind_some]
        rw [sumS_spec _ ((cake_small h2).drop' _) k (by rw [List.length_drop]; omega)]
        simp only [Option.bind_some]
        by_cases h4 : (y.take (half m).1.toNat).sum ≥ (y.drop (half m).1.toNat).sum
        · rw [if_pos h4, if_pos h4, if_pos hi.2.1, sumS_spec _ ((cake_small h1).drop' _) k (by rw [List.length_drop]; omega)]
          rfl
        · rw [if_neg h4, if_neg h4, if_pos hi.2.1, sumS_spec _ ((cake_small h1).take _) k (by rw [List.length_take]; omega)]
          rfl
      · have e : ((m.length : Int) != (y.length : Int)) = true := by simp; omega
        rw [e, if_pos rfl, if_neg (c := cakeOk m = true ∧ _) (fun hh => h3 hh.2.2)]
    · rw [if_pos h1, if_neg h2, if_pos trivial, if_neg (c := cakeOk m = true ∧ _) (fun hh => h2 hh.2.1)]
  · rw [if_neg h1, if_pos trivial, if_neg (c := cakeOk m = true ∧ _) (fun hh => h1 hh.1)]
theorem choose_impl (m y : List Int) (k : Nat) (hm : m.length ≤ 1000000000) (hy : y.length ≤ 1000000000) (hk : 2 * m.length + 2 * y.length + 16 < k) : impl_Chooser.f k m y = some (choose m y) := by
  obtain ⟨k, rfl⟩ : ∃ q, k = q + 1 := ⟨k - 1, by omega⟩
  simp only [impl_Chooser.f, cake_impl, Option.bind_some, choose, impl_Chooser.j0]
  by_cases h1 : cakeOk m = true
  · by_cases h2 : cakeOk y = true
    · rw [if_pos h1, if_pos h2]
      by_cases h3 : m.length = y.length
      · have e : ((m.length : Int) != (y.length : Int)) = false := by rw [h3]; simp
        rw [e, if_neg (by simp), half_impl m k (by omega) (by omega), if_pos (c := cakeOk m = true ∧ _) ⟨h1, h2, h3⟩]
        simp only [Option.bind_some]
        have hi := half_in h1
        rw [if_pos hi.1, if_pos (by omega), sumI_impl _ ((cake_small h2).take _) k (by rw [List.length_take]; omega)]
        simp only [Option.bind_some]
        rw [sumI_impl _ ((cake_small h2).drop' _) k (by rw [List.length_drop]; omega)]
        simp only [Option.bind_some]
        by_cases h4 : (y.take (half m).1.toNat).sum ≥ (y.drop (half m).1.toNat).sum
        · rw [if_neg (by omega), if_pos h4, if_pos hi.2.1, sumI_impl _ ((cake_small h1).drop' _) k (by rw [List.length_drop]; omega)]
          rfl
        · rw [if_pos (by omega), if_neg h4, if_pos hi.2.1, sumI_impl _ ((cake_small h1).take _) k (by rw [List.length_take]; omega)]
          rfl
      · have e : ((m.length : Int) != (y.length : Int)) = true := by simp; omega
        rw [e, if_pos rfl, if_neg (c := cakeOk m = true ∧ _) (fun hh => h3 hh.2.2)]
    · rw [if_pos h1, if_neg h2, if_pos trivial, if_neg (c := cakeOk m = true ∧ _) (fun hh => h2 hh.2.1)]
  · rw [if_neg h1, if_pos trivial, if_neg (c := cakeOk m = true ∧ _) (fun hh => h1 hh.1)]

end Go.Proofs.Ytfalckmlbiiedaa.Lem
