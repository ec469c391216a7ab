/- Plain lemmas on the printed functions: what they compute; conditions stand in each lemma. -/
import Derived.Test.YtgibgapbbnbekaaQx1
import Derived.Test.YtgibgapbbnbekaaQx2
import Derived.Test.YtgibgapbbnbekaaQx3
import Derived.Test.YtgibgapbbnbekaaLembase
import Derived.Test.YtgibgapbbnbekaaLemin
namespace Go.Proofs.Ytgibgapbbnbekaa.Lem
open Go.RowKit Go.Proofs.Ytgibgapbbnbekaa.Q Go.Proofs.YtgibgapbbnbekaaW.PrintWords Go.Proofs.YtgibgapbbnbekaaW.PrintLast Go.Proofs.YtgibgapbbnbekaaW.PrintMore Go.Proofs.Ytgibgapbbnbekaa.Lem
set_option linter.unusedVariables false
set_option linter.unusedSimpArgs false
def frOk (a b : Int) : Bool := decide ((1 ≤ a ∧ a ≤ 48) ∧ 0 ≤ b ∧ b ≤ 48)
theorem frozen_spec (a b : Int) : spec_FrozenOk.f a b = some (frOk a b) := by
  simp only [spec_FrozenOk.f, in_spec, Option.bind_some, frOk]
  by_cases h : 1 ≤ a ∧ a ≤ 48 <;> simp [h]
theorem frozen_impl (a b : Int) : impl_FrozenOk.f a b = some (frOk a b) := by
  simp only [impl_FrozenOk.f, in_impl, Option.bind_some, frOk]
  by_cases h : 1 ≤ a ∧ a ≤ 48 <;> simp [h]
theorem frOk_iff {a b : Int} : frOk a b = true ↔ (1 ≤ a ∧ a ≤ 48) ∧ 0 ≤ b ∧ b ≤ 48 := by simp [frOk]
def outAt (a b w : Int) : Int × Int × Bool := if frOk a b = true ∧ -48 ≤ w ∧ w ≤ 1000 then (w - a - b, w - a, true) else (0, 0, false)
theorem outAt_spec (a b w : Int) : spec_OutAt.f a b w = some (outAt a b w) := by
  simp only [spec_OutAt.f, frozen_spec, in_spec, Option.bind_some, outAt]
  by_cases h : frOk a b = true
  · by_cases h2 : -48 ≤ w ∧ w ≤ 1000
    · have := frOk_iff.1 h
      simp only [h, h2, and_self, decide_true, if_true]
      rw [w64 (n := w - a) (by omega) (by omega), w64 (by omega) (by omega)]
    · simp [h, h2]
  · simp [h]
theorem outAt_impl (a b w : Int) : impl_OutAt.f a b w = some (outAt a b w) := by
  simp only [impl_OutAt.f, frozen_impl, in_impl, Option.bind_some, outAt]
  by_cases h : frOk a b = true
  · by_cases h2 : -48 ≤ w ∧ w ≤ 1000
    · have := frOk_iff.1 h
      simp only [h, h2, and_self, decide_true, if_true]
      rw [w64 (n := w - a) (by omega) (by omega), w64 (by omega) (by omega)]
    · simp [h, h2]
  · simp [h]
def isGood (a b o n : Int) : Bool := decide (frOk a b = true ∧ (-1000 ≤ o ∧ o ≤ 1000) ∧ (-1000 ≤ n ∧ n ≤ 1000) ∧ o + a ≤ n ∧ n ≤ o + a + b)
theorem isGood_spec (a b o n : Int) : spec_IsGood.f a b o n = some (isGood a b o n) := by
  simp only [spec_IsGood.f, frozen_spec, in_spec, Option.bind_some, isGood]
  by_cases h : frOk a b = true
  · have hh := frOk_iff.1 h
    by_cases h2 : -1000 ≤ o ∧ o ≤ 1000
    · by_cases h3 : -1000 ≤ n ∧ n ≤ 1000
      · simp only [h, h2, h3, and_self, decide_true, if_true, true_and]
        rw [w64 (n := n - o) (by omega) (by omega), w64 (n := a + b) (by omega) (by omega)]
        congr 1
        rw [decide_eq_decide]
        omega
      · simp [h, h2, h3]
    · simp [h, h2]
  · simp [h]
theorem isGood_impl (a b o n : Int) : impl_IsGood.f a b o n = some (isGood a b o n) := by
  simp only [impl_IsGood.f, frozen_impl, in_impl, Option.bind_some, isGood]
  by_cases h : frOk a b = true
  · have hh := frOk_iff.1 h
    by_cases h2 : -1000 ≤ o ∧ o ≤ 1000
    · by_cases h3 : -1000 ≤ n ∧ n ≤ 1000
      · simp only [h, h2, h3, and_self, decide_true, if_true, true_and]
        rw [w64 (n := o + a) (by omega) (by omega), w64 (n := o + a + b) (by omega) (by omega)]
      · simp [h, h2, h3]
    · simp [h, h2]
  · simp [h]

end Go.Proofs.Ytgibgapbbnbekaa.Lem
