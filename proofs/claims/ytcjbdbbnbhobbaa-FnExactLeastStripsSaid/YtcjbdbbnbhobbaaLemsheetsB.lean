/- Plain lemmas on the printed functions: what they compute; conditions stand in each lemma. -/
import Derived.Test.YtcjbdbbnbhobbaaQx13
import Derived.Test.YtcjbdbbnbhobbaaQx14
import Derived.Test.YtcjbdbbnbhobbaaLembase
import Derived.Test.YtcjbdbbnbhobbaaLemin
import Derived.Test.YtcjbdbbnbhobbaaLemints
import Derived.Test.YtcjbdbbnbhobbaaLemsheetsA
import Derived.Test.YtcjbdbbnbhobbaaLemsumB
import Derived.Test.YtcjbdbbnbhobbaaLemsumS
import Derived.Test.YtcjbdbbnbhobbaaLemsumI
namespace Go.Proofs.Ytcjbdbbnbhobbaa.Lem
open Go.RowKit Go.Proofs.Ytcjbdbbnbhobbaa.Q Go.Proofs.YtcjbdbbnbhobbaaW.PrintWords Go.Proofs.YtcjbdbbnbhobbaaW.PrintLast Go.Proofs.YtcjbdbbnbhobbaaW.PrintMore Go.Proofs.Ytcjbdbbnbhobbaa.Lem
set_option linter.unusedVariables false
set_option linter.unusedSimpArgs false
theorem lens_small {l : List Int} {s : Int} (h : lensOk l s = true) : Small l := by
  obtain ⟨⟨h1, h2⟩, h3⟩ := lensOk_iff.1 h
  refine ⟨200, fun x hx => ?_, by omega, by omega⟩
  have := h3 x hx
  omega
theorem mx_eq (a b : Int) : mx a b = max a b := by unfold mx; omega
theorem mn_eq (a b : Int) : mn a b = min a b := by unfold mn; omega
def waste (l : List Int) (s n : Int) : Int := if lensOk l s = true ∧ 0 ≤ n ∧ n ≤ 12 then max (n * s - l.sum) (-1) else -1
theorem mul12 {s n : Int} (h1 : 1 ≤ s ∧ s ≤ 200) (h2 : 0 ≤ n ∧ n ≤ 12) : 0 ≤ n * s ∧ n * s ≤ 2400 := by
  obtain ⟨a, b⟩ := h1
  obtain ⟨c, d⟩ := h2
  refine ⟨Int.mul_nonneg c (by omega), ?_⟩
  have h3 : n * s ≤ n * 200 := Int.mul_le_mul_of_nonneg_left b c
  omega
theorem sum_small {l : List Int} {s : Int} (h : lensOk l s = true) : 0 ≤ l.sum ∧ l.sum ≤ 2400 := by
  obtain ⟨⟨h1, h2⟩, h3⟩ := lensOk_iff.1 h
  have := sum_bounds (M := 200) l (fun x hx => by have := h3 x hx; omega)
  omega
theorem waste_impl (l : List Int) (s n : Int) (k : Nat) (hl : l.length ≤ 9223372036854775807) (hk : l.length < k) : impl_WasteOf.f k l s n = some (waste l s n) := by
  simp only [impl_WasteOf.f, lens_impl, in_impl, Option.bind_some, waste]
  by_cases h : lensOk l s = true
  · by_cases h2 : 0 ≤ n ∧ n ≤ 12
    · have a := mul12 (lensOk_iff.1 h).1.1 h2
      have b := sum_small h
      rw [if_pos h, decide_eq_true h2, if_pos rfl, sumI_impl l (lens_small h) k hk, if_pos ⟨h, h2⟩]
      simp only [Option.bind_some]
      rw [w64 (n := n * s) (by omega) (by omega), w64 (by omega) (by omega), mx_eq]
    · rw [if_pos h, decide_eq_false h2, if_neg (by simp), if_neg (fun hh => h2 hh.2)]
  · rw [if_neg h, if_neg (fun hh => h hh.1)]
theorem waste_spec (l : List Int) (s n : Int) (k : Nat) (hl : l.length ≤ 9223372036854775807) (hk : l.length < k) : spec_WasteOf.f k l s n = some (waste l s n) := by
  simp only [spec_WasteOf.f, lens_spec l s k hl hk, in_spec, Option.bind_some, waste]
  by_cases h : lensOk l s = true
  · by_cases h2 : 0 ≤ n ∧ n ≤ 12
    · have a := mul12 (lensOk_iff.1 h).1.1 h2
      have b := sum_small h
      rw [if_pos h, decide_eq_true h2, if_pos rfl, sumS_spec l (lens_small h) k hk, if_pos ⟨h, h2⟩]
      simp only [Option.bind_some]
      rw [w64 (n := n * s) (by omega) (by omega), w64 (by omega) (by omega), mx_eq, Int.max_comm]
    · rw [if_pos h, decide_eq_false h2, if_neg (by simp), if_neg (fun hh => h2 hh.2)]
  · rw [if_neg h, if_neg (fun hh => h hh.1)]

end Go.Proofs.Ytcjbdbbnbhobbaa.Lem
