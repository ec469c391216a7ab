/- Plain lemmas on the printed functions: what they compute; conditions stand in each lemma. -/
import Derived.Test.YtcjbdbbnbhobbaaQx11
import Derived.Test.YtcjbdbbnbhobbaaQx12
import Derived.Test.YtcjbdbbnbhobbaaQx15
import Derived.Test.YtcjbdbbnbhobbaaLembase
import Derived.Test.YtcjbdbbnbhobbaaLemin
import Derived.Test.YtcjbdbbnbhobbaaLemints
import Derived.Test.YtcjbdbbnbhobbaaLemsheetsA
import Derived.Test.YtcjbdbbnbhobbaaLemsheetsB
import Derived.Test.YtcjbdbbnbhobbaaLemsumB
import Derived.Test.YtcjbdbbnbhobbaaLemsumS
import Derived.Test.YtcjbdbbnbhobbaaLemsumI
namespace Go.Proofs.Ytcjbdbbnbhobbaa.Lem
open Go.RowKit Go.Proofs.Ytcjbdbbnbhobbaa.Q Go.Proofs.YtcjbdbbnbhobbaaW.PrintWords Go.Proofs.YtcjbdbbnbhobbaaW.PrintLast Go.Proofs.YtcjbdbbnbhobbaaW.PrintMore Go.Proofs.Ytcjbdbbnbhobbaa.Lem
set_option linter.unusedVariables false
set_option linter.unusedSimpArgs false
def longs (s : Int) (l : List Int) : Int := l.foldl (fun c x => if 2 * x > s then c + 1 else c) 0
def least (l : List Int) (s : Int) : Int := if lensOk l s = true then max ((l.sum + s - 1) / s) (longs s l) else -1
theorem wrap64_small_mul {x : Int} (h : -1000 ≤ x) (h2 : x ≤ 1000) : wrap64 (2 * x) = 2 * x := w64 (by omega) (by omega)
theorem count_bound (l : List Int) (p : Int → Prop) [DecidablePred p] : ∀ c : Int, c ≤ l.foldl (fun c x => if p x then c + 1 else c) c ∧ l.foldl (fun c x => if p x then c + 1 else c) c ≤ c + l.length := by
  induction l with
  | nil => intro c; simp
  | cons a l ih =>
    intro c
    simp only [List.foldl_cons, List.length_cons]
    by_cases h : p a
    · have := ih (c + 1)
      simp only [h, if_true]
      omega
    · have := ih c
      simp only [h, if_false]
      omega
theorem least_spec (l : List Int) (s : Int) (k : Nat) (hl : l.length ≤ 1000000000) (hk : 2 * l.length + 2 < k) : spec_LeastStrips.f k l s = some (least l s) := by
  simp only [spec_LeastStrips.f, lens_spec l s k (by omega) (by omega), Option.bind_some, least]
  by_cases h : lensOk l s = true
  · obtain ⟨⟨h1, h2⟩, h3⟩ := lensOk_iff.1 h
    have b := sum_small h
    rw [if_pos h, if_pos h]
    have L := loop_fold (fun k i c => spec_LeastStrips.l0 k l s c i) l.length l.length (by omega) (fun i c => 0 ≤ c ∧ c ≤ i) (fun c i => if 2 * l.getD i 0 > s then c + 1 else c) (fun c => some (max ((l.sum + s - 1) / s) c))
      (fun k i c hB hi hc => by
        have hx := h3 (l.getD i 0) (by simp [List.getD_eq_getElem?_getD, hi])
        simp only [spec_LeastStrips.l0, rd_nat]
        rw [if_pos (by omega), if_pos (by omega), w64 (n := 2 * l.getD i 0) (by omega) (by omega), w64 (n := c + 1) (by omega) (by omega)]
        by_cases hh : 2 * l.getD i 0 > s
        · rw [if_pos hh, if_pos hh]
        · rw [if_neg hh, if_neg hh])
      (fun i c hi hc => by
        split <;> omega)
      (fun k c hB hc => by
        simp only [spec_LeastStrips.l0]
        rw [if_neg (by omega), sumS_spec l (lens_small h) k hB]
        simp only [Option.bind_some]
        rw [if_neg (by omega), w64 (n := l.sum + s) (by omega) (by omega), w64 (n := l.sum + s - 1) (by omega) (by omega), Int.tdiv_eq_ediv_of_nonneg (by omega)]
        have d1 : 0 ≤ (l.sum + s - 1) / s := Int.ediv_nonneg (by omega) (by omega)
        have d2 : (l.sum + s - 1) / s ≤ l.sum + s - 1 := Int.ediv_le_self _ (by omega)
        rw [w64 (n := (l.sum + s - 1) / s) (by omega) (by omega), mx_eq, Int.max_comm]) k 0 ⟨by omega, by omega⟩ (by omega)
    rw [L.1, foldl_range_getD' l 0 (fun c x => if 2 * x > s then c + 1 else c)]
    rfl
  · rw [if_neg h, if_neg h]
theorem least_impl (l : List Int) (s : Int) (k : Nat) (hl : l.length ≤ 1000000000) (hk : 2 * l.length + 2 < k) : impl_LeastStrips.f k l s = some (least l s) := by
  simp only [impl_LeastStrips.f, lens_impl, Option.bind_some, least]
  by_cases h : lensOk l s = true
  · obtain ⟨⟨h1, h2⟩, h3⟩ := lensOk_iff.1 h
    have b := sum_small h
    rw [if_pos h, if_pos h]
    have L := loop_fold (fun k i c => impl_LeastStrips.l0 k l s c l l.length i) l.length l.length (by omega) (fun i c => 0 ≤ c ∧ c ≤ i) (fun c i => if 2 * l.getD i 0 > s then c + 1 else c) (fun c => some (max ((l.sum + s - 1) / s) c))
      (fun k i c hB hi hc => by
        have hx := h3 (l.getD i 0) (by simp [List.getD_eq_getElem?_getD, hi])
        simp only [impl_LeastStrips.l0, rd_nat]
        rw [if_pos (by omega), if_pos (by omega), if_pos (by omega), w64 (n := 2 * l.getD i 0) (by omega) (by omega), w64 (n := c + 1) (by omega) (by omega)]
        by_cases hh : 2 * l.getD i 0 > s
        · rw [if_pos hh, if_pos hh]
        · rw [if_neg hh, if_neg hh])
      (fun i c hi hc => by
        split <;> omega)
      (fun k c hB hc => by
        simp only [impl_LeastStrips.l0]
        rw [if_neg (by omega), sumI_impl l (lens_small h) k hB]
        simp only [Option.bind_some, impl_up.f]
        rw [if_neg (by omega), w64 (n := l.sum + s) (by omega) (by omega), w64 (n := l.sum + s - 1) (by omega) (by omega), Int.tdiv_eq_ediv_of_nonneg (by omega)]
        have d1 : 0 ≤ (l.sum + s - 1) / s := Int.ediv_nonneg (by omega) (by omega)
        have d2 : (l.sum + s - 1) / s ≤ l.sum + s - 1 := Int.ediv_le_self _ (by omega)
        rw [w64 (n := (l.sum + s - 1) / s) (by omega) (by omega)]
        simp only [Option.bind_some, mx_eq]) k 0 ⟨by omega, by omega⟩ (by omega)
    rw [L.1, foldl_range_getD' l 0 (fun c x => if 2 * x > s then c + 1 else c)]
    rfl
  · rw [if_neg h, if_neg h]

end Go.Proofs.Ytcjbdbbnbhobbaa.Lem
