/- Plain lemmas on the printed functions: what they compute; conditions stand in each lemma. -/
import Derived.Test.YtkgpjndlpjjobaaQx0
import Derived.Test.YtkgpjndlpjjobaaQx15
import Derived.Test.YtkgpjndlpjjobaaQx17
import Derived.Test.YtkgpjndlpjjobaaLembase
import Derived.Test.YtkgpjndlpjjobaaLemin
import Derived.Test.YtkgpjndlpjjobaaLemstFlour
import Derived.Test.YtkgpjndlpjjobaaLemblendA
import Derived.Test.YtkgpjndlpjjobaaLemblendB
import Derived.Test.YtkgpjndlpjjobaaLemsumB
import Derived.Test.YtkgpjndlpjjobaaLemsumS
import Derived.Test.YtkgpjndlpjjobaaLemsumI
namespace Go.Proofs.Ytkgpjndlpjjobaa.Lem
open Go.RowKit Go.Proofs.Ytkgpjndlpjjobaa.Q Go.Proofs.YtkgpjndlpjjobaaW.PrintWords Go.Proofs.YtkgpjndlpjjobaaW.PrintLast Go.Proofs.YtkgpjndlpjjobaaW.PrintMore Go.Proofs.Ytkgpjndlpjjobaa.Lem
set_option linter.unusedVariables false
set_option linter.unusedSimpArgs false
theorem k_small {l : List S42} {ks : List Int} (h : kOk l ks = true) : Small ks := by
  refine ⟨100, fun x hx => ?_, by have := k_len h; omega, by have := k_len h; omega⟩
  obtain ⟨i, hi, rfl⟩ := List.mem_iff_getElem.1 hx
  have hq := k_at h i hi
  have hf := flOk_iff.1 hq.1
  have e : ks.getD i 0 = ks[i] := by simp [List.getD_eq_getElem?_getD, hi]
  rw [e] at hq
  omega
def strength (l : List S42) (ks : List Int) : Int := if kOk l ks = true ∧ ks.sum ≠ 0 then dot S42.f0 l ks / ks.sum else -1
theorem strength_spec (l : List S42) (ks : List Int) (k : Nat) (hl : l.length ≤ 1000000000) (hks : ks.length ≤ 1000000000) (hk : l.length + 2 * ks.length + 8 < k) : spec_StrengthOf.f k l ks = some (strength l ks) := by
  obtain ⟨k, rfl⟩ : ∃ m, k = m + 1 := ⟨k - 1, by omega⟩
  simp only [spec_StrengthOf.f, k_spec l ks (k + 1) hl hks (by omega), Option.bind_some, strength, spec_StrengthOf.j0]
  by_cases h : kOk l ks = true
  · have hlen := k_len h
    have hs := k_small h
    rw [if_pos h, sumS_spec ks hs (k + 1) (by omega)]
    simp only [Option.bind_some]
    by_cases h0 : ks.sum = 0
    · rw [if_pos (by simp [h0]), if_neg (c := kOk l ks = true ∧ ks.sum ≠ 0) (fun hh => hh.2 h0)]
    · rw [if_neg (by simp [h0]), if_pos (c := kOk l ks = true ∧ _) ⟨h, h0⟩]
      have hsum := hs.sum
      have L := loop_fold (fun k i c => spec_StrengthOf.l0 k l ks c i) ks.length ks.length (by omega) (fun i c => 0 ≤ c ∧ c ≤ 50000 * (i : Int)) (fun c i => c + (l.getD i z42).f0 * ks.getD i 0) (fun c => some (c / ks.sum))
        (fun k i c hB hi hc => by
          have hq := k_at h i hi
          have hf := flOk_iff.1 hq.1
          simp only [spec_StrengthOf.l0, rdIFlour, rd_nat]
          rw [if_pos (by omega), if_pos (by omega), if_pos (by omega)]
          have hm := mul_small (a := (l.getD i z42).f0) (b := ks.getD i 0) (by omega) (by omega) (by omega) (by omega)
          rw [w64 (n := (l.getD i z42).f0 * ks.getD i 0) (by omega) (by omega), w64 (by omega) (by omega)])
        (fun i c hi hc => by
          have hq := k_at h i hi
          have hf := flOk_iff.1 hq.1
          have hm := mul_small (a := (l.getD i z42).f0) (b := ks.getD i 0) (by omega) (by omega) (by omega) (by omega)
          omega)
        (fun k c hB hc => by
          simp only [spec_StrengthOf.l0]
          rw [if_neg (by omega), sumS_spec ks hs k hB]
          simp only [Option.bind_some]
          rw [if_neg h0, Int.tdiv_eq_ediv_of_nonneg hc.1]
          have d1 : 0 ≤ c / ks.sum := Int.ediv_nonneg hc.1 hsum.1
          have d2 : c / ks.sum ≤ c := Int.ediv_le_self _ hc.1
          rw [w64 (by omega) (by omega)]) k 0 ⟨by omega, by omega⟩ (by omega)
      exact L.1
  · rw [if_neg h, if_pos trivial, if_neg (c := kOk l ks = true ∧ _) (fun hh => h hh.1)]
theorem strength_impl (l : List S42) (ks : List Int) (k : Nat) (hl : l.length ≤ 1000000000) (hks : ks.length ≤ 1000000000) (hk : l.length + 2 * ks.length + 8 < k) : impl_StrengthOf.f k l ks = some (strength l ks) := by
  obtain ⟨k, rfl⟩ : ∃ m, k = m + 1 := ⟨k - 1, by omega⟩
  simp only [impl_StrengthOf.f, k_impl l ks (k + 1) hl hks (by omega), Option.bind_some, strength, impl_StrengthOf.j0]
  by_cases h : kOk l ks = true
  · have hlen := k_len h
    have hs := k_small h
    rw [if_pos h, sumI_impl ks hs (k + 1) (by omega)]
    simp only [Option.bind_some]
    by_cases h0 : ks.sum = 0
    · rw [if_pos (by simp [h0]), if_neg (c := kOk l ks = true ∧ ks.sum ≠ 0) (fun hh => hh.2 h0)]
    · rw [if_neg (by simp [h0]), if_pos (c := kOk l ks = true ∧ _) ⟨h, h0⟩]
      have hsum := hs.sum
      have L := loop_fold (fun k i c => impl_StrengthOf.l0 k l ks c ks ks.length i) ks.length ks.length (by omega) (fun i c => 0 ≤ c ∧ c ≤ 50000 * (i : Int)) (fun c i => c + (l.getD i z42).f0 * ks.getD i 0) (fun c => some (c / ks.sum))
        (fun k i c hB hi hc => by
          have hq := k_at h i hi
          have hf := flOk_iff.1 hq.1
          simp only [impl_StrengthOf.l0, rdIFlour, rd_nat]
          rw [if_pos (by omega), if_pos (by omega), if_pos (by omega), if_pos (by omega)]
          have hm := mul_small (a := (l.getD i z42).f0) (b := ks.getD i 0) (by omega) (by omega) (by omega) (by omega)
          rw [w64 (n := (l.getD i z42).f0 * ks.getD i 0) (by omega) (by omega), w64 (by omega) (by omega)])
        (fun i c hi hc => by
          have hq := k_at h i hi
          have hf := flOk_iff.1 hq.1
          have hm := mul_small (a := (l.getD i z42).f0) (b := ks.getD i 0) (by omega) (by omega) (by omega) (by omega)
          omega)
        (fun k c hB hc => by
          simp only [impl_StrengthOf.l0]
          rw [if_neg (by omega), sumI_impl ks hs k hB]
          simp only [Option.bind_some]
          rw [if_neg h0, Int.tdiv_eq_ediv_of_nonneg hc.1]
          have d1 : 0 ≤ c / ks.sum := Int.ediv_nonneg hc.1 hsum.1
          have d2 : c / ks.sum ≤ c := Int.ediv_le_self _ hc.1
          rw [w64 (by omega) (by omega)]) k 0 ⟨by omega, by omega⟩ (by omega)
      exact L.1
  · rw [if_neg h, if_pos trivial, if_neg (c := kOk l ks = true ∧ _) (fun hh => h hh.1)]

end Go.Proofs.Ytkgpjndlpjjobaa.Lem
