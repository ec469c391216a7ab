/- Plain lemmas on the printed functions: what they compute; conditions stand in each lemma. -/
import Derived.Test.YtkgpjndlpjjobaaQx0
import Derived.Test.YtkgpjndlpjjobaaQx7
import Derived.Test.YtkgpjndlpjjobaaQx8
import Derived.Test.YtkgpjndlpjjobaaQx10
import Derived.Test.YtkgpjndlpjjobaaQx11
import Derived.Test.YtkgpjndlpjjobaaLembase
import Derived.Test.YtkgpjndlpjjobaaLemin
import Derived.Test.YtkgpjndlpjjobaaLemstFlour
import Derived.Test.YtkgpjndlpjjobaaLemblendA
namespace Go.Proofs.Ytkgpjndlpjjobaa.Lem
open Go.RowKit Go.Proofs.Ytkgpjndlpjjobaa.Q Go.Proofs.YtkgpjndlpjjobaaW.PrintWords Go.Proofs.YtkgpjndlpjjobaaW.PrintLast Go.Proofs.YtkgpjndlpjjobaaW.PrintMore Go.Proofs.Ytkgpjndlpjjobaa.Lem
set_option linter.unusedVariables false
set_option linter.unusedSimpArgs false
def kOk (l : List S42) (ks : List Int) : Bool := floursOk l && decide (ks.length = l.length) && (List.range ks.length).all fun i => decide (0 ≤ ks.getD i 0 ∧ ks.getD i 0 ≤ (l.getD i z42).f2)
theorem kOk_iff {l : List S42} {ks : List Int} : kOk l ks = true ↔ floursOk l = true ∧ ks.length = l.length ∧ ∀ i, i < ks.length → 0 ≤ ks.getD i 0 ∧ ks.getD i 0 ≤ (l.getD i z42).f2 := by
  simp [kOk, List.all_eq_true, and_assoc]
theorem k_spec (l : List S42) (ks : List Int) (k : Nat) (hl : l.length ≤ 1000000000) (hks : ks.length ≤ 1000000000) (hk : l.length + ks.length + 2 < k) : spec_l27Ok.f k l ks = some (kOk l ks) := by
  obtain ⟨k, rfl⟩ : ∃ m, k = m + 1 := ⟨k - 1, by omega⟩
  simp only [spec_l27Ok.f, flours_spec l (k + 1) hl (by omega), Option.bind_some, spec_l27Ok.j0]
  unfold kOk
  by_cases h : floursOk l = true
  · rw [if_pos h, h, Bool.true_and]
    by_cases h2 : ks.length = l.length
    · have e : ((ks.length : Int) != (l.length : Int)) = false := by rw [h2]; simp
      rw [e, if_neg (by simp), decide_eq_true h2, Bool.true_and]
      rw [run_all (fun k x5 => spec_l27Ok.l0 k l ks x5) ks.length (by omega) (fun i => decide (0 ≤ ks.getD i 0 ∧ ks.getD i 0 ≤ (l.getD i z42).f2)) false (some true)
        (fun k i hi => by
          simp only [spec_l27Ok.l0, in_spec, Option.bind_some, rdIFlour, rd_nat]
          rw [if_pos (by omega), if_pos (by omega), if_pos (by omega)])
        (fun k => by
          simp only [spec_l27Ok.l0]
          rw [if_neg (by omega)]) k (by omega)]
      cases (List.range ks.length).all (fun i => decide (0 ≤ ks.getD i 0 ∧ ks.getD i 0 ≤ (l.getD i z42).f2)) <;> simp
    · have e : ((ks.length : Int) != (l.length : Int)) = true := by simp; omega
      rw [e, if_pos rfl, decide_eq_false h2, Bool.false_and]
  · rw [if_neg h, if_pos trivial, Bool.eq_false_iff.2 h, Bool.false_and, Bool.false_and]
theorem k_impl (l : List S42) (ks : List Int) (k : Nat) (hl : l.length ≤ 1000000000) (hks : ks.length ≤ 1000000000) (hk : l.length + ks.length + 2 < k) : impl_kilosOk.f k l ks = some (kOk l ks) := by
  obtain ⟨k, rfl⟩ : ∃ m, k = m + 1 := ⟨k - 1, by omega⟩
  simp only [impl_kilosOk.f, flours_impl, Option.bind_some, impl_kilosOk.j0]
  unfold kOk
  by_cases h : floursOk l = true
  · rw [if_pos h, h, Bool.true_and]
    by_cases h2 : ks.length = l.length
    · have e : ((ks.length : Int) != (l.length : Int)) = false := by rw [h2]; simp
      rw [e, if_neg (by simp), decide_eq_true h2, Bool.true_and]
      rw [run_all (fun k x19 => impl_kilosOk.l0 k l ks ks.length x19) ks.length (by omega) (fun i => decide (0 ≤ ks.getD i 0 ∧ ks.getD i 0 ≤ (l.getD i z42).f2)) false (some true)
        (fun k i hi => by
          simp only [impl_kilosOk.l0, in_impl, Option.bind_some, rdIFlour, rd_nat]
          rw [if_pos (by omega), if_pos (by omega), if_pos (by omega), if_pos (by omega)])
        (fun k => by
          simp only [impl_kilosOk.l0]
          rw [if_neg (by omega)]) k (by omega)]
      cases (List.range ks.length).all (fun i => decide (0 ≤ ks.getD i 0 ∧ ks.getD i 0 ≤ (l.getD i z42).f2)) <;> simp
    · have e : ((ks.length : Int) != (l.length : Int)) = true := by simp; omega
      rw [e, if_pos rfl, decide_eq_false h2, Bool.false_and]
  · rw [if_neg h, if_pos trivial, Bool.eq_false_iff.2 h, Bool.false_and, Bool.false_and]
/-- Amounts times a figure of their flours, added up. -/
def dot (g : S42 → Int) (l : List S42) (ks : List Int) : Int := (List.range ks.length).foldl (fun c i => c + g (l.getD i z42) * ks.getD i 0) 0
theorem mul_small {a b : Int} (h0 : 0 ≤ a) (h1 : a ≤ 500) (h2 : 0 ≤ b) (h3 : b ≤ 100) : 0 ≤ a * b ∧ a * b ≤ 50000 := by
  refine ⟨Int.mul_nonneg h0 h2, ?_⟩
  have h4 : a * b ≤ 500 * b := Int.mul_le_mul_of_nonneg_right h1 h2
  omega
theorem k_at {l : List S42} {ks : List Int} (h : kOk l ks = true) (i : Nat) (hi : i < ks.length) : flOk (l.getD i z42) = true ∧ 0 ≤ ks.getD i 0 ∧ ks.getD i 0 ≤ (l.getD i z42).f2 := by
  obtain ⟨h1, h2, h3⟩ := kOk_iff.1 h
  refine ⟨?_, h3 i hi⟩
  have hi2 : i < l.length := by omega
  have e : l.getD i z42 = l[i] := by simp [List.getD_eq_getElem?_getD, hi2]
  rw [e]
  exact (floursOk_iff.1 h1).2 _ (List.getElem_mem hi2)
theorem k_len {l : List S42} {ks : List Int} (h : kOk l ks = true) : ks.length ≤ 5 ∧ ks.length = l.length := by
  obtain ⟨h1, h2, h3⟩ := kOk_iff.1 h
  have := (floursOk_iff.1 h1).1
  omega
def cost (l : List S42) (ks : List Int) : Int := if kOk l ks = true then dot S42.f1 l ks else -1
theorem cost_spec (l : List S42) (ks : List Int) (k : Nat) (hl : l.length ≤ 1000000000) (hks : ks.length ≤ 1000000000) (hk : l.length + ks.length + 2 < k) : spec_BlendCost.f k l ks = some (cost l ks) := by
  simp only [spec_BlendCost.f, k_spec l ks k hl hks hk, Option.bind_some, cost]
  by_cases h : kOk l ks = true
  · have hlen := k_len h
    rw [if_pos h, if_pos h]
    have L := loop_fold (fun k i c => spec_BlendCost.l0 k l ks c i) ks.length 0 (by omega) (fun i c => 0 ≤ c ∧ c ≤ 50000 * (i : Int)) (fun c i => c + (l.getD i z42).f1 * ks.getD i 0) (fun c => some c)
      (fun k i c hB hi hc => by
        have hq := k_at h i hi
        have hf := flOk_iff.1 hq.1
        simp only [spec_BlendCost.l0, rdIFlour, rd_nat]
        rw [if_pos (by omega), if_pos (by omega), if_pos (by omega)]
        have hm := mul_small (a := (l.getD i z42).f1) (b := ks.getD i 0) (by omega) (by omega) (by omega) (by omega)
        rw [w64 (n := (l.getD i z42).f1 * ks.getD i 0) (by omega) (by omega), w64 (by omega) (by omega)])
      (fun i c hi hc => by
        have hq := k_at h i hi
        have hf := flOk_iff.1 hq.1
        have hm := mul_small (a := (l.getD i z42).f1) (b := ks.getD i 0) (by omega) (by omega) (by omega) (by omega)
        omega)
      (fun k c hB hc => by
        simp only [spec_BlendCost.l0]
        rw [if_neg (by omega)]) k 0 ⟨by omega, by omega⟩ (by omega)
    exact L.1
  · rw [if_neg h, if_neg h]
theorem cost_impl (l : List S42) (ks : List Int) (k : Nat) (hl : l.length ≤ 1000000000) (hks : ks.length ≤ 1000000000) (hk : l.length + ks.length + 2 < k) : impl_BlendCost.f k l ks = some (cost l ks) := by
  simp only [impl_BlendCost.f, k_impl l ks k hl hks hk, Option.bind_some, cost]
  by_cases h : kOk l ks = true
  · have hlen := k_len h
    rw [if_pos h, if_pos h]
    have L := loop_fold (fun k i c => impl_BlendCost.l0 k l c ks ks.length i) ks.length 0 (by omega) (fun i c => 0 ≤ c ∧ c ≤ 50000 * (i : Int)) (fun c i => c + (l.getD i z42).f1 * ks.getD i 0) (fun c => some c)
      (fun k i c hB hi hc => by
        have hq := k_at h i hi
        have hf := flOk_iff.1 hq.1
        simp only [impl_BlendCost.l0, rdIFlour, rd_nat]
        rw [if_pos (by omega), if_pos (by omega), if_pos (by omega), if_pos (by omega)]
        have hm := mul_small (a := (l.getD i z42).f1) (b := ks.getD i 0) (by omega) (by omega) (by omega) (by omega)
        rw [w64 (n := (l.getD i z42).f1 * ks.getD i 0) (by omega) (by omega), w64 (by omega) (by omega)])
      (fun i c hi hc => by
        have hq := k_at h i hi
        have hf := flOk_iff.1 hq.1
        have hm := mul_small (a := (l.getD i z42).f1) (b := ks.getD i 0) (by omega) (by omega) (by omega) (by omega)
        omega)
      (fun k c hB hc => by
        simp only [impl_BlendCost.l0]
        rw [if_neg (by omega)]) k 0 ⟨by omega, by omega⟩ (by omega)
    exact L.1
  · rw [if_neg h, if_neg h]

end Go.Proofs.Ytkgpjndlpjjobaa.Lem
