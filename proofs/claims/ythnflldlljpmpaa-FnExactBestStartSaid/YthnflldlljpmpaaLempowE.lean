/- Plain lemmas on the printed functions: what they compute; conditions stand in each lemma. -/
import Derived.Test.YthnflldlljpmpaaQx0
import Derived.Test.YthnflldlljpmpaaQx16
import Derived.Test.YthnflldlljpmpaaQx18
import Derived.Test.YthnflldlljpmpaaLembase
import Derived.Test.YthnflldlljpmpaaLemin
import Derived.Test.YthnflldlljpmpaaLemstMachine
import Derived.Test.YthnflldlljpmpaaLempowA
import Derived.Test.YthnflldlljpmpaaLempowB
import Derived.Test.YthnflldlljpmpaaLemmaxI
namespace Go.Proofs.Ythnflldlljpmpaa.Lem
open Go.RowKit Go.Proofs.Ythnflldlljpmpaa.Q Go.Proofs.YthnflldlljpmpaaW.PrintWords Go.Proofs.YthnflldlljpmpaaW.PrintLast Go.Proofs.YthnflldlljpmpaaW.PrintMore Go.Proofs.Ythnflldlljpmpaa.Lem
set_option linter.unusedVariables false
set_option linter.unusedSimpArgs false
theorem pws_ne (l : List S40) : pws l ≠ [] := fun h => by
  have := pws_len l
  rw [h] at this
  simp at this
theorem pws_nonneg {l : List S40} (h : machOk l = true) : ∀ x ∈ pws l, 0 ≤ x := fun x hx => (pws_ok h x hx).1
def peak (l : List S40) : Int × Int := if machOk l = true then ((firstMax (pws l) : Int), maxR (pws l)) else (-1, -1)
theorem peak_impl (l : List S40) (k : Nat) (hk : 20000 < k) : impl_PeakPower.f k l = some (peak l) := by
  simp only [impl_PeakPower.f, mach_impl, Option.bind_some, peak]
  by_cases h : machOk l = true
  · obtain ⟨h1, h2, h3⟩ := firstMax_spec (pws_ne l) (pws_nonneg h)
    have hlen := pws_len l
    rw [if_pos h, if_pos h, powers_impl l h k hk]
    simp only [Option.bind_some]
    rw [max_ok (pws l) (pws_ne l) (pws_nonneg h) k (by omega) (by omega)]
    simp only [Option.bind_some]
    rw [index_hit (pws l) (maxR (pws l)) (firstMax (pws l)) h1 h2 h3 k (by omega) (by omega)]
    rfl
  · rw [if_neg h, if_neg h]
/-- The reference's search for the first of the greatest. -/
theorem peak_search (p : List Int) (hp : p.length = 1440) (h0 : ∀ x ∈ p, 0 ≤ x) (k : Nat) (hk : 2000 < k) : spec_PeakPower.l0 k p 0 0 = some ((firstMax p : Int), maxR p) := by
  have hne : p ≠ [] := fun h => by rw [h] at hp; simp at hp
  have L := loop_fold (fun k i (b : Int) => spec_PeakPower.l0 k p b i) 1440 0 (by omega)
    (fun i (b : Int) => 0 ≤ b ∧ b < 1440 ∧ (∀ j : Nat, j < i → p.getD j 0 ≤ p.getD b.toNat 0) ∧ (∀ j : Nat, (j : Int) < b → p.getD j 0 < p.getD b.toNat 0) ∧ (b : Int) ≤ i)
    (fun b i => if p.getD i 0 > p.getD b.toNat 0 then (i : Int) else b) (fun b => some (b, p.getD b.toNat 0))
    (fun k i b hB hi hb => by
      obtain ⟨b0, b1, _⟩ := hb
      have e : rd p b = p.getD b.toNat 0 := by simp [rd]
      simp only [spec_PeakPower.l0, rd_nat, e]
      rw [if_pos (by omega), if_pos (by omega), if_pos (by omega), if_pos b0, if_pos (by omega)]
      by_cases hh : p.getD i 0 > p.getD b.toNat 0
      · rw [if_pos hh, if_pos hh]
      · rw [if_neg hh, if_neg hh])
    (fun i b hi hb => by
      obtain ⟨b0, b1, b2, b3, b4⟩ := hb
      by_cases hh : p.getD i 0 > p.getD b.toNat 0
      · rw [if_pos hh]
        refine ⟨by omega, by omega, fun j hj => ?_, fun j hj => ?_, by omega⟩
        · rw [Int.toNat_natCast]
          by_cases e : j = i
          · subst e; omega
          · have := b2 j (by omega); omega
        · rw [Int.toNat_natCast]
          have := b2 j (by omega)
          omega
      · rw [if_neg hh]
        refine ⟨b0, b1, fun j hj => ?_, b3, by omega⟩
        by_cases e : j = i
        · subst e; omega
        · exact b2 j (by omega))
    (fun k b hB hb => by
      have e : rd p b = p.getD b.toNat 0 := by simp [rd]
      simp only [spec_PeakPower.l0, e]
      rw [if_neg (by omega), if_pos hb.1, if_pos (by omega)]) k 0 ⟨by omega, by omega, fun j hj => by omega, fun j hj => by omega, by omega⟩ (by omega)
  obtain ⟨L1, b0, b1, b2, b3, b4⟩ := L
  rw [L1]
  generalize (List.range 1440).foldl (fun (b : Int) i => if p.getD i 0 > p.getD b.toNat 0 then (i : Int) else b) 0 = b at b0 b1 b2 b3 b4
  have hb : b.toNat < p.length := by omega
  have eb : p.getD b.toNat 0 = p[b.toNat] := by simp [List.getD_eq_getElem?_getD, hb]
  have hmax : p[b.toNat] = maxR p := by
    apply Int.le_antisymm
    · exact maxR_ge (List.getElem_mem hb)
    · rw [← eb]
      apply maxR_le (by rw [eb]; exact h0 _ (List.getElem_mem hb))
      intro x hx
      obtain ⟨j, hj, rfl⟩ := List.mem_iff_getElem.1 hx
      have := b2 j (by omega)
      have ej : p.getD j 0 = p[j] := by simp [List.getD_eq_getElem?_getD, hj]
      rw [ej] at this
      exact this
  have hidx : firstMax p = b.toNat := by
    unfold firstMax
    rw [List.findIdx_eq hb]
    refine ⟨by simpa using hmax, fun j hj => ?_⟩
    have := b3 j (by omega)
    have hj2 : j < p.length := by omega
    have ej : p.getD j 0 = p[j] := by simp [List.getD_eq_getElem?_getD, hj2]
    rw [ej, eb] at this
    simp only [decide_eq_false_iff_not]
    omega
  rw [hidx, eb, hmax, Int.toNat_of_nonneg b0]
theorem peak_spec (l : List S40) (k : Nat) (hl : l.length ≤ 1000000000) (hk : l.length + 20000 < k) : spec_PeakPower.f k l = some (peak l) := by
  simp only [spec_PeakPower.f, mach_spec l k hl (by omega), Option.bind_some, peak]
  by_cases h : machOk l = true
  · rw [if_pos h, if_pos h, powers_spec l h k (by omega)]
    simp only [Option.bind_some]
    exact peak_search (pws l) (pws_len l) (pws_nonneg h) k (by omega)
  · rw [if_neg h, if_neg h]

end Go.Proofs.Ythnflldlljpmpaa.Lem
