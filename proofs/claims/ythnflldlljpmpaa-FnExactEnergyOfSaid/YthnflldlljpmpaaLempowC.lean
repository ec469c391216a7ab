/- Plain lemmas on the printed functions: what they compute; conditions stand in each lemma. -/
import Derived.Test.YthnflldlljpmpaaQx0
import Derived.Test.YthnflldlljpmpaaQx11
import Derived.Test.YthnflldlljpmpaaQx12
import Derived.Test.YthnflldlljpmpaaLembase
import Derived.Test.YthnflldlljpmpaaLemin
import Derived.Test.YthnflldlljpmpaaLemstMachine
import Derived.Test.YthnflldlljpmpaaLempowA
import Derived.Test.YthnflldlljpmpaaLempowB
import Derived.Test.YthnflldlljpmpaaLemsumB
import Derived.Test.YthnflldlljpmpaaLemsumI
namespace Go.Proofs.Ythnflldlljpmpaa.Lem
open Go.RowKit Go.Proofs.Ythnflldlljpmpaa.Q Go.Proofs.YthnflldlljpmpaaW.PrintWords Go.Proofs.YthnflldlljpmpaaW.PrintLast Go.Proofs.YthnflldlljpmpaaW.PrintMore Go.Proofs.Ythnflldlljpmpaa.Lem
set_option linter.unusedVariables false
set_option linter.unusedSimpArgs false
def energy (l : List S40) : Int := l.foldl (fun acc m => acc + m.f2 * (m.f1 - m.f0)) 0
theorem sum_one (g : Nat → Int) (m : S40) (h0 : 0 ≤ m.f0) (h1 : m.f0 ≤ m.f1) : ∀ n : Nat, ((List.range n).map (fun t => pwS (g t) t m)).sum = ((List.range n).map g).sum + m.f2 * (min (n : Int) m.f1 - min (n : Int) m.f0)
  | 0 => by
    have : min ((0 : Nat) : Int) m.f1 - min ((0 : Nat) : Int) m.f0 = 0 := by omega
    rw [this]
    simp
  | n + 1 => by
    rw [List.range_succ, List.map_append, List.map_append, List.sum_append, List.sum_append, sum_one g m h0 h1 n]
    simp only [List.map_cons, List.map_nil, List.sum_cons, List.sum_nil, Int.add_zero]
    unfold pwS
    by_cases h : m.f0 ≤ (n : Int) ∧ (n : Int) < m.f1
    · rw [if_pos h]
      have e : min ((n + 1 : Nat) : Int) m.f1 - min ((n + 1 : Nat) : Int) m.f0 = (min (n : Int) m.f1 - min (n : Int) m.f0) + 1 := by omega
      rw [e, Int.mul_add]
      omega
    · rw [if_neg h]
      have e : min ((n + 1 : Nat) : Int) m.f1 - min ((n + 1 : Nat) : Int) m.f0 = (min (n : Int) m.f1 - min (n : Int) m.f0) := by omega
      rw [e]
      omega
theorem sum_fold (n : Nat) : ∀ (l : List S40) (g : Nat → Int), (∀ m ∈ l, 0 ≤ m.f0 ∧ m.f0 ≤ m.f1 ∧ m.f1 ≤ n) →
    ((List.range n).map (fun t => l.foldl (fun acc m => pwS acc t m) (g t))).sum = l.foldl (fun acc m => acc + m.f2 * (m.f1 - m.f0)) ((List.range n).map g).sum
  | [], g, _ => rfl
  | m :: l, g, h => by
    have hm := h m List.mem_cons_self
    simp only [List.foldl_cons]
    rw [sum_fold n l (fun t => pwS (g t) t m) (fun x hx => h x (List.mem_cons_of_mem _ hx)), sum_one g m hm.1 hm.2.1 n]
    have e : min (n : Int) m.f1 - min (n : Int) m.f0 = m.f1 - m.f0 := by omega
    rw [e]
theorem sum_zero : ∀ n : Nat, ((List.range n).map (fun _ => (0 : Int))).sum = 0
  | 0 => rfl
  | n + 1 => by
    rw [List.range_succ, List.map_append, List.sum_append, sum_zero n]
    rfl
theorem pws_sum {l : List S40} (h : machOk l = true) : (pws l).sum = energy l := by
  obtain ⟨_, hm⟩ := machOk_iff.1 h
  have := sum_fold 1440 l (fun _ => 0) (fun m hx => by have := mOk_iff.1 (hm m hx); omega)
  rw [sum_zero] at this
  exact this
theorem pws_small {l : List S40} (h : machOk l = true) : Small (pws l) := ⟨120000, pws_ok h, by rw [pws_len]; omega, by rw [pws_len]; omega⟩
def energyOf (l : List S40) : Int := if machOk l = true then energy l else -1
theorem energy_impl (l : List S40) (k : Nat) (hk : 20000 < k) : impl_EnergyOf.f k l = some (energyOf l) := by
  simp only [impl_EnergyOf.f, mach_impl, Option.bind_some, energyOf]
  by_cases h : machOk l = true
  · rw [if_pos h, if_pos h, powers_impl l h k hk]
    simp only [Option.bind_some]
    rw [sumI_impl (pws l) (pws_small h) k (by rw [pws_len]; omega), pws_sum h]
    rfl
  · rw [if_neg h, if_neg h]
theorem mul_dur {a b : Int} (h0 : 0 ≤ a) (h1 : a ≤ 10000) (h2 : 0 ≤ b) (h3 : b ≤ 1440) : 0 ≤ a * b ∧ a * b ≤ 14400000 := by
  refine ⟨Int.mul_nonneg h0 h2, ?_⟩
  have h4 : a * b ≤ 10000 * b := Int.mul_le_mul_of_nonneg_right h1 h2
  omega
theorem energy_spec (l : List S40) (k : Nat) (hl : l.length ≤ 1000000000) (hk : l.length + 2 < k) : spec_EnergyOf.f k l = some (energyOf l) := by
  simp only [spec_EnergyOf.f, mach_spec l k hl (by omega), Option.bind_some, energyOf]
  by_cases h : machOk l = true
  · rw [if_pos h, if_pos h]
    obtain ⟨hl2, hm⟩ := machOk_iff.1 h
    have L := loop_fold (fun k i c => spec_EnergyOf.l0 k l c i) l.length 0 (by omega) (fun i c => 0 ≤ c ∧ c ≤ 14400000 * (i : Int)) (fun c i => c + (l.getD i z40).f2 * ((l.getD i z40).f1 - (l.getD i z40).f0)) (fun c => some c)
      (fun k i c hB hi hc => by
        have hM : l.getD i z40 = l[i] := by simp [List.getD_eq_getElem?_getD, hi]
        have hm2 := mOk_iff.1 (hm _ (List.getElem_mem hi))
        simp only [spec_EnergyOf.l0, rdIMachine, hM]
        rw [if_pos (by omega), if_pos (by omega)]
        have hq := mul_dur (a := (l[i]).f2) (b := (l[i]).f1 - (l[i]).f0) (by omega) (by omega) (by omega) (by omega)
        rw [w64 (n := (l[i]).f1 - (l[i]).f0) (by omega) (by omega), w64 (n := (l[i]).f2 * ((l[i]).f1 - (l[i]).f0)) (by omega) (by omega), w64 (by omega) (by omega)])
      (fun i c hi hc => by
        have hM : l.getD i z40 = l[i] := by simp [List.getD_eq_getElem?_getD, hi]
        have hm2 := mOk_iff.1 (hm _ (List.getElem_mem hi))
        have hq := mul_dur (a := (l[i]).f2) (b := (l[i]).f1 - (l[i]).f0) (by omega) (by omega) (by omega) (by omega)
        rw [hM]
        omega)
      (fun k c hB hc => by
        simp only [spec_EnergyOf.l0]
        rw [if_neg (by omega)]) k 0 ⟨by omega, by omega⟩ (by omega)
    rw [L.1, foldl_range_getD' l z40 (fun c m => c + m.f2 * (m.f1 - m.f0))]
    rfl
  · rw [if_neg h, if_neg h]

end Go.Proofs.Ythnflldlljpmpaa.Lem
