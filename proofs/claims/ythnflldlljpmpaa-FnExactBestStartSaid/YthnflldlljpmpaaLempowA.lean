/- Plain lemmas on the printed functions: what they compute; conditions stand in each lemma. -/
import Derived.Test.YthnflldlljpmpaaQx0
import Derived.Test.YthnflldlljpmpaaQx2
import Derived.Test.YthnflldlljpmpaaQx3
import Derived.Test.YthnflldlljpmpaaQx4
import Derived.Test.YthnflldlljpmpaaLembase
import Derived.Test.YthnflldlljpmpaaLemin
import Derived.Test.YthnflldlljpmpaaLemstMachine
namespace Go.Proofs.Ythnflldlljpmpaa.Lem
open Go.RowKit Go.Proofs.Ythnflldlljpmpaa.Q Go.Proofs.YthnflldlljpmpaaW.PrintWords Go.Proofs.YthnflldlljpmpaaW.PrintLast Go.Proofs.YthnflldlljpmpaaW.PrintMore Go.Proofs.Ythnflldlljpmpaa.Lem
set_option linter.unusedVariables false
set_option linter.unusedSimpArgs false
def mOk (m : S40) : Bool := decide ((0 ≤ m.f0 ∧ m.f0 ≤ 1439) ∧ (m.f0 + 1 ≤ m.f1 ∧ m.f1 ≤ 1440) ∧ 1 ≤ m.f2 ∧ m.f2 ≤ 10000)
theorem mOk_iff {m : S40} : mOk m = true ↔ (0 ≤ m.f0 ∧ m.f0 ≤ 1439) ∧ (m.f0 + 1 ≤ m.f1 ∧ m.f1 ≤ 1440) ∧ 1 ≤ m.f2 ∧ m.f2 ≤ 10000 := by simp [mOk]
def machOk (l : List S40) : Bool := decide (l.length ≤ 12) && l.all mOk
theorem machOk_iff {l : List S40} : machOk l = true ↔ l.length ≤ 12 ∧ ∀ m ∈ l, mOk m = true := by simp [machOk, List.all_eq_true]
theorem mach_one (a b c : Int) : impl_MachinesOk_1.f a b c = some (!mOk ⟨a, b, c⟩) := by
  simp only [impl_MachinesOk_1.f, in_impl, Option.bind_some, mOk]
  by_cases h : 0 ≤ a ∧ a ≤ 1439
  · rw [decide_eq_true h, if_pos rfl, w64 (n := a + 1) (by omega) (by omega)]
    by_cases h2 : a + 1 ≤ b ∧ b ≤ 1440
    · rw [decide_eq_true h2, if_pos rfl]
      simp [h, h2]
    · rw [decide_eq_false h2, if_neg (by simp), decide_eq_false (fun hh => h2 hh.2.1)]
      rfl
  · rw [decide_eq_false h, if_neg (by simp), decide_eq_false (fun hh => h hh.1)]
    rfl
theorem mach_impl (l : List S40) : impl_MachinesOk.f l = some (machOk l) := by
  have e : impl_Machine_30.pred = fun x => !mOk x := by
    funext x
    simp only [impl_Machine_30.pred, mach_one]
    cases mOk x <;> simp
  simp only [impl_MachinesOk.f, impl_Machine_30.f, Option.bind_some, machOk, e]
  by_cases h : (l.length : Int) ≤ 12
  · rw [if_pos h, decide_eq_true (by omega), Bool.true_and]
    congr 1
    rw [List.any_eq_not_all_not]
    simp
  · rw [if_neg h, decide_eq_false (by omega), Bool.false_and]
theorem mach_spec (l : List S40) (k : Nat) (hl : l.length ≤ 1000000000) (hk : l.length < k) : spec_MachinesOk.f k l = some (machOk l) := by
  unfold spec_MachinesOk.f
  rw [run_all (fun k x3 => spec_MachinesOk.l0 k l x3) l.length (by omega) (fun i => mOk (l.getD i z40)) false (some (decide (l.length ≤ 12)))
    (fun k i hi => by
      simp only [spec_MachinesOk.l0, in_spec, Option.bind_some, rdIMachine]
      rw [if_pos (by omega), if_pos (by omega)]
      generalize l.getD i z40 = m
      unfold mOk
      by_cases h : 0 ≤ m.f0 ∧ m.f0 ≤ 1439
      · rw [decide_eq_true h, if_pos rfl, w64 (n := m.f0 + 1) (by omega) (by omega)]
        by_cases h2 : m.f0 + 1 ≤ m.f1 ∧ m.f1 ≤ 1440
        · rw [decide_eq_true h2, if_pos rfl]
          simp only [h, h2, and_self, true_and]
        · rw [decide_eq_false h2, if_neg (by simp), decide_eq_false (fun hh => h2 hh.2.1), if_neg (by simp)]
      · rw [decide_eq_false h, if_neg (by simp), decide_eq_false (fun hh => h hh.1), if_neg (by simp)])
    (fun k => by
      simp only [spec_MachinesOk.l0]
      rw [if_neg (by omega)]
      congr 1
      rw [decide_eq_decide]
      omega) k hk]
  rw [all_range_getD l z40 mOk]
  unfold machOk
  cases l.all mOk <;> simp

end Go.Proofs.Ythnflldlljpmpaa.Lem
