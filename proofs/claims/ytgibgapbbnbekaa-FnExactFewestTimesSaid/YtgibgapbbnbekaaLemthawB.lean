/- Plain lemmas on the printed functions: what they compute; conditions stand in each lemma. -/
import Derived.Test.YtgibgapbbnbekaaQx0
import Derived.Test.YtgibgapbbnbekaaQx4
import Derived.Test.YtgibgapbbnbekaaLembase
import Derived.Test.YtgibgapbbnbekaaLemin
import Derived.Test.YtgibgapbbnbekaaLemstFrozen
import Derived.Test.YtgibgapbbnbekaaLemthawA
namespace Go.Proofs.Ytgibgapbbnbekaa.Lem
open Go.RowKit Go.Proofs.Ytgibgapbbnbekaa.Q Go.Proofs.YtgibgapbbnbekaaW.PrintWords Go.Proofs.YtgibgapbbnbekaaW.PrintLast Go.Proofs.YtgibgapbbnbekaaW.PrintMore Go.Proofs.Ytgibgapbbnbekaa.Lem
set_option linter.unusedVariables false
set_option linter.unusedSimpArgs false
def l29ok (l : List S25) (w : Int) : Bool := decide (l.length ≤ 20 ∧ -48 ≤ w ∧ w ≤ 1000) && l.all fun f => frOk f.f0 f.f1
theorem l29ok_iff {l : List S25} {w : Int} : l29ok l w = true ↔ (l.length ≤ 20 ∧ -48 ≤ w ∧ w ≤ 1000) ∧ ∀ f ∈ l, frOk f.f0 f.f1 = true := by simp [l29ok, List.all_eq_true]
theorem l29_spec (l : List S25) (w : Int) (k : Nat) (hl : l.length ≤ 1000000000) (hk : l.length < k) : spec_l29Ok.f k l w = some (l29ok l w) := by
  unfold spec_l29Ok.f
  rw [run_all (fun k x5 => spec_l29Ok.l0 k l w x5) l.length (by omega) (fun i => frOk (l.getD i z25).f0 (l.getD i z25).f1) false (some (decide (l.length ≤ 20 ∧ -48 ≤ w ∧ w ≤ 1000)))
    (fun k i hi => by
      simp only [spec_l29Ok.l0, frozen_spec, Option.bind_some, rdIFrozen]
      rw [if_pos (by omega), if_pos (by omega)])
    (fun k => by
      simp only [spec_l29Ok.l0, in_spec, Option.bind_some]
      rw [if_neg (by omega)]
      by_cases h : (l.length : Int) ≤ 20
      · rw [if_pos h]
        congr 1
        rw [decide_eq_decide]
        omega
      · rw [if_neg h, decide_eq_false (by omega)]) k hk]
  rw [all_range_getD l z25 (fun f => frOk f.f0 f.f1)]
  unfold l29ok
  cases l.all (fun f => frOk f.f0 f.f1) <;> simp

end Go.Proofs.Ytgibgapbbnbekaa.Lem
