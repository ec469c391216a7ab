/- Plain lemmas on the printed functions: what they compute; conditions stand in each lemma. -/
import Derived.Test.YtcjbdbbnbhobbaaQx0
import Derived.Test.YtcjbdbbnbhobbaaLembase
import Derived.Test.YtcjbdbbnbhobbaaLemin
namespace Go.Proofs.Ytcjbdbbnbhobbaa.Lem
open Go.RowKit Go.Proofs.Ytcjbdbbnbhobbaa.Q Go.Proofs.YtcjbdbbnbhobbaaW.PrintWords Go.Proofs.YtcjbdbbnbhobbaaW.PrintLast Go.Proofs.YtcjbdbbnbhobbaaW.PrintMore Go.Proofs.Ytcjbdbbnbhobbaa.Lem
set_option linter.unusedVariables false
set_option linter.unusedSimpArgs false
theorem and_tab : ∀ (h : Fin 64) (b : Fin 64) (i : Fin 12), Go.bits .and .i64 (shr .i64 ((64 * h.val + b.val : Nat) : Int) ((i.val : Nat) : Int)) 1 = (if (64 * h.val + b.val).testBit i.val then 1 else 0) := by decide +kernel
theorem andNot_tab : ∀ (h : Fin 64) (b : Fin 64) (i : Fin 12), (64 * h.val + b.val).testBit i.val = true → Go.bits .andNot .i64 ((64 * h.val + b.val : Nat) : Int) (shl .i64 1 ((i.val : Nat) : Int)) = ((64 * h.val + b.val - 2 ^ i.val : Nat) : Int) := by decide +kernel
theorem pow_tab : ∀ (i : Fin 13), shl .i64 1 ((i.val : Nat) : Int) = ((2 ^ i.val : Nat) : Int) := by decide +kernel

end Go.Proofs.Ytcjbdbbnbhobbaa.Lem
