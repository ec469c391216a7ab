/- Plain lemmas on the printed functions: what they compute; conditions stand in each lemma. -/
import Derived.Test.YtekcdkefomkgdaaQx0
import Derived.Test.YtekcdkefomkgdaaLembase
import Derived.Test.YtekcdkefomkgdaaLemin
namespace Go.Proofs.Ytekcdkefomkgdaa.Lem
open Go.RowKit Go.Proofs.Ytekcdkefomkgdaa.Q Go.Proofs.YtekcdkefomkgdaaW.PrintWords Go.Proofs.YtekcdkefomkgdaaW.PrintLast Go.Proofs.YtekcdkefomkgdaaW.PrintMore Go.Proofs.Ytekcdkefomkgdaa.Lem
set_option linter.unusedVariables false
set_option linter.unusedSimpArgs false
/-- A set of small numbers as a number: x put into m. -/
def orN (m x : Nat) : Nat := if m / 2 ^ x % 2 = 1 then m else m + 2 ^ x
def pcN (m : Nat) : Nat := m % 2 + m / 2 % 2 + m / 4 % 2 + m / 8 % 2 + m / 16 % 2 + m / 32 % 2
theorem or_tab : ∀ (m : Fin 64) (x : Fin 6), Go.bits .or .i64 ((m.val : Nat) : Int) (shl .i64 1 ((x.val : Nat) : Int)) = ((orN m.val x.val : Nat) : Int) := by decide +kernel
theorem full_tab : ∀ (n : Fin 7), wrap64 (shl .i64 1 ((n.val : Nat) : Int) - 1) = ((2 ^ n.val - 1 : Nat) : Int) := by decide +kernel
theorem pc_tab : ∀ (m : Fin 64) (x : Fin 6), pcN (orN m.val x.val) = if m.val / 2 ^ x.val % 2 = 1 then pcN m.val else pcN m.val + 1 := by decide +kernel
theorem bit_tab : ∀ (m : Fin 64) (x y : Fin 6), orN m.val x.val / 2 ^ y.val % 2 = 1 ↔ (x = y ∨ m.val / 2 ^ y.val % 2 = 1) := by decide +kernel
theorem lt_tab : ∀ (n : Fin 7) (m : Fin 64) (x : Fin 6), x.val < n.val → m.val < 2 ^ n.val → orN m.val x.val < 2 ^ n.val := by decide +kernel
theorem pcfull_tab : ∀ (n : Fin 7) (m : Fin 64), m.val < 2 ^ n.val → (pcN m.val = n.val ↔ m.val = 2 ^ n.val - 1) := by decide +kernel
theorem fullbit_tab : ∀ (n : Fin 7) (x : Fin 6), x.val < n.val → (2 ^ n.val - 1) / 2 ^ x.val % 2 = 1 := by decide +kernel

end Go.Proofs.Ytekcdkefomkgdaa.Lem
