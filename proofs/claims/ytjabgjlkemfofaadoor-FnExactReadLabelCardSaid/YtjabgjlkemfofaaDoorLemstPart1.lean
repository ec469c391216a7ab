/- Plain lemmas on the printed functions: what they compute; conditions stand in each lemma. -/
import Derived.Test.YtjabgjlkemfofaaDoorQx0
import Derived.Test.YtjabgjlkemfofaaDoorQx1
import Derived.Test.YtjabgjlkemfofaaDoorQx5
import Derived.Test.YtjabgjlkemfofaaDoorLembase
import Derived.Test.YtjabgjlkemfofaaDoorLemin
namespace Go.Proofs.YtjabgjlkemfofaaDoor.Lem
open Go.RowKit Go.Proofs.YtjabgjlkemfofaaDoor.Q Go.Proofs.YtjabgjlkemfofaaDoorW.PrintWords Go.Proofs.YtjabgjlkemfofaaDoorW.PrintLast Go.Proofs.YtjabgjlkemfofaaDoorW.PrintMore Go.Proofs.YtjabgjlkemfofaaDoor.Lem
set_option linter.unusedVariables false
set_option linter.unusedSimpArgs false
theorem toPart_ok (a0 : ByteArray) (a1 : Int) : laws_toPart.f a0 a1 = some (a0, a1) := rfl
theorem rdIPart (l : List S26) (i : Nat) : rd_T26 l (i : Int) = l.getD i z26 := by simp [rd_T26]
theorem szPart_ok (a0 : ByteArray) (a1 r : Int) (ha : a0.size ≤ 9223372036854775807) (h0 : 0 ≤ r) (h1 : r ≤ 1048576) : ∃ q, laws_szPart.f a0 a1 r = some q ∧ (q < 0 ∨ 0 ≤ q ∧ q ≤ 1048576 ∧ a0.size ≤ 1048576) := by
  unfold laws_szPart.f
  rw [w64 (n := r - (a0.size : Int)) (by omega) (by omega)]
  by_cases h : r - (a0.size : Int) < 0
  · rw [if_pos h]
    exact ⟨_, rfl, .inl (by omega)⟩
  · rw [if_neg h]
    exact ⟨_, rfl, .inr ⟨by omega, by omega, by omega⟩⟩

end Go.Proofs.YtjabgjlkemfofaaDoor.Lem
