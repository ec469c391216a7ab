/- FnExactReadLabel: the program's ReadLabel answers as the reference's does, at all texts; no condition. -/
import Derived.Test.YtjabgjlkemfofaaDoorQx16
import Derived.Test.YtjabgjlkemfofaaDoorQx21
import Derived.Test.YtjabgjlkemfofaaDoorQx22
import Derived.Test.YtjabgjlkemfofaaDoorQx23
import Derived.Test.YtjabgjlkemfofaaDoorQx24
import Derived.Test.YtjabgjlkemfofaaDoorLembase
import Derived.Test.YtjabgjlkemfofaaDoorLemin
import Derived.Test.YtjabgjlkemfofaaDoorLemstPart1
import Derived.Test.YtjabgjlkemfofaaDoorLempartsD
import Derived.Test.YtjabgjlkemfofaaDoorLemreadA
import Derived.Test.YtjabgjlkemfofaaDoorLemmarkD
namespace Go.Proofs.YtjabgjlkemfofaaDoor.Pure
open Go.RowKit Go.Proofs.YtjabgjlkemfofaaDoor.Q Go.Proofs.YtjabgjlkemfofaaDoorW.PrintWords Go.Proofs.YtjabgjlkemfofaaDoorW.PrintLast Go.Proofs.YtjabgjlkemfofaaDoorW.PrintMore Go.Proofs.YtjabgjlkemfofaaDoor.Lem
set_option linter.unusedVariables false
set_option linter.unusedSimpArgs false
theorem FnExactReadLabel : laws_FnExactReadLabel.Pure := by
  intro a _
  obtain ⟨K, hK⟩ : ∃ K, 5000000 < K := ⟨_, Nat.lt_succ_self _⟩
  refine ⟨K + 2, ?_⟩
  unfold laws_FnExactReadLabel.f
  by_cases hb : (a.size : Int) > 1048576
  · rw [if_pos hb]
  rw [if_neg hb]
  have ha : a.size ≤ 1048576 := by omega
  have h1 := pieces_sum a
  obtain ⟨P, b, hP, hl⟩ : ∃ (P : List ByteArray) (b : Bool), (if namesB (pieces a) = true then (pieces a, true) else ([], false)) = (P, b) ∧ P.length ≤ 1048578 := by
    by_cases h : namesB (pieces a) = true
    · exact ⟨_, _, if_pos h, by omega⟩
    · exact ⟨_, _, if_neg h, by simp⟩
  have e1 : ∀ j, 4999999 < j → spec_ReadLabel.f j a = some (P, b) := fun j hj => by rw [read_spec a j (by omega), hP]
  have e2 : ∀ j, 4999999 < j → impl_ReadLabel.f j a = some (P, b) := fun j hj => by rw [read_impl a ha j (by omega), hP]
  have e3 : ∀ j, 4999999 < j → laws_eqStringS.f j P P = some true := fun j hj => eqStringS_self P j (by omega) (by omega)
  have e4 : ∀ j, 4999999 < j → laws_markStringS.f j P 1 = some ((P.length : Int) + 1, marksS P.length) := fun j hj => markStringS_ok P j (by omega) (by omega)
  have e5 : ∀ j, 4999999 < j → laws_heldStringS.f j (marksS P.length) 1 = some ((P.length : Int) + 1) := fun j hj => heldStringS_ok P.length j (by omega) (by omega)
  clear hP h1
  rw [e1 (K + 2) (by omega)]
  simp only [Option.bind_some]
  rw [e2 (K + 2) (by omega)]
  simp only [Option.bind_some]
  rw [e3 (K + 2) (by omega)]
  simp only [Option.bind_some, if_true]
  have ebb : (b != b) = false := by cases b <;> rfl
  rw [ebb, laws_FnExactReadLabel.j0, if_neg (by simp), e4 (K + 1) (by omega)]
  simp only [Option.bind_some]
  rw [e5 (K + 1) (by omega)]
  simp only [Option.bind_some]
  rw [if_neg (by omega), if_pos trivial, e2 (K + 1) (by omega)]
  simp only [Option.bind_some]
  rw [e3 (K + 1) (by omega)]
  simp only [Option.bind_some, if_true]
  rw [ebb, laws_FnExactReadLabel.j1, if_neg (by simp), e5 K (by omega)]
  simp only [Option.bind_some]
  rw [if_neg (by omega), if_pos trivial]

end Go.Proofs.YtjabgjlkemfofaaDoor.Pure
