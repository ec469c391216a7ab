/- FnExactLabelText: the program's LabelText answers as the reference's does, at all arguments; no condition. -/
import Derived.Test.YtjabgjlkemfofaaQx26
import Derived.Test.YtjabgjlkemfofaaLembase
import Derived.Test.YtjabgjlkemfofaaLemin
import Derived.Test.YtjabgjlkemfofaaLemstPart
import Derived.Test.YtjabgjlkemfofaaLempartsA
import Derived.Test.YtjabgjlkemfofaaLempartsS
import Derived.Test.YtjabgjlkemfofaaLemlabelA
namespace Go.Proofs.Ytjabgjlkemfofaa.Pure
open Go.RowKit Go.Proofs.Ytjabgjlkemfofaa.Q Go.Proofs.YtjabgjlkemfofaaW.PrintWords Go.Proofs.YtjabgjlkemfofaaW.PrintLast Go.Proofs.YtjabgjlkemfofaaW.PrintMore Go.Proofs.Ytjabgjlkemfofaa.Lem
set_option linter.unusedVariables false
set_option linter.unusedSimpArgs false
theorem room (P a k : Nat) (h : P + 1048576 + a + a + 3000 < k) : P + 1048576 + 2000 < k ∧ a + (a + 1048576) + 20 < k ∧ a + 31 < k ∧ 50 < k ∧ a < k := by omega
theorem FnExactLabelText : laws_FnExactLabelText.Pure := by
  intro l ⟨hl, hs⟩
  unfold maxLen at hl hs
  obtain ⟨P, hP0⟩ : ∃ P, P = (l.length + 1) * (l.length + 4) := ⟨_, rfl⟩
  obtain ⟨k, hk⟩ : ∃ k, P + 1048576 + l.length + l.length + 3000 < k := ⟨_, Nat.lt_succ_self _⟩
  refine ⟨k, ?_⟩
  unfold laws_FnExactLabelText.f
  obtain ⟨r1, r2, r3, r4, r5⟩ := room P l.length k hk
  obtain ⟨q, hq, hc⟩ := szPartS_ok l hl (fun x hx => (hs x hx).1) k r5
  rw [hq]
  simp only [Option.bind_some]
  by_cases hb : q < 0
  · rw [if_pos hb]
  rw [if_neg hb]
  obtain ⟨hl2, hs2⟩ := hc.resolve_left hb
  have hm : (l.map cvPart).length = l.length := List.length_map _
  have hs3 : ∀ x ∈ l.map cvPart, x.f0.size ≤ 1048576 := fun x hx => by
    obtain ⟨y, hy, rfl⟩ := List.mem_map.1 hx
    exact hs2 y hy
  have e1 := toPartS_ok l k (by omega) r5
  rw [hP0] at r1
  rw [← hm] at r1 r2 r3
  clear hk hP0
  have hA2 : (l.map cvPart).length ≤ 1000000000 := by omega
  have e2 := label_impl (l.map cvPart) hA2 1048576 hs3 (by decide) k r2
  obtain ⟨r, e3, e3'⟩ := label_spec (l.map cvPart) hA2 1048576 hs3 (by decide) k r1
  have e5 := eqPartS_self (l.map cvPart) k hA2 (by omega)
  rw [e1]
  simp only [Option.bind_some]
  rw [e3]
  simp only [Option.bind_some]
  rw [e2]
  simp only [Option.bind_some]
  rw [if_pos e3', e5]
  simp only [Option.bind_some, if_true]

end Go.Proofs.Ytjabgjlkemfofaa.Pure
