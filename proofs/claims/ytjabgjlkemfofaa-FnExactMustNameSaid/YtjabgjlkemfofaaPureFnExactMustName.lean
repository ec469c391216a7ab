/- FnExactMustName: the program's MustName answers as the reference's does, at all arguments; no condition. -/
import Derived.Test.YtjabgjlkemfofaaQx4
import Derived.Test.YtjabgjlkemfofaaQx9
import Derived.Test.YtjabgjlkemfofaaQx21
import Derived.Test.YtjabgjlkemfofaaQx27
import Derived.Test.YtjabgjlkemfofaaQx29
import Derived.Test.YtjabgjlkemfofaaQx30
import Derived.Test.YtjabgjlkemfofaaQx31
import Derived.Test.YtjabgjlkemfofaaQx32
import Derived.Test.YtjabgjlkemfofaaQx33
import Derived.Test.YtjabgjlkemfofaaLemmustM
namespace Go.Proofs.Ytjabgjlkemfofaa.Pure
open Go.RowKit Go.Proofs.Ytjabgjlkemfofaa.Q Go.Proofs.YtjabgjlkemfofaaW.PrintWords Go.Proofs.YtjabgjlkemfofaaW.PrintLast Go.Proofs.YtjabgjlkemfofaaW.PrintMore Go.Proofs.Ytjabgjlkemfofaa.Lem
set_option linter.unusedVariables false
set_option linter.unusedSimpArgs false
theorem room (P a k : Nat) (h : P + 1048576 + a + a + 3000 < k) : P + 1048576 + 2000 < k ∧ a + (a + 1048576) + 20 < k ∧ a + 31 < k ∧ 50 < k ∧ a < k ∧ a + (a + 1048576) + 60 < k := by omega
theorem FnExactMustName : laws_FnExactMustName.Pure := by
  intro l p ⟨hl, hs⟩ _
  unfold maxLen at hl hs
  obtain ⟨P, hP0⟩ : ∃ P, P = (l.length + 1) * (l.length + 4) := ⟨_, rfl⟩
  obtain ⟨k, hk⟩ : ∃ k, P + 1048576 + l.length + l.length + 3000 < k := ⟨_, Nat.lt_succ_self _⟩
  refine ⟨k + 1, ?_⟩
  unfold laws_FnExactMustName.f
  obtain ⟨q, hq, hc⟩ := szPartS_ok l hl (fun x hx => (hs x hx).1) (k + 1) (Nat.lt_succ_of_lt (room P l.length k hk).2.2.2.2.1)
  rw [hq]
  simp only [Option.bind_some]
  by_cases hb : q < 0
  · rw [if_pos hb]
  rw [if_neg hb]
  obtain ⟨hl2, hs2⟩ := hc.resolve_left hb
  have hm : (l.map cvPart).length = l.length := List.length_map _
  have hs3 : ∀ x ∈ l.map cvPart, x.f0.size ≤ 1048576 := fun x hx => by
    obtain ⟨y, hy, rfl⟩ := List.mem_map.1 hx
    exact hs2 y hy
  obtain ⟨r1, r2, r3, r4, r5, r6⟩ := room P l.length k hk
  rw [hP0] at r1
  rw [← hm] at r1 r3 r6
  clear hk hP0
  have hA2 : (l.map cvPart).length ≤ 1000000000 := by omega
  have e1 : ∀ j, k ≤ j → laws_toPartS.f j l = some (l.map cvPart) := fun j hj => toPartS_ok l j (by omega) (Nat.lt_of_lt_of_le r5 hj)
  have e2 : ∀ j, k ≤ j → impl_MustName.f j (l.map cvPart) p = some (mustL (l.map cvPart) p) := fun j hj => must_impl (l.map cvPart) p hA2 1048576 hs3 (by decide) j (Nat.lt_of_lt_of_le r6 hj)
  have e3 : ∀ j, k ≤ j → spec_MustName.f j (l.map cvPart) p = some (mustL (l.map cvPart) p) := fun j hj => must_spec (l.map cvPart) p hA2 1048576 hs3 (by decide) j (Nat.lt_of_lt_of_le r1 hj)
  have hP := must_length (l.map cvPart) p
  have e4 : ∀ j, k ≤ j → laws_eqStringS.f j (mustL (l.map cvPart) p) (mustL (l.map cvPart) p) = some true := fun j hj => eqStringS_self _ j (by omega) (by omega)
  have hP2 : (mustL (l.map cvPart) p).length + 31 < k := by omega
  have hP3 : (mustL (l.map cvPart) p).length ≤ 1000000000 := by omega
  clear r1 r6
  generalize hM : l.map cvPart = M at *
  generalize hS : mustL M p = S at *
  have e5 : ∀ j, k ≤ j → laws_eqPartS.f j M M = some true := fun j hj => eqPartS_self M j hA2 (by omega)
  have e6 : ∀ j, k ≤ j → laws_markPartS.f j M 1 = some (2 * (M.length : Int) + 1, marksP M.length) := fun j hj => markPartS_ok M j hA2 (by omega)
  have e7 : ∀ j, k ≤ j → laws_markStringS.f j S 1 = some ((S.length : Int) + 1, marksS S.length) := fun j hj => markStringS_ok S j hP3 (by omega)
  have e8 : ∀ j, k ≤ j → laws_heldStringS.f j (marksS S.length) 1 = some ((S.length : Int) + 1) := fun j hj => heldStringS_ok S.length j hP3 (by omega)
  rw [e1 (k + 1) (by omega)]
  simp only [Option.bind_some]
  rw [e3 (k + 1) (by omega)]
  simp only [Option.bind_some]
  rw [e2 (k + 1) (by omega)]
  simp only [Option.bind_some]
  rw [e4 (k + 1) (by omega)]
  simp only [Option.bind_some, if_true]
  rw [e5 (k + 1) (by omega)]
  simp only [Option.bind_some, if_true]
  rw [e6 (k + 1) (by omega)]
  simp only [Option.bind_some]
  rw [if_neg (by omega), Bool.not_true, laws_FnExactMustName.j0, if_neg (by simp), e7 k (by omega)]
  simp only [Option.bind_some]
  rw [e8 k (by omega)]
  simp only [Option.bind_some]
  rw [if_neg (by omega), if_pos trivial, e1 k (by omega)]
  simp only [Option.bind_some]
  rw [e2 k (by omega)]
  simp only [Option.bind_some]
  rw [e4 k (by omega)]
  simp only [Option.bind_some, if_true]
  rw [if_neg (by omega)]

end Go.Proofs.Ytjabgjlkemfofaa.Pure
