/- FnExactPartsOk: the program's PartsOk answers as the reference's does, at all arguments; no condition. -/
import Derived.Test.YtjabgjlkemfofaaQx10
import Derived.Test.YtjabgjlkemfofaaLembase
import Derived.Test.YtjabgjlkemfofaaLemin
import Derived.Test.YtjabgjlkemfofaaLemstPart
import Derived.Test.YtjabgjlkemfofaaLempartsA
namespace Go.Proofs.Ytjabgjlkemfofaa.Pure
open Go.RowKit Go.Proofs.Ytjabgjlkemfofaa.Q Go.Proofs.YtjabgjlkemfofaaW.PrintWords Go.Proofs.YtjabgjlkemfofaaW.PrintLast Go.Proofs.YtjabgjlkemfofaaW.PrintMore Go.Proofs.Ytjabgjlkemfofaa.Lem
set_option linter.unusedVariables false
set_option linter.unusedSimpArgs false
theorem FnExactPartsOk : laws_FnExactPartsOk.Pure := by
  intro l ⟨hl, hs⟩
  unfold maxLen at hl hs
  obtain ⟨k, hk⟩ : ∃ k, (l.length + 1) * (l.length + 4) + 1048576 + l.length + l.length + 10 < k := ⟨_, Nat.lt_succ_self _⟩
  refine ⟨k, ?_⟩
  unfold laws_FnExactPartsOk.f
  obtain ⟨q, hq, hc⟩ := szPartS_ok l hl (fun x hx => (hs x hx).1) k (by omega)
  rw [hq]
  simp only [Option.bind_some]
  by_cases hb : q < 0
  · rw [if_pos hb]
  rw [if_neg hb]
  obtain ⟨hl2, hs2⟩ := hc.resolve_left hb
  have hm : (l.map cvPart).length = l.length := List.length_map _
  have hs3 : ∀ x ∈ l.map cvPart, x.f0.size ≤ 1048576 := fun x hx => by
    obtain ⟨y, hy, rfl⟩ := List.mem_map.1 hx
    exact hs2 y hy
  simp only [toPartS_ok l k (by omega) (by omega), Option.bind_some, parts_spec (l.map cvPart) (by omega) 1048576 hs3 (by omega) k (by rw [hm]; omega), parts_impl (l.map cvPart) (by omega) 1048576 hs3 (by omega) k (by omega), eqPartS_self (l.map cvPart) k (by omega) (by omega)]
  simp

end Go.Proofs.Ytjabgjlkemfofaa.Pure
