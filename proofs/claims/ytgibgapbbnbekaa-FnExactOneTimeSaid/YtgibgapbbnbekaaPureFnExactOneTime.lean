/- FnExactOneTime: the program's OneTime answers as the reference's does, at all arguments; no condition. -/
import Derived.Test.YtgibgapbbnbekaaQx6
import Derived.Test.YtgibgapbbnbekaaLembase
import Derived.Test.YtgibgapbbnbekaaLemin
import Derived.Test.YtgibgapbbnbekaaLemstFrozen
import Derived.Test.YtgibgapbbnbekaaLemthawA
import Derived.Test.YtgibgapbbnbekaaLemthawB
import Derived.Test.YtgibgapbbnbekaaLemthawC
namespace Go.Proofs.Ytgibgapbbnbekaa.Pure
open Go.RowKit Go.Proofs.Ytgibgapbbnbekaa.Q Go.Proofs.YtgibgapbbnbekaaW.PrintWords Go.Proofs.YtgibgapbbnbekaaW.PrintLast Go.Proofs.YtgibgapbbnbekaaW.PrintMore Go.Proofs.Ytgibgapbbnbekaa.Lem
set_option linter.unusedVariables false
set_option linter.unusedSimpArgs false
theorem FnExactOneTime : laws_FnExactOneTime.Pure := by
  intro l w ⟨hl, _⟩ _
  refine ⟨l.length + 20 + 1, ?_⟩
  unfold maxLen at hl
  unfold laws_FnExactOneTime.f
  obtain ⟨q, hq, hc⟩ := szFrozenS_ok l hl
  rw [hq]
  simp only [Option.bind_some]
  by_cases hb : q < 0
  · rw [if_pos hb]
  rw [if_neg hb]
  have hl2 : l.length ≤ 1048576 := by omega
  have hm : (l.map cvFrozen).length = l.length := List.length_map _
  simp only [toFrozenS_ok l (l.length + 20 + 1) (by omega) (by omega), Option.bind_some, one_spec (l.map cvFrozen) w (l.length + 20 + 1) (by omega) (by omega), one_impl (l.map cvFrozen) w (l.length + 20 + 1) (by omega) (by omega)]
  simp only [laws_FnExactOneTime.j0, toFrozenS_ok l (l.length + 20) (by omega) (by omega), Option.bind_some, eqFrozenS_self (l.map cvFrozen) (l.length + 20) (by omega) (by omega)]
  simp

end Go.Proofs.Ytgibgapbbnbekaa.Pure
