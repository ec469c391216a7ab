/- FnExactFewestTimes: the program's FewestTimes answers as the reference's does, at all arguments; no condition. -/
import Derived.Test.YtgibgapbbnbekaaQx0
import Derived.Test.YtgibgapbbnbekaaQx20
import Derived.Test.YtgibgapbbnbekaaQx22
import Derived.Test.YtgibgapbbnbekaaQx24
import Derived.Test.YtgibgapbbnbekaaLembase
import Derived.Test.YtgibgapbbnbekaaLemin
import Derived.Test.YtgibgapbbnbekaaLemeqI
import Derived.Test.YtgibgapbbnbekaaLemmarks
import Derived.Test.YtgibgapbbnbekaaLemstFrozen
import Derived.Test.YtgibgapbbnbekaaLemthawA
import Derived.Test.YtgibgapbbnbekaaLemthawB
import Derived.Test.YtgibgapbbnbekaaLemthawC
import Derived.Test.YtgibgapbbnbekaaLemsortA
import Derived.Test.YtgibgapbbnbekaaLemthawD
import Derived.Test.YtgibgapbbnbekaaLemthawE
namespace Go.Proofs.Ytgibgapbbnbekaa.Pure
open Go.RowKit Go.Proofs.Ytgibgapbbnbekaa.Q Go.Proofs.YtgibgapbbnbekaaW.PrintWords Go.Proofs.YtgibgapbbnbekaaW.PrintLast Go.Proofs.YtgibgapbbnbekaaW.PrintMore Go.Proofs.Ytgibgapbbnbekaa.Lem
set_option linter.unusedVariables false
set_option linter.unusedSimpArgs false
theorem markFrozen_ok (l : List S25) (hl : l.length ≤ 1000000000) : ∀ (d k i : Nat) (xs : List S25), i + d = l.length → d < k → xs.length = l.length → ∃ q ys, laws_markFrozenS.l0 k xs (2 * (i : Int) + 1) i = some (q, ys) ∧ 0 ≤ q := by
  intro d
  induction d with
  | zero =>
    intro k i xs hd hk hx
    obtain ⟨k, rfl⟩ : ∃ m, k = m + 1 := ⟨k - 1, by omega⟩
    simp only [laws_markFrozenS.l0]
    rw [if_neg (by omega)]
    exact ⟨_, _, rfl, by omega⟩
  | succ d ih =>
    intro k i xs hd hk hx
    obtain ⟨k, rfl⟩ : ∃ m, k = m + 1 := ⟨k - 1, by omega⟩
    simp only [laws_markFrozenS.l0]
    rw [if_pos (by omega), if_pos (by omega)]
    simp only [Option.bind_some]
    rw [w64 (n := 2 * (i : Int) + 1 + 1) (by omega) (by omega), w64 (n := 2 * (i : Int) + 1 + 1 + 1) (by omega) (by omega), w64 (n := (i : Int) + 1) (by omega) (by omega)]
    have e : 2 * (i : Int) + 1 + 1 + 1 = 2 * ((i + 1 : Nat) : Int) + 1 := by omega
    have e2 : (i : Int) + 1 = ((i + 1 : Nat) : Int) := by omega
    rw [e, e2]
    exact ih k (i + 1) _ (by omega) (by omega) (by simp [hx])
theorem FnExactFewestTimes : laws_FnExactFewestTimes.Pure := by
  intro l w ⟨hl, _⟩ _
  refine ⟨l.length + 3000 + 1, ?_⟩
  unfold maxLen at hl
  unfold laws_FnExactFewestTimes.f
  obtain ⟨q, hq, hc⟩ := szFrozenS_ok l hl
  rw [hq]
  simp only [Option.bind_some]
  by_cases hb : q < 0
  · rw [if_pos hb]
  rw [if_neg hb]
  have hl2 : l.length ≤ 1048576 := by omega
  have hm : (l.map cvFrozen).length = l.length := List.length_map _
  obtain ⟨v, hv, e1, e2⟩ := fewest_same (l.map cvFrozen) w (by omega) (l.length + 3000 + 1) (by omega)
  obtain ⟨v', hv', e1', e2'⟩ := fewest_same (l.map cvFrozen) w (by omega) (l.length + 3000) (by omega)
  simp only [toFrozenS_ok l (l.length + 3000 + 1) (by omega) (by omega), Option.bind_some, e1, e2, eqIntS_self v (l.length + 3000 + 1) (by omega) (by omega), if_true, eqFrozenS_self (l.map cvFrozen) (l.length + 3000 + 1) (by omega) (by omega)]
  obtain ⟨q2, ys, e3, h3⟩ := markFrozen_ok (l.map cvFrozen) (by omega) (l.map cvFrozen).length (l.length + 3000 + 1) 0 (l.map cvFrozen) (by omega) (by omega) rfl
  have e3' : laws_markFrozenS.f (l.length + 3000 + 1) (l.map cvFrozen) 1 = some (q2, ys) := e3
  rw [e3']
  simp only [Option.bind_some]
  rw [if_neg (by omega)]
  simp only [laws_FnExactFewestTimes.j0, Bool.not_true, Bool.false_eq_true, if_false]
  have ev : v' = v := by
    have := spec_FewestTimes.mono (l.map cvFrozen) w (l.length + 3000)
    have := this v' e1'
    rw [e1] at this
    exact (Option.some.inj this).symm
  subst ev
  rw [markIntS_ok v' (l.length + 3000) (by omega) (by omega)]
  simp only [Option.bind_some]
  rw [heldIntS_ok v'.length (l.length + 3000) (by omega) (by omega)]
  simp only [Option.bind_some]
  rw [if_neg (by omega), if_pos trivial]
  simp only [toFrozenS_ok l (l.length + 3000) (by omega) (by omega), Option.bind_some, e2', eqIntS_self v' (l.length + 3000) (by omega) (by omega), if_true]
  rw [if_neg (by omega)]

end Go.Proofs.Ytgibgapbbnbekaa.Pure
