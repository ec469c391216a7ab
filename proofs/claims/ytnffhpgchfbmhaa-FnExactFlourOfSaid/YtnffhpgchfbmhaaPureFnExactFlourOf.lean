/- FnExactFlourOf: the program's FlourOf answers as the reference's does, at all arguments; no condition. -/
import Derived.Test.YtnffhpgchfbmhaaQx6
import Derived.Test.YtnffhpgchfbmhaaQx13
import Derived.Test.YtnffhpgchfbmhaaQx14
import Derived.Test.YtnffhpgchfbmhaaQx15
import Derived.Test.YtnffhpgchfbmhaaLembase
import Derived.Test.YtnffhpgchfbmhaaLemin
import Derived.Test.YtnffhpgchfbmhaaLemsumB
import Derived.Test.YtnffhpgchfbmhaaLemsumS
import Derived.Test.YtnffhpgchfbmhaaLemsumI
import Derived.Test.YtnffhpgchfbmhaaLemweighA
namespace Go.Proofs.Ytnffhpgchfbmhaa.Pure
open Go.RowKit Go.Proofs.Ytnffhpgchfbmhaa.Q Go.Proofs.YtnffhpgchfbmhaaW.PrintWords Go.Proofs.YtnffhpgchfbmhaaW.PrintLast Go.Proofs.YtnffhpgchfbmhaaW.PrintMore Go.Proofs.Ytnffhpgchfbmhaa.Lem
set_option linter.unusedVariables false
set_option linter.unusedSimpArgs false
theorem flour_loop (a b c w : Int) : ∀ (d k : Nat) (lo hi : Int), hi - lo ≤ d → 0 ≤ lo → lo ≤ 1000001 → hi ≤ 1000000 → d + 50 < k → ∃ r, spec_FlourOf.l0 k w lo hi a b c = some r ∧ impl_FlourOf.l0 k w lo hi a b c = some r := by
  intro d
  induction d with
  | zero =>
    intro k lo hi hd h0 h1 h2 hk
    obtain ⟨k, rfl⟩ : ∃ m, k = m + 1 := ⟨k - 1, by omega⟩
    refine ⟨if weight a b c lo = w then (lo, true) else (0, false), ?_, ?_⟩
    · rw [spec_FlourOf.l0, if_neg (by omega), weight_spec a b c lo k (by omega)]
      simp only [Option.bind_some]
      split <;> rfl
    · rw [impl_FlourOf.l0, if_neg (by omega), weight_impl a b c lo k (by omega)]
      simp only [Option.bind_some]
      split <;> rfl
  | succ d ih =>
    intro k lo hi hd h0 h1 h2 hk
    obtain ⟨k, rfl⟩ : ∃ m, k = m + 1 := ⟨k - 1, by omega⟩
    rw [spec_FlourOf.l0, impl_FlourOf.l0]
    by_cases hlt : lo < hi
    · have em : wrap64 (Int.tdiv (wrap64 (lo + hi)) 2) = (lo + hi) / 2 := by
        rw [w64 (n := lo + hi) (by omega) (by omega), Int.tdiv_eq_ediv_of_nonneg (by omega), w64 (by omega) (by omega)]
      rw [if_pos hlt, if_pos hlt, em]
      have m1 : lo ≤ (lo + hi) / 2 := by omega
      have m2 : (lo + hi) / 2 < hi := by omega
      generalize (lo + hi) / 2 = m at m1 m2
      rw [weight_spec a b c m k (by omega), weight_impl a b c m k (by omega)]
      simp only [Option.bind_some]
      by_cases hm : weight a b c m ≥ w
      · rw [if_pos hm, if_pos hm]
        exact ih k lo m (by omega) h0 h1 (by omega) (by omega)
      · rw [if_neg hm, if_neg hm, w64 (n := m + 1) (by omega) (by omega)]
        exact ih k (m + 1) hi (by omega) (by omega) (by omega) h2 (by omega)
    · rw [if_neg hlt, if_neg hlt, weight_spec a b c lo k (by omega), weight_impl a b c lo k (by omega)]
      simp only [Option.bind_some]
      refine ⟨if weight a b c lo = w then (lo, true) else (0, false), ?_, ?_⟩ <;> split <;> rfl
theorem FnExactFlourOf : laws_FnExactFlourOf.Pure := by
  intro a b c w _ _ _ _
  obtain ⟨k, hk⟩ : ∃ k, 1000100 < k := ⟨_, Nat.lt_succ_self _⟩
  refine ⟨k, ?_⟩
  obtain ⟨k, rfl⟩ : ∃ m, k = m + 1 := ⟨k - 1, by omega⟩
  have e : laws_toDough.f a b c = some (a, b, c) := rfl
  have key : ∃ r, spec_FlourOf.f (k + 1) a b c w = some r ∧ impl_FlourOf.f (k + 1) a b c w = some r := by
    simp only [spec_FlourOf.f, impl_FlourOf.f, dough_spec, dough_impl, in_spec, in_impl, Option.bind_some]
    by_cases h : dOk a b c = true
    · rw [if_pos h, if_pos h]
      by_cases h2 : 0 ≤ w ∧ w ≤ 1000000
      · rw [decide_eq_true h2, spec_FlourOf.j0, impl_FlourOf.j0, if_neg (by simp), if_neg (by simp)]
        exact flour_loop a b c w 1000000 k 0 1000000 (by omega) (by omega) (by omega) (by omega) (by omega)
      · rw [decide_eq_false h2, spec_FlourOf.j0, impl_FlourOf.j0, if_pos (by simp), if_pos (by simp)]
        exact ⟨_, rfl, rfl⟩
    · rw [if_neg h, if_neg h, spec_FlourOf.j0, impl_FlourOf.j0, if_pos rfl, if_pos rfl]
      exact ⟨_, rfl, rfl⟩
  obtain ⟨r, e1, e2⟩ := key
  simp only [laws_FnExactFlourOf.f, e, Option.bind_some, e1, e2]
  simp

end Go.Proofs.Ytnffhpgchfbmhaa.Pure
