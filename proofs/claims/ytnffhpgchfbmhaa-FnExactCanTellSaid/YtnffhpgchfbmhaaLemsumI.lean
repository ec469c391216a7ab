/- Plain lemmas on the printed functions: what they compute; conditions stand in each lemma. -/
import Derived.Test.YtnffhpgchfbmhaaQx9
import Derived.Test.YtnffhpgchfbmhaaLembase
import Derived.Test.YtnffhpgchfbmhaaLemsumB
namespace Go.Proofs.Ytnffhpgchfbmhaa.Lem
open Go.RowKit Go.Proofs.Ytnffhpgchfbmhaa.Q Go.Proofs.YtnffhpgchfbmhaaW.PrintWords Go.Proofs.YtnffhpgchfbmhaaW.PrintLast Go.Proofs.YtnffhpgchfbmhaaW.PrintMore Go.Proofs.Ytnffhpgchfbmhaa.Lem
set_option linter.unusedVariables false
set_option linter.unusedSimpArgs false
theorem sumI_impl (l : List Int) (h : Small l) (k : Nat) (hk : l.length < k) : impl_sum.f k l = some l.sum := by
  obtain ⟨M, h1, h2, h3⟩ := id h
  unfold impl_sum.f
  have hs := h.sum
  have key : ∀ (d k i : Nat) (s : Int), i + d = l.length → d < k → s + (l.drop i).sum = l.sum → 0 ≤ s → impl_sum.l0 k s l l.length i = some l.sum := by
    intro d
    induction d with
    | zero =>
      intro k i s hd hk hsum h0
      obtain ⟨k, rfl⟩ : ∃ m, k = m + 1 := ⟨k - 1, by omega⟩
      simp only [impl_sum.l0]
      rw [if_neg (by omega)]
      rw [List.drop_eq_nil_of_le (by omega)] at hsum
      simp at hsum
      rw [hsum]
    | succ d ih =>
      intro k i s hd hk hsum h0
      obtain ⟨k, rfl⟩ : ∃ m, k = m + 1 := ⟨k - 1, by omega⟩
      have hi : i < l.length := by omega
      simp only [impl_sum.l0]
      rw [if_pos (by omega), if_pos (by omega), if_pos (by omega), w64s (n := l.length) (by omega) (by omega) (by omega)]
      have e : rd l (i : Int) = l[i] := by simp [rd, List.getD_eq_getElem?_getD, hi]
      have hx := h1 _ (List.getElem_mem hi)
      rw [List.drop_eq_getElem_cons hi, List.sum_cons] at hsum
      have hd2 := h.drop (i + 1)
      rw [e, w64 (n := s + l[i]) (by omega) (by omega)]
      have := ih k (i + 1) (s + l[i]) (by omega) (by omega) (by omega) (by omega)
      simpa using this
  exact key l.length k 0 0 (by omega) hk (by simp) (by omega)

end Go.Proofs.Ytnffhpgchfbmhaa.Lem
