/- Plain lemmas on the printed functions: what they compute; conditions stand in each lemma. -/
import Derived.Test.YtekcdkefomkgdaaQx17
import Derived.Test.YtekcdkefomkgdaaQx18
import Derived.Test.YtekcdkefomkgdaaLembase
namespace Go.Proofs.Ytekcdkefomkgdaa.Lem
open Go.RowKit Go.Proofs.Ytekcdkefomkgdaa.Q Go.Proofs.YtekcdkefomkgdaaW.PrintWords Go.Proofs.YtekcdkefomkgdaaW.PrintLast Go.Proofs.YtekcdkefomkgdaaW.PrintMore Go.Proofs.Ytekcdkefomkgdaa.Lem
set_option linter.unusedVariables false
set_option linter.unusedSimpArgs false
def markL (n : Nat) : List Int := (List.range n).map fun i : Nat => (i : Int) + 1
theorem markIntS_ok (l : List Int) (k : Nat) (hl : l.length ≤ 4611686018427387904) (hk : l.length < k) : laws_markIntS.f k l 1 = some ((l.length : Int) + 1, markL l.length) := by
  unfold laws_markIntS.f
  have key : ∀ (d k i : Nat) (xs : List Int), i + d = l.length → d < k → xs.length = l.length → (∀ j, j < i → xs[j]? = some ((j : Int) + 1)) → laws_markIntS.l0 k xs ((i : Int) + 1) i = some ((l.length : Int) + 1, markL l.length) := by
    intro d
    induction d with
    | zero =>
      intro k i xs hd hk hx hj
      obtain ⟨k, rfl⟩ : ∃ m, k = m + 1 := ⟨k - 1, by omega⟩
      simp only [laws_markIntS.l0]
      rw [if_neg (by omega)]
      have : xs = markL l.length := by
        apply List.ext_getElem?
        intro j
        by_cases h : j < i
        · rw [hj j h]
          have : j < l.length := by omega
          simp [markL, this]
        · rw [List.getElem?_eq_none (by omega), List.getElem?_eq_none (by simp [markL]; omega)]
      rw [this]
      congr 2
      omega
    | succ d ih =>
      intro k i xs hd hk hx hj
      obtain ⟨k, rfl⟩ : ∃ m, k = m + 1 := ⟨k - 1, by omega⟩
      simp only [laws_markIntS.l0]
      rw [if_pos (by omega), if_pos (by omega), w64 (n := (i : Int) + 1) (by omega) (by omega), w64 (n := (i : Int) + 1 + 1) (by omega) (by omega)]
      have := ih k (i + 1) (xs.set i ((i : Int) + 1)) (by omega) (by omega) (by simpa using hx) (fun j hj2 => by
        rw [List.getElem?_set]
        by_cases e : i = j
        · subst e
          simp; omega
        · rw [if_neg e]
          exact hj j (by omega))
      simpa using this
  have := key l.length k 0 l (by omega) hk rfl (fun j hj => by omega)
  simpa using this
theorem heldIntS_ok (n : Nat) (k : Nat) (hl : n ≤ 4611686018427387904) (hk : n < k) : laws_heldIntS.f k (markL n) 1 = some ((n : Int) + 1) := by
  unfold laws_heldIntS.f
  have hlen : (markL n).length = n := by simp [markL]
  have key : ∀ (d k i : Nat), i + d = n → d < k → laws_heldIntS.l0 k (markL n) ((i : Int) + 1) i = some ((n : Int) + 1) := by
    intro d
    induction d with
    | zero =>
      intro k i hd hk
      obtain ⟨k, rfl⟩ : ∃ m, k = m + 1 := ⟨k - 1, by omega⟩
      simp only [laws_heldIntS.l0]
      rw [if_neg (by omega)]
      congr 2
      omega
    | succ d ih =>
      intro k i hd hk
      obtain ⟨k, rfl⟩ : ∃ m, k = m + 1 := ⟨k - 1, by omega⟩
      have e : rd (markL n) (i : Int) = (i : Int) + 1 := by
        have : i < n := by omega
        simp [rd, markL, List.getD_eq_getElem?_getD, this]
      simp only [laws_heldIntS.l0]
      rw [if_pos (by omega), if_pos (by omega), e, if_pos rfl, w64 (n := (i : Int) + 1 + 1) (by omega) (by omega), w64 (n := (i : Int) + 1) (by omega) (by omega)]
      have := ih k (i + 1) (by omega) (by omega)
      simpa using this
  have := key n k 0 (by omega) hk
  simpa using this

end Go.Proofs.Ytekcdkefomkgdaa.Lem
