/- FnTastes: votes for both directions are all votes, and who beats all is beaten by nobody: the law answers true at every draw; no condition. -/
import Derived.Test.YtekcdkefomkgdaaQx0
import Derived.Test.YtekcdkefomkgdaaQx7
import Derived.Test.YtekcdkefomkgdaaQx8
import Derived.Test.YtekcdkefomkgdaaQx24
import Derived.Test.YtekcdkefomkgdaaQx26
import Derived.Test.YtekcdkefomkgdaaQx27
import Derived.Test.YtekcdkefomkgdaaLempermT
namespace Go.Proofs.Ytekcdkefomkgdaa.Pure
open Go.RowKit Go.Proofs.Ytekcdkefomkgdaa.Q Go.Proofs.YtekcdkefomkgdaaW.PrintWords Go.Proofs.YtekcdkefomkgdaaW.PrintLast Go.Proofs.YtekcdkefomkgdaaW.PrintMore Go.Proofs.Ytekcdkefomkgdaa.Lem
set_option linter.unusedVariables false
set_option linter.unusedSimpArgs false
/-- Does bread i beat all others below j? -/
def allTo (l : List (List Int)) (i j : Nat) : Bool := (List.range j).all fun b : Nat => decide (i = b) || beatB l i b
theorem allTo_succ (l : List (List Int)) (i j : Nat) : allTo l i (j + 1) = (allTo l i j && (decide (i = j) || beatB l i j)) := by
  unfold allTo
  rw [List.range_succ, List.all_append]
  simp
theorem wiN (j : Nat) (h : j ≤ 1000) : wrap64 ((j : Int) + 1) = ((j + 1 : Nat) : Int) := by rw [w64 (by omega) (by omega)]; rfl
theorem law_out {n : Nat} {l : List (List Int)} (h : Lem.Good n l) {i : Nat} (hi : i < n) (sum : Int) (k : Nat) : laws_FnTastes.l1 (k + 1) l n (idxR (winsB l n) n) (pointsL n l) (firstMax (pointsL n l)) sum i (aheadS l i n) (allTo l i n) n = laws_FnTastes.l0 k l n (idxR (winsB l n) n) (pointsL n l) (firstMax (pointsL n l)) sum ((i + 1 : Nat) : Int) := by
  have hn := h.1.2
  obtain ⟨f1, f2, f3⟩ := win_facts h
  have hlen := pointsL_len n l
  have hp := good_pt h hi
  have hb := good_pt h f1
  have a1 := f2 i hi
  have ea : (allTo l i n != ((i : Int) == idxR (winsB l n) n)) = false := by
    rw [← wins_is h hi]
    exact bne_self_eq_false _
  generalize idxR (winsB l n) n = w at ea ⊢
  generalize firstMax (pointsL n l) = b at f1 f2 f3 hb a1 ⊢
  generalize pointsL n l = p at hlen hp hb ⊢
  generalize allTo l i n = al at ea ⊢
  simp only [laws_FnTastes.l1]
  rw [if_neg (by omega), if_pos (by omega), if_pos (by omega), if_pos hp.symm, if_pos (by omega), if_pos (by omega), hp, hb, if_neg (by omega)]
  rw [wiN i (by omega), ea]
  by_cases c : (i : Int) < (b : Int)
  · have hne := f3 i (by omega)
    rw [if_pos c, if_neg hne, if_neg (by decide)]
  · rw [if_neg c, if_neg (by decide)]
theorem law_next {n : Nat} {l : List (List Int)} (h : Lem.Good n l) {i j : Nat} (hi : i < n) (hj : j < n) (w : Int) (p : List Int) (b sum : Int) (k : Nat) (hk : 1100 < k) : laws_FnTastes.l1 (k + 1) l n w p b sum i (aheadS l i j) (allTo l i j) j = laws_FnTastes.l1 k l n w p b sum i (aheadS l i (j + 1)) (allTo l i (j + 1)) ((j + 1 : Nat) : Int) := by
  have hn := h.1.2
  have hl := h.2.1.2
  have b1 := aheadS_bd l hl i j
  have b2 := prefC_bd l i j
  have b3 := prefC_bd l j i
  by_cases c : i = j
  · have es : aheadS l i (j + 1) = aheadS l i j := by rw [aheadS, if_pos c]; omega
    have et : allTo l i (j + 1) = allTo l i j := by rw [allTo_succ]; simp [c]
    rw [es, et]
    simp only [laws_FnTastes.l1]
    generalize laws_FnTastes.l1 k = F
    generalize laws_FnTastes.l0 k = F0
    rw [if_pos (by omega), wiN j (by omega), if_pos (by omega)]
  · have c' : ¬ j = i := fun e => c e.symm
    have two := prefC_two hn h.2.2 hi hj c
    have es : aheadS l i (j + 1) = aheadS l i j + prefC i j l := by rw [aheadS, if_neg c]
    have et : allTo l i (j + 1) = (allTo l i j && decide (2 * prefC i j l > (l.length : Int))) := by rw [allTo_succ]; simp [c, beatB]
    have g1 := good_prefers h hi hj c k (by omega)
    have g2 := good_prefers h hj hi c' k (by omega)
    rw [es, et]
    generalize aheadS l i j = s at b1 ⊢
    generalize allTo l i j = al
    generalize prefC (i : Int) (j : Int) l = x at b2 two g1 ⊢
    generalize prefC (j : Int) (i : Int) l = y at b3 two g2
    simp only [laws_FnTastes.l1]
    generalize laws_FnTastes.l1 k = F
    generalize laws_FnTastes.l0 k = F0
    rw [if_pos (by omega), wiN j (by omega), if_neg (by omega), g1]
    simp only [Option.bind_some]
    rw [if_neg (by omega), g2, Option.bind_some]
    rw [w64 (n := x + y) (by omega) (by omega), if_pos two, w64 (n := s + x) (by omega) (by omega), w64 (n := 2 * x) (by omega) (by omega)]
    cases al with
    | true => rw [if_pos rfl, Bool.true_and]
    | false => rw [if_neg (by decide), Bool.false_and]
theorem law_l1 {n : Nat} {l : List (List Int)} (h : Lem.Good n l) {i : Nat} (hi : i < n) (sum : Int) : ∀ (d j k : Nat), j + d = n → 1100 + d < k → ∃ k', k ≤ k' + d + 1 ∧ laws_FnTastes.l1 k l n (idxR (winsB l n) n) (pointsL n l) (firstMax (pointsL n l)) sum i (aheadS l i j) (allTo l i j) j = laws_FnTastes.l0 k' l n (idxR (winsB l n) n) (pointsL n l) (firstMax (pointsL n l)) sum ((i + 1 : Nat) : Int) := by
  intro d
  induction d with
  | zero =>
    intro j k hd hk
    obtain ⟨k, rfl⟩ : ∃ m, k = m + 1 := ⟨k - 1, by omega⟩
    have e : j = n := by omega
    subst e
    exact ⟨k, by omega, law_out h hi sum k⟩
  | succ d ih =>
    intro j k hd hk
    obtain ⟨k, rfl⟩ : ∃ m, k = m + 1 := ⟨k - 1, by omega⟩
    obtain ⟨k', hk', e⟩ := ih (j + 1) k (by omega) (by omega)
    exact ⟨k', by omega, (law_next h hi (by omega) _ _ _ sum k (by omega)).trans e⟩
theorem law_end {n : Nat} {l : List (List Int)} (h : Lem.Good n l) (k : Nat) (hk : 1100 < k) : laws_FnTastes.l0 k l n (idxR (winsB l n) n) (pointsL n l) (firstMax (pointsL n l)) (sumS l n n) n = some true := by
  obtain ⟨k, rfl⟩ : ∃ m, k = m + 1 := ⟨k - 1, by omega⟩
  have hn := h.1.2
  have hn1 := h.1.1
  have hl := h.2.1.2
  have hl1 := h.2.1.1
  have hs : sumS l n n = wrap64 (Int.tdiv (wrap64 ((wrap64 ((l.length : Int) * n)) * (wrap64 (n - 1)))) 2) := by
    have e := sumS_all hn l h.2.2
    have hb := sumS_bd l hl n hn n
    have hc : n = 1 ∨ n = 2 ∨ n = 3 ∨ n = 4 := by omega
    have t : ∀ x : Int, wrap64 (Int.tdiv (wrap64 x) 2) = x / 2 ∨ ¬ (0 ≤ x ∧ x ≤ 1000000) := fun x => by
      by_cases q : 0 ≤ x ∧ x ≤ 1000000
      · left
        rw [w64 (n := x) (by omega) (by omega), Int.tdiv_eq_ediv_of_nonneg q.1, w64 (by omega) (by omega)]
      · exact .inr q
    generalize sumS l n n = s at e hb ⊢
    rcases hc with rfl | rfl | rfl | rfl
    · rw [w64 (n := (l.length : Int) * ((1 : Nat) : Int)) (by omega) (by omega), w64 (n := ((1 : Nat) : Int) - 1) (by omega) (by omega)]
      rcases t ((l.length : Int) * ((1 : Nat) : Int) * (((1 : Nat) : Int) - 1)) with q | q <;> omega
    · rw [w64 (n := (l.length : Int) * ((2 : Nat) : Int)) (by omega) (by omega), w64 (n := ((2 : Nat) : Int) - 1) (by omega) (by omega)]
      rcases t ((l.length : Int) * ((2 : Nat) : Int) * (((2 : Nat) : Int) - 1)) with q | q <;> omega
    · rw [w64 (n := (l.length : Int) * ((3 : Nat) : Int)) (by omega) (by omega), w64 (n := ((3 : Nat) : Int) - 1) (by omega) (by omega)]
      rcases t ((l.length : Int) * ((3 : Nat) : Int) * (((3 : Nat) : Int) - 1)) with q | q <;> omega
    · rw [w64 (n := (l.length : Int) * ((4 : Nat) : Int)) (by omega) (by omega), w64 (n := ((4 : Nat) : Int) - 1) (by omega) (by omega)]
      rcases t ((l.length : Int) * ((4 : Nat) : Int) * (((4 : Nat) : Int) - 1)) with q | q <;> omega
  have hv : impl_VotesOk.f k l n = some true := by rw [votes_impl l n 4 k (by omega) h.len (by omega) (by omega), h.ok]
  simp only [laws_FnTastes.l0]
  rw [if_neg (by omega)]
  simp only [Option.bind_some]
  rw [if_pos hs]
  have e1 : impl_HasCircle.f k [[0, 1, 2], [1, 2, 0], [2, 0, 1]] 3 = some true := circ_has k (by omega)
  have e2 : impl_BeatsAll.f k [[0, 1, 2], [1, 2, 0], [2, 0, 1]] 3 = some (-1) := circ_all k (by omega)
  rw [e1]
  simp only [Option.bind_some, if_true]
  rw [e2]
  simp only [Option.bind_some]
  rw [if_pos trivial]
  have one : ¬ (l.length : Int) > 1 → impl_HasCircle.f k l n = some false ∧ 0 < ((rd_L1 l 0).length : Int) ∧ idxR (winsB l n) n = rd (rd_L1 l 0) 0 := fun c => by
    obtain ⟨v, rfl⟩ : ∃ v, l = [v] := List.length_eq_one_iff.1 (by omega)
    have er : rd_L1 [v] 0 = v := rfl
    have hlen := perm_len hn (h.2.2 v List.mem_cons_self)
    exact ⟨circle_no h (flat_one h) k (by omega), by rw [er]; omega, by rw [er, one_wins h]; rfl⟩
  by_cases c3 : (n : Int) ≥ 3
  · rw [if_pos c3]
    by_cases c4 : (l.length : Int) > 1
    · rw [if_pos c4, hv]
      rfl
    · obtain ⟨o1, o2, o3⟩ := one c4
      rw [if_neg c4, o1]
      simp only [Option.bind_some]
      rw [if_neg (by decide), if_pos (by omega), if_pos o2, if_pos o3, hv]
      rfl
  · rw [if_neg c3, circle_no h (flat_few (by omega)) k (by omega)]
    simp only [Option.bind_some]
    rw [if_neg (by decide)]
    by_cases c4 : (l.length : Int) > 1
    · rw [if_pos c4, hv]
      rfl
    · obtain ⟨o1, o2, o3⟩ := one c4
      rw [if_neg c4]
      rw [if_neg (by decide), if_pos (by omega), if_pos o2, if_pos o3, hv]
      rfl
theorem law_l0 {n : Nat} {l : List (List Int)} (h : Lem.Good n l) : ∀ (d i k : Nat), i + d = n → 1200 + 20 * d < k → laws_FnTastes.l0 k l n (idxR (winsB l n) n) (pointsL n l) (firstMax (pointsL n l)) (sumS l n i) i = some true := by
  intro d
  have hn := h.1.2
  have hl := h.2.1.2
  induction d with
  | zero =>
    intro i k hd hk
    have e : i = n := by omega
    subst e
    exact law_end h k (by omega)
  | succ d ih =>
    intro i k hd hk
    obtain ⟨k, rfl⟩ : ∃ m, k = m + 1 := ⟨k - 1, by omega⟩
    have hi : i < n := by omega
    have hlen := pointsL_len n l
    have b1 := sumS_bd l hl n hn i
    have b2 := aheadS_bd l hl i n
    simp only [laws_FnTastes.l0]
    rw [if_pos (by omega), if_pos (by omega), if_pos (by omega), good_pt h hi, w64 (by omega) (by omega)]
    obtain ⟨k', hk', e⟩ := law_l1 h hi (sumS l n i + aheadS l i n) n 0 k (by omega) (by omega)
    have e2 := ih (i + 1) k' (by omega) (by omega)
    exact e.trans e2
theorem FnTastes : laws_FnTastes.Pure := by
  intro l ⟨hl, hw⟩
  have key : ∀ k : Nat, l.length + 2000 < k → laws_FnTastes.f k l = some true := by
    intro k hk
    have hl' : l.length ≤ 9223372036854775807 := hl
    unfold laws_FnTastes.f
    rw [big_eq]
    simp only [Option.bind_some]
    by_cases hb : (l.length : Int) > 1048576
    · rw [decide_eq_true hb, if_pos rfl]
    · rw [decide_eq_false hb, if_neg (by decide)]
      obtain ⟨n, vs, e, h⟩ := draw_ok l k (by omega) hl'
      rw [e]
      simp only [Option.bind_some]
      have hn := h.1.2
      obtain ⟨f1, _, _⟩ := win_facts h
      have f2 := idx_lt (n := n) (l := vs)
      rw [good_all h k (by omega)]
      simp only [Option.bind_some]
      rw [good_points h k (by omega)]
      simp only [Option.bind_some]
      rw [good_win h k (by omega)]
      simp only [Option.bind_some]
      rw [pointsL_len, if_pos rfl, if_neg (by omega), if_neg (by omega), decide_eq_false (by omega)]
      obtain ⟨k, rfl⟩ : ∃ m, k = m + 1 := ⟨k - 1, by omega⟩
      simp only [laws_FnTastes.j0]
      rw [if_neg (by decide)]
      exact law_l0 h n 0 k (by omega) (by omega)
  exact ⟨l.length + 2001, key _ (by omega)⟩

end Go.Proofs.Ytekcdkefomkgdaa.Pure
