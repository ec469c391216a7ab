/- FnCards: stamps are never lost, and ten of them are one loaf: the law answers true at every draw; no condition. -/
import Derived.Test.YtocbhklcicbcnaaQx1
import Derived.Test.YtocbhklcicbcnaaQx11
import Derived.Test.YtocbhklcicbcnaaQx12
import Derived.Test.YtocbhklcicbcnaaQx13
import Derived.Test.YtocbhklcicbcnaaLembase
import Derived.Test.YtocbhklcicbcnaaLemin
import Derived.Test.YtocbhklcicbcnaaLemcardsA
import Derived.Test.YtocbhklcicbcnaaLemcardsB
import Derived.Test.YtocbhklcicbcnaaLemcardsC
import Derived.Test.YtocbhklcicbcnaaLemcardsD
import Derived.Test.YtocbhklcicbcnaaLemcardsE
import Derived.Test.YtocbhklcicbcnaaLemdraw
namespace Go.Proofs.Ytocbhklcicbcnaa.Pure
open Go.RowKit Go.Proofs.Ytocbhklcicbcnaa.Q Go.Proofs.YtocbhklcicbcnaaW.PrintWords Go.Proofs.YtocbhklcicbcnaaW.PrintLast Go.Proofs.YtocbhklcicbcnaaW.PrintMore Go.Proofs.Ytocbhklcicbcnaa.Lem
set_option linter.unusedVariables false
set_option linter.unusedSimpArgs false
theorem drawCard_ok (l : List Int) (k : Nat) (hk : l.length < k) (hl : l.length ≤ 9223372036854775807) : ∃ a b, spec_DrawCard.f k l = some (a, b) ∧ 0 ≤ a ∧ a ≤ 9 ∧ 0 ≤ b ∧ b ≤ 4 := by
  obtain ⟨h, e⟩ := new_ok l k hk hl
  unfold spec_DrawCard.f spec_l25Card.f
  rw [e]
  simp only [Option.bind_some]
  obtain ⟨x, i1, h1, e1, p1, q1, _, r1⟩ := below_ok l 0 h 10 (by omega) hl
  rw [e1]
  simp only [Option.bind_some]
  obtain ⟨y, i2, h2, e2, p2, q2, _, r2⟩ := below_ok l i1 h1 5 r1 hl
  rw [e2]
  simp only [Option.bind_some]
  have := q1 (by omega)
  have := q2 (by omega)
  exact ⟨x, y, rfl, by omega, by omega, by omega, by omega⟩
theorem buy_eq {a b n : Int} (h1 : 0 ≤ a) (h2 : a ≤ 9) (h3 : 0 ≤ b) (h4 : b ≤ 100) (h5 : 0 ≤ n) (h6 : n ≤ 1000) : buy a b n = ((a + n) % 10, b + (a + n) / 10, true) := by
  unfold buy
  rw [if_pos ⟨cardOk_iff.2 (by omega), h5, h6, cardOk_iff.2 (by omega)⟩]
theorem join_eq {a b c d : Int} (h1 : 0 ≤ a) (h2 : a ≤ 9) (h3 : 0 ≤ b) (h4 : b ≤ 100) (h5 : 0 ≤ c) (h6 : c ≤ 9) (h7 : 0 ≤ d) (h8 : d ≤ 100) : join a b c d = ((a + c) % 10, b + d + (a + c) / 10, true) := by
  unfold join
  rw [if_pos ⟨cardOk_iff.2 (by omega), cardOk_iff.2 (by omega), cardOk_iff.2 (by omega)⟩]
theorem for_eq {m p : Int} (h1 : 0 ≤ m) (h2 : m ≤ 100000) (h3 : 1 ≤ p) (h4 : p ≤ 1000) : impl_LoavesFor.f m p = some (m / p + m / p / 10) := by
  simp only [impl_LoavesFor.f, in_impl, Option.bind_some]
  rw [decide_eq_true (show 0 ≤ m ∧ m ≤ 100000 by omega), decide_eq_true (show 1 ≤ p ∧ p ≤ 1000 by omega), if_pos rfl, if_pos rfl, if_neg (by omega), Int.tdiv_eq_ediv_of_nonneg h1]
  have a1 : 0 ≤ m / p := Int.ediv_nonneg h1 (by omega)
  have a2 : m / p ≤ m := Int.ediv_le_self _ h1
  generalize m / p = q at a1 a2
  rw [w64 (n := q) (by omega) (by omega), Int.tdiv_eq_ediv_of_nonneg a1, w64 (n := q / 10) (by omega) (by omega), w64 (by omega) (by omega)]
set_option maxRecDepth 4000 in
theorem FnCards : laws_FnCards.Pure := by
  intro l ⟨hl, hw⟩
  unfold maxLen at hl
  refine ⟨l.length + 1 + 1, ?_⟩
  unfold laws_FnCards.f
  rw [big_eq]
  simp only [Option.bind_some]
  by_cases hb : decide ((l.length : Int) > 1048576) = true
  · rw [if_pos hb]
  rw [if_neg hb]
  obtain ⟨a, b, e, ha0, ha1, hb0, hb1⟩ := drawCard_ok l (l.length + 1 + 1) (by omega) hl
  rw [e]
  simp only [Option.bind_some]
  obtain ⟨n, en, n0, n1⟩ := at_ok l 0 (by omega) (by omega) hl hw
  rw [en]
  simp only [Option.bind_some]
  rw [buy_impl, buy_eq ha0 ha1 hb0 (by omega) n0 (by omega)]
  simp only [Option.bind_some, until_impl]
  have hu : untilFree a b = 10 - a := by
    unfold untilFree
    rw [if_pos (cardOk_iff.2 (by omega))]
  rw [hu, buy_impl, buy_eq ha0 ha1 hb0 (by omega) (by omega) (by omega), w64 (n := 10 - a - 1) (by omega) (by omega)]
  simp only [Option.bind_some]
  rw [buy_impl, buy_eq ha0 ha1 hb0 (by omega) (by omega) (by omega)]
  simp only [Option.bind_some]
  obtain ⟨v1, ev1, v10, v11⟩ := at_ok l 1 (by omega) (by omega) hl hw
  obtain ⟨v2, ev2, v20, v21⟩ := at_ok l 2 (by omega) (by omega) hl hw
  obtain ⟨v3, ev3, v30, v31⟩ := at_ok l 3 (by omega) (by omega) hl hw
  obtain ⟨v4, ev4, v40, v41⟩ := at_ok l 4 (by omega) (by omega) hl hw
  rw [ev1, ev2]
  simp only [Option.bind_some]
  rw [Int.tmod_eq_emod_of_nonneg v10, Int.tmod_eq_emod_of_nonneg v20, join_impl, join_eq ha0 ha1 hb0 (by omega) (by omega) (by omega) (by omega) (by omega)]
  simp only [Option.bind_some, use_impl]
  rw [ev3, ev4]
  simp only [Option.bind_some]
  rw [Int.tmod_eq_emod_of_nonneg v40, w64 (n := v3 * 10) (by omega) (by omega), w64 (n := 1 + v4 % 40) (by omega) (by omega), for_eq (by omega) (by omega) (by omega) (by omega)]
  simp only [Option.bind_some, if_true]
  have d0 : 0 ≤ v3 * 10 / (1 + v4 % 40) := Int.ediv_nonneg (by omega) (by omega)
  have d1 : v3 * 10 / (1 + v4 % 40) ≤ v3 * 10 := Int.ediv_le_self _ (by omega)
  rw [if_pos (by unfold wrap64; omega), if_pos (by unfold wrap64; omega), if_pos (by omega), if_pos (by omega), if_neg (by omega), decide_eq_false (by omega)]
  simp only [laws_FnCards.j0, Bool.false_eq_true, if_false, if_true]
  rw [if_pos (by unfold wrap64; omega), if_pos (by omega)]
  have hq : (useFree a b).2.2 = decide (b > 0) := by
    unfold useFree
    by_cases h : b = 0
    · rw [if_neg (fun hh => hh.2 h)]
      simp; omega
    · rw [if_pos ⟨cardOk_iff.2 (by omega), h⟩]
      simp; omega
  rw [hq, if_pos (beq_self_eq_true _)]
  have tail : (if 1 + v4 % 40 = 0 then none else
      if v3 * 10 / (1 + v4 % 40) + v3 * 10 / (1 + v4 % 40) / 10 ≥ wrap64 (Int.tdiv (v3 * 10) (1 + v4 % 40)) then
        if wrap64 (10 * (v3 * 10 / (1 + v4 % 40) + v3 * 10 / (1 + v4 % 40) / 10)) ≤ wrap64 (11 * wrap64 (Int.tdiv (v3 * 10) (1 + v4 % 40))) then
          if wrap64 (10 * (v3 * 10 / (1 + v4 % 40) + v3 * 10 / (1 + v4 % 40) / 10)) > wrap64 (wrap64 (11 * wrap64 (Int.tdiv (v3 * 10) (1 + v4 % 40))) - 10) then
            (impl_CardOk.f ((a + n) % 10) (b + (a + n) / 10)).bind fun t => if t = true then (impl_LoavesFor.f 100 10).bind fun t273 => some (t273 == 11) else some false
          else some false
        else some false
      else some false) = some true := by
    rw [if_neg (by omega), Int.tdiv_eq_ediv_of_nonneg (by omega)]
    generalize v3 * 10 / (1 + v4 % 40) = q at d0 d1
    rw [w64 (n := q) (by omega) (by omega), w64 (n := 10 * (q + q / 10)) (by omega) (by omega), w64 (n := 11 * q) (by omega) (by omega), w64 (n := 11 * q - 10) (by omega) (by omega)]
    rw [if_pos (by omega), if_pos (by omega), if_pos (by omega), card_impl]
    simp only [Option.bind_some]
    rw [if_pos (cardOk_iff.2 (by omega)), for_eq (by omega) (by omega) (by omega) (by omega)]
    rfl
  by_cases h : b > 0
  · have e1 : (useFree a b) = (a, b - 1, true) := by
      unfold useFree
      rw [if_pos ⟨cardOk_iff.2 (by omega), by omega⟩]
    rw [e1, if_pos (decide_eq_true h), w64 (n := b - 1) (by omega) (by omega), if_pos rfl, if_pos rfl]
    exact tail
  · rw [if_neg (by simpa using h)]
    exact tail

end Go.Proofs.Ytocbhklcicbcnaa.Pure
