/- FnThaws: what is taken out at its hour is good, and one hour is enough just if all can share it: the law answers true at every draw; no condition. -/
import Derived.Test.YtgibgapbbnbekaaQx0
import Derived.Test.YtgibgapbbnbekaaQx11
import Derived.Test.YtgibgapbbnbekaaQx19
import Derived.Test.YtgibgapbbnbekaaLemthawM
namespace Go.Proofs.Ytgibgapbbnbekaa.Pure
open Go.RowKit Go.Proofs.Ytgibgapbbnbekaa.Q Go.Proofs.YtgibgapbbnbekaaW.PrintWords Go.Proofs.YtgibgapbbnbekaaW.PrintLast Go.Proofs.YtgibgapbbnbekaaW.PrintMore Go.Proofs.Ytgibgapbbnbekaa.Lem
set_option linter.unusedVariables false
set_option linter.unusedSimpArgs false
theorem good_iff {a b o n : Int} : isGood a b o n = true ↔ frOk a b = true ∧ (-1000 ≤ o ∧ o ≤ 1000) ∧ (-1000 ≤ n ∧ n ≤ 1000) ∧ o + a ≤ n ∧ n ≤ o + a + b := by simp [isGood]
/-- Whether an hour of the row serves: the law's inner loop. -/
theorem serve_loop (ls : List S25) (w : Int) (g : List Int) (j : Nat) (hj : j < ls.length) (hg : g.length ≤ 1000) (a b : Int) (ok : Bool) : ∀ (d k i : Nat) (gd : Bool), i + d = g.length → laws_FnThaws.l1 (k + 1 + d) ls w g j a b ok gd i = laws_FnThaws.l1 (k + 1) ls w g j a b ok (gd || (g.drop i).any fun t => isGood (ls.getD j z25).f0 (ls.getD j z25).f1 t w) g.length := by
  intro d
  induction d with
  | zero =>
    intro k i gd hd
    have : i = g.length := by omega
    subst this
    simp
  | succ d ih =>
    intro k i gd hd
    have e : k + 1 + (d + 1) = (k + 1 + d) + 1 := by omega
    have hi : i < g.length := by omega
    rw [e]
    conv => lhs; rw [laws_FnThaws.l1]
    rw [if_pos (by omega), List.drop_eq_getElem_cons hi, List.any_cons, w64 (n := (i : Int) + 1) (by omega) (by omega)]
    have e1 : (i : Int) + 1 = ((i + 1 : Nat) : Int) := by omega
    rw [e1]
    by_cases c : gd = true
    · subst c
      rw [if_pos rfl, ih k (i + 1) true (by omega)]
      simp
    · rw [if_neg c, if_pos (by omega), if_pos (by omega), if_pos (by omega), rdIFrozen, isGood_impl, rd_nat]
      simp only [Option.bind_some]
      rw [ih k (i + 1) _ (by omega)]
      have e2 : g.getD i 0 = g[i] := by simp [List.getD_eq_getElem?_getD, hi]
      rw [e2]
      simp [c]
theorem piece_loop (ls : List S25) (w : Int) (hw : 0 ≤ w ∧ w ≤ 255) (g : List Int) (hl : ls.length ≤ 20) (hg : g.length ≤ 1000) (hok : ∀ f ∈ ls, frOk f.f0 f.f1 = true) (hs : ∀ f ∈ ls, ∃ t ∈ g, w - f.f0 - f.f1 ≤ t ∧ t ≤ w - f.f0) : ∀ (d k j : Nat), j + d = ls.length → laws_FnThaws.l0 (k + 1 + d * (g.length + 2)) ls w g j = laws_FnThaws.l2 k ls w g 1 := by
  intro d
  induction d with
  | zero =>
    intro k j hd
    have e : k + 1 + 0 * (g.length + 2) = k + 1 := by omega
    rw [e, laws_FnThaws.l0, if_neg (by omega)]
  | succ d ih =>
    intro k j hd
    have hmul : (d + 1) * (g.length + 2) = d * (g.length + 2) + (g.length + 2) := Nat.succ_mul _ _
    have e : k + 1 + (d + 1) * (g.length + 2) = ((k + d * (g.length + 2) + 1) + 1 + g.length) + 1 := by omega
    have hj : j < ls.length := by omega
    have hM := hok (ls.getD j z25) (by simp [List.getD_eq_getElem?_getD, hj])
    have hf := frOk_iff.1 hM
    obtain ⟨t, ht, t1, t2⟩ := hs (ls.getD j z25) (by simp [List.getD_eq_getElem?_getD, hj])
    have hany : (g.any fun t => isGood (ls.getD j z25).f0 (ls.getD j z25).f1 t w) = true := by
      rw [List.any_eq_true]
      exact ⟨t, ht, good_iff.2 ⟨hM, by omega, by omega, by omega, by omega⟩⟩
    rw [e, laws_FnThaws.l0, if_pos (by omega), if_pos (by omega), rdIFrozen, outAt_impl, outAt_ok hM (by omega)]
    simp only [Option.bind_some]
    have h1 := serve_loop ls w g j hj hg (w - (ls.getD j z25).f0 - (ls.getD j z25).f1) (w - (ls.getD j z25).f0) true g.length (k + d * (g.length + 2) + 1) 0 false (by omega)
    have e0 : ((0 : Nat) : Int) = 0 := rfl
    rw [e0] at h1
    rw [h1]
    simp only [List.drop_zero, hany, Bool.or_true]
    rw [laws_FnThaws.l1, if_neg (by omega), if_pos rfl, if_pos (by omega), if_pos (by omega), rdIFrozen, w64 (n := w - (ls.getD j z25).f0 - (w - (ls.getD j z25).f0 - (ls.getD j z25).f1)) (by omega) (by omega), if_pos (by omega), w64 (n := w - (ls.getD j z25).f0) (by omega) (by omega), if_pos rfl, if_pos rfl]
    have g1 : isGood (ls.getD j z25).f0 (ls.getD j z25).f1 (w - (ls.getD j z25).f0 - (ls.getD j z25).f1) w = true := good_iff.2 ⟨hM, by omega, by omega, by omega, by omega⟩
    have g2 : isGood (ls.getD j z25).f0 (ls.getD j z25).f1 (w - (ls.getD j z25).f0) w = true := good_iff.2 ⟨hM, by omega, by omega, by omega, by omega⟩
    have g3 : isGood (ls.getD j z25).f0 (ls.getD j z25).f1 (w - (ls.getD j z25).f0 - (ls.getD j z25).f1 - 1) w = false := Bool.eq_false_iff.2 fun h => by have := (good_iff.1 h).2; omega
    have g4 : isGood (ls.getD j z25).f0 (ls.getD j z25).f1 (w - (ls.getD j z25).f0 + 1) w = false := Bool.eq_false_iff.2 fun h => by have := (good_iff.1 h).2; omega
    rw [w64 (n := w - (ls.getD j z25).f0 - (ls.getD j z25).f1 - 1) (by omega) (by omega), w64 (n := w - (ls.getD j z25).f0 + 1) (by omega) (by omega)]
    rw [isGood_impl, g1, Option.bind_some, if_pos rfl, isGood_impl, g2, Option.bind_some, if_pos rfl, isGood_impl, g3, Option.bind_some, if_neg (by simp), isGood_impl, g4, Option.bind_some, if_neg (by simp)]
    rw [w64 (n := (j : Int) + 1) (by omega) (by omega)]
    have e1 : (j : Int) + 1 = ((j + 1 : Nat) : Int) := by omega
    have e2 : k + d * (g.length + 2) + 1 = k + 1 + d * (g.length + 2) := by omega
    rw [e1, e2]
    exact ih k (j + 1) (by omega)
theorem last_loop (ls : List S25) (w h : Int) (one : Bool) (hl : ls.length ≤ 20) (hone : one = true → ∀ f ∈ ls, isGood f.f0 f.f1 h w = true) : ∀ (d k j : Nat), j + d = ls.length → laws_FnThaws.l3 (k + 1 + 1 + 2 * d) ls w h one j = some true := by
  have c1 : isGood 3 1 5 9 = true := by decide
  have c2 : isGood 3 1 5 10 = false := by decide
  intro d
  induction d with
  | zero =>
    intro k j hd
    rw [laws_FnThaws.l3, if_neg (by omega), laws_FnThaws.j6]
    simp [isGood_impl, c1, c2]
  | succ d ih =>
    intro k j hd
    have e : k + 1 + 1 + 2 * (d + 1) = (k + 1 + 1 + 2 * d) + 1 + 1 := by omega
    have hj : j < ls.length := by omega
    rw [e, laws_FnThaws.l3, if_pos (by omega), laws_FnThaws.j6]
    by_cases c : one = true
    · have hg := hone c (ls.getD j z25) (by simp [List.getD_eq_getElem?_getD, hj])
      rw [if_pos c, if_pos (by omega), if_pos (by omega), rdIFrozen, isGood_impl, hg]
      simp only [Option.bind_some, if_true]
      rw [w64 (n := (j : Int) + 1) (by omega) (by omega)]
      have e1 : (j : Int) + 1 = ((j + 1 : Nat) : Int) := by omega
      rw [e1]
      exact ih k (j + 1) (by omega)
    · rw [if_neg c]
      simp [isGood_impl, c1, c2]
theorem asc_loop (ls : List S25) (w : Int) (g : List Int) (hg : g.length ≤ 1000) (ha : ∀ i, 1 ≤ i → i < g.length → g.getD (i - 1) 0 < g.getD i 0) : ∀ (d k i : Nat), 1 ≤ i → i + d = max g.length 1 → ∃ m : Nat, ¬ m < g.length ∧ laws_FnThaws.l2 (k + 1 + d) ls w g i = laws_FnThaws.l2 (k + 1) ls w g m := by
  intro d
  induction d with
  | zero => intro k i h1 hd; exact ⟨i, by omega, rfl⟩
  | succ d ih =>
    intro k i h1 hd
    have hi : i < g.length := by omega
    obtain ⟨m, hm, e⟩ := ih k (i + 1) (by omega) (by omega)
    refine ⟨m, hm, ?_⟩
    rw [← e]
    show laws_FnThaws.l2 ((k + 1 + d) + 1) _ _ _ _ = _
    have hlt := ha i h1 hi
    have e2 : wrap64 ((i : Int) - 1) = ((i - 1 : Nat) : Int) := by rw [w64 (by omega) (by omega)]; omega
    conv => lhs; rw [laws_FnThaws.l2]
    rw [if_pos (by omega), if_pos (by omega), e2, if_pos (by omega), if_pos (by omega), rd_nat, rd_nat, if_neg (by omega), w64 (n := (i : Int) + 1) (by omega) (by omega)]
    rfl
theorem FnThaws : laws_FnThaws.Pure := by
  intro l ⟨hl, hw⟩
  unfold maxLen at hl
  unfold laws_FnThaws.f
  rw [big_eq]
  simp only [Option.bind_some]
  by_cases hb : (l.length : Int) > 1048576
  · exact ⟨0, by rw [decide_eq_true hb]; rfl⟩
  rw [decide_eq_false hb]
  simp only [Bool.false_eq_true, if_false]
  obtain ⟨ls, e1, hls, hok⟩ := draw_frozen l (by omega) (l.length + 20 + 1) (by omega)
  obtain ⟨w, e2, hw0⟩ := at_ok l 0 (by omega) (by omega) (by omega) hw
  have hmm : ls.length * (ls.length + 3) ≤ 6 * 9 := Nat.mul_le_mul hls (by omega)
  obtain ⟨M, p, hs, _⟩ := fewest_impl ls w (by omega) hok (fun _ => by omega) 200 (by omega)
  obtain ⟨K, hK⟩ : ∃ K, K = l.length + 2000 := ⟨_, rfl⟩
  have hlM := p.length_eq
  have hglen := hours_len w M []
  obtain ⟨g, hgd⟩ : ∃ g, g = hoursOf w M := ⟨_, rfl⟩
  have hgl : g.length ≤ ls.length := by
    rw [hgd]
    unfold hoursOf
    simp at hglen
    omega
  have hokM : ∀ f ∈ M, frOk f.f0 f.f1 = true := fun f hf => hok f (p.mem_iff.1 hf)
  have hasc : ∀ i, 1 ≤ i → i < g.length → g.getD (i - 1) 0 < g.getD i 0 := by
    rw [hgd]
    exact hours_asc w M [] hokM (fun i _ h => by simp at h)
  have hcov : ∀ f ∈ ls, ∃ t ∈ g, w - f.f0 - f.f1 ≤ t ∧ t ≤ w - f.f0 := by
    intro f hf
    rw [hgd]
    exact hours_cover w hw0 M [] hokM hs (fun x hx => by
      have hx' := frOk_iff.1 (hokM x hx)
      have : lstI [] = -2000 := rfl
      omega) f (p.mem_iff.2 hf)
  obtain ⟨o1, o2⟩ := one_hours w hw0 ls M (by omega) hok p hs
  rw [← hgd] at o1 o2
  obtain ⟨k, hk⟩ : ∃ k, K + 200 = k + 1 + 1 + 2 * ls.length + 1 + 1 := ⟨K + 196 - 2 * ls.length, by omega⟩
  obtain ⟨F, hF⟩ : ∃ F, F = (k + 1 + 1 + 2 * ls.length + 1 + 1 + (max g.length 1 - 1)) + 1 + ls.length * (g.length + 2) + 1 := ⟨_, rfl⟩
  refine ⟨F, ?_⟩
  have em : ∀ a b, a ≤ b → spec_DrawFrozen.f a l = some ls → spec_DrawFrozen.f b l = some ls := by
    intro a b hab h
    induction b with
    | zero =>
      have : a = 0 := by omega
      subst this
      exact h
    | succ b ih =>
      by_cases e : a = b + 1
      · subst e; exact h
      · exact spec_DrawFrozen.mono l b ls (ih (by omega))
  rw [em (l.length + 20 + 1) F (by omega) e1, e2]
  simp only [Option.bind_some]
  obtain ⟨M', p', hs', e3⟩ := fewest_impl ls w (by omega) hok (fun _ => by omega) F (by omega)
  have hgg : hoursOf w M' = g := by
    obtain ⟨M2, p2, hs2, e4⟩ := fewest_impl ls w (by omega) hok (fun _ => by omega) 200 (by omega)
    have s1 := fewest_spec ls w (by omega) hok (by omega) M' [] [] (2000) (by simpa using p') hs' (fun d hd => by simp at hd) (by have := p'.length_eq; simp; omega) (by
      have := p'.length_eq
      have : (M'.length + 1) * (ls.length + 3) ≤ 7 * 9 := Nat.mul_le_mul (by omega) (by omega)
      omega)
    have s2 := fewest_spec ls w (by omega) hok (by omega) M [] [] (2000) (by simpa using p) hs (fun d hd => by simp at hd) (by simp; omega) (by
      have : (M.length + 1) * (ls.length + 3) ≤ 7 * 9 := Nat.mul_le_mul (by omega) (by omega)
      omega)
    rw [s1] at s2
    rw [hgd]
    exact Option.some.inj s2
  rw [e3, hgg]
  simp only [Option.bind_some]
  have hz : ((g.length : Int) == 0) = ((ls.length : Int) == 0) := by
    by_cases c : ls.length = 0
    · have : g.length = 0 := by omega
      rw [c, this]
    · have hpos : 0 < ls.length := by omega
      obtain ⟨t, ht, _⟩ := hcov (ls[0]) (List.getElem_mem hpos)
      have : 0 < g.length := List.length_pos_of_mem ht
      have a1 : ((g.length : Int) == 0) = false := beq_eq_false_iff_ne.2 (by omega)
      have a2 : ((ls.length : Int) == 0) = false := beq_eq_false_iff_ne.2 (by omega)
      rw [a1, a2]
  rw [hz]
  simp only [bne_self_eq_false, Bool.false_eq_true, if_false]
  rw [hF, laws_FnThaws.j0, decide_eq_false (by omega), if_neg (by simp)]
  have P := piece_loop ls w hw0 g (by omega) (by omega) hok hcov ls.length (k + 1 + 1 + 2 * ls.length + 1 + 1 + (max g.length 1 - 1)) 0 (by omega)
  have e0 : ((0 : Nat) : Int) = 0 := rfl
  rw [e0] at P
  rw [P]
  obtain ⟨m, hm, A⟩ := asc_loop ls w g (by omega) hasc (max g.length 1 - 1) (k + 1 + 1 + 2 * ls.length + 1) 1 (by omega) (by omega)
  have e1' : ((1 : Nat) : Int) = 1 := rfl
  rw [e1'] at A
  rw [A, laws_FnThaws.l2, if_neg (by omega), one_impl ls w _ (by omega) (by omega)]
  simp only [Option.bind_some]
  have hg1 : ((g.length : Int) == 1) = (oneTime ls w).2 := by
    rw [o1]
    by_cases c : g.length = 1
    · rw [c]; rfl
    · rw [decide_eq_false c]
      simp
      omega
  rw [hg1]
  simp only [bne_self_eq_false, Bool.false_eq_true, if_false]
  have hgood : (oneTime ls w).2 = true → ∀ f ∈ ls, isGood f.f0 f.f1 (oneTime ls w).1 w = true := by
    intro h1 f hf
    have := (o2 h1).2 f hf
    have hf' := frOk_iff.1 (hok f hf)
    exact good_iff.2 ⟨hok f hf, by omega, by omega, by omega, by omega⟩
  have L := last_loop ls w (oneTime ls w).1 (oneTime ls w).2 (by omega) hgood ls.length k 0 (by omega)
  rw [e0] at L
  by_cases c : (oneTime ls w).2 = true
  · have hlen : g.length = 1 := by
      rw [o1] at c
      exact of_decide_eq_true c
    rw [if_pos c, if_pos (by omega)]
    have e5 : rd g 0 = g.getD 0 0 := rd_nat g 0
    rw [e5, ← (o2 c).1]
    simp only [bne_self_eq_false]
    rw [laws_FnThaws.j4, if_neg (by simp)]
    exact L
  · rw [if_neg c, laws_FnThaws.j4, if_neg (by simp)]
    exact L

end Go.Proofs.Ytgibgapbbnbekaa.Pure
