/- FnWeighings: what was forgotten is found by its weight, if the amounts tell it: the law answers true at every draw; no condition. -/
import Derived.Test.YtnffhpgchfbmhaaQx10
import Derived.Test.YtnffhpgchfbmhaaQx30
import Derived.Test.YtnffhpgchfbmhaaQx33
import Derived.Test.YtnffhpgchfbmhaaLemweighM
namespace Go.Proofs.Ytnffhpgchfbmhaa.Pure
open Go.RowKit Go.Proofs.Ytnffhpgchfbmhaa.Q Go.Proofs.YtnffhpgchfbmhaaW.PrintWords Go.Proofs.YtnffhpgchfbmhaaW.PrintLast Go.Proofs.YtnffhpgchfbmhaaW.PrintMore Go.Proofs.Ytnffhpgchfbmhaa.Lem
set_option linter.unusedVariables false
set_option linter.unusedSimpArgs false
/-- Where the law's loop asks of the three parts. -/
theorem which_ok {p q r : Int} (hp : 0 ≤ p) (hq : 0 ≤ q) (hr : 0 ≤ r) : (which p q r p = if p = 0 then 0 else 1) ∧ (which p q r q = if q = 0 then 0 else if q = p then 1 else 2) ∧ (which p q r r = if r = 0 then 0 else if r = p then 1 else if r = q then 2 else 3) := by
  unfold which
  refine ⟨?_, ?_, ?_⟩
  · by_cases h : p = 0
    · rw [if_pos h, if_pos h]
    · rw [if_neg h, if_neg h, if_pos rfl]
  · by_cases h : q = 0
    · rw [if_pos h, if_pos h]
    · rw [if_neg h, if_neg h]
      by_cases h2 : q = p
      · rw [if_pos h2, if_pos h2]
      · rw [if_neg h2, if_neg h2, if_pos rfl]
  · by_cases h : r = 0
    · rw [if_pos h, if_pos h]
    · rw [if_neg h, if_neg h]
      by_cases h2 : r = p
      · rw [if_pos h2, if_pos h2]
      · rw [if_neg h2, if_neg h2]
        by_cases h3 : r = q
        · rw [if_pos h3, if_pos h3]
        · rw [if_neg h3, if_neg h3, if_pos rfl]
theorem part_at {a b c f : Int} (hd : dOk a b c = true) (hf : 0 ≤ f ∧ f ≤ 1000000) (d s : Int) (hs : s = 1 ∨ s = -1) (hr : 0 ≤ weight a b c f + d * s ∧ weight a b c f + d * s ≤ 5000000) : partNo a b c f (weight a b c f + d * s) s = which (Lem.part f a) (Lem.part f b) (Lem.part f c) d := by
  have h3 := (sum_ok a b c f ⟨hd, hf⟩).2.2
  unfold partNo
  rw [if_pos ⟨hd, hf, hr⟩, h3]
  congr 1
  rcases hs with h | h <;> subst h <;> omega
/-- A round of the law's loop passes. -/
theorem round_ok {x y k v : Int} {tell : Bool} (hk : 1 ≤ k) (ht : tell = true → x = k ∧ y = k) (hv : v > 0 → (1 ≤ x ∧ x ≤ k) ∧ 1 ≤ y ∧ y ≤ k) (R : Option Bool) :
    (if tell = true then (if x = k then (if y = k then (if v > 0 then (if x < 1 then (some false) else (if x > k then (some false) else (if y < 1 then (some false) else (if y > k then (some false) else R)))) else R) else (some false)) else (some false)) else (if v > 0 then (if x < 1 then (some false) else (if x > k then (some false) else (if y < 1 then (some false) else (if y > k then (some false) else R)))) else R)) = R := by
  have main : (if v > 0 then (if x < 1 then (some false) else (if x > k then (some false) else (if y < 1 then (some false) else (if y > k then (some false) else R)))) else R) = R := by
    by_cases c : v > 0
    · obtain ⟨⟨a1, a2⟩, b1, b2⟩ := hv c
      rw [if_pos c, if_neg (by omega), if_neg (by omega), if_neg (by omega), if_neg (by omega)]
    · rw [if_neg c]
  by_cases c : tell = true
  · obtain ⟨h1, h2⟩ := ht c
    rw [if_pos c, if_pos h1, if_pos h2, main]
  · rw [if_neg c, main]
theorem FnWeighings : laws_FnWeighings.Pure := by
  intro l ⟨hl, hw⟩
  unfold maxLen at hl
  obtain ⟨K, hK⟩ : ∃ K, K = l.length + 1000200 := ⟨_, rfl⟩
  refine ⟨K + 1 + 1 + 1 + 1 + 1 + 1, ?_⟩
  unfold laws_FnWeighings.f
  have hbig : laws_big.f l = some (decide ((l.length : Int) > 1048576)) := rfl
  rw [hbig]
  simp only [Option.bind_some]
  by_cases hb : (l.length : Int) > 1048576
  · rw [decide_eq_true hb]
    rfl
  rw [decide_eq_false hb]
  simp only [Bool.false_eq_true, if_false]
  obtain ⟨a, b, c, e1, hd, ha8, hb2, hc2⟩ := draw_dough l (by omega) (K + 1 + 1 + 1 + 1 + 1 + 1) (by omega)
  obtain ⟨t, ht, t0, t1⟩ := at_ok l 0 (by omega) (by omega) (by omega) hw
  rw [e1, ht]
  simp only [Option.bind_some]
  rw [w64 (n := t * 4) (by omega) (by omega), w64 (n := 100 + t * 4) (by omega) (by omega)]
  obtain ⟨f, hf⟩ : ∃ f, f = 100 + t * 4 := ⟨_, rfl⟩
  rw [← hf]
  have hfr : 0 ≤ f ∧ f ≤ 1000000 := by omega
  have hf2 : f ≤ 1200 := by omega
  clear hf
  obtain ⟨⟨x1, x2⟩, ⟨y1, y2⟩, z1, z2⟩ := dOk_iff.1 hd
  have bound : ∀ p : Int, 0 ≤ p → p ≤ 1200 → 0 ≤ Lem.part f p ∧ Lem.part f p ≤ 2000 := by
    intro p hp hp2
    have h1 : 0 ≤ f * p := Int.mul_nonneg (by omega) hp
    have h2 : f * p ≤ 1200 * 1200 := Int.mul_le_mul hf2 hp2 hp (by omega)
    unfold Lem.part
    omega
  have pa := bound a (by omega) (by omega)
  have pb := bound b (by omega) (by omega)
  have pc := bound c (by omega) (by omega)
  obtain ⟨w1, w2, w3⟩ := weight_eq hd hfr
  obtain ⟨n, hn⟩ : ∃ n, n = weight a b c f := ⟨_, rfl⟩
  have hnr : 0 ≤ n ∧ n ≤ 10000 := by omega
  have P := fun d s hs hr => part_at hd hfr d s hs hr
  rw [← hn] at P w1
  have hz : which (Lem.part f a) (Lem.part f b) (Lem.part f c) 0 = 0 := by unfold which; rw [if_pos rfl]
  have P0m := P 0 (-1) (.inr rfl) (by omega)
  have P0p := P 0 1 (.inl rfl) (by omega)
  have m0 : n + 0 * (-1) = n := by omega
  have m1 : n + 0 * 1 = n := by omega
  rw [m0, hz] at P0m
  rw [m1, hz] at P0p
  rw [amounts_spec a b c f _ (by omega), weight_spec a b c f _ (by omega), ← hn]
  simp only [Option.bind_some]
  rw [can_impl a b c f _ (by omega), missing_impl a b c f n _ (by omega), twice_impl a b c f n _ (by omega), P0m, P0p, w2]
  simp only [Option.bind_some]
  have hlen : (([f, Lem.part f a, Lem.part f b, Lem.part f c] : List Int).length : Int) = 4 := rfl
  have r1 : rd [f, Lem.part f a, Lem.part f b, Lem.part f c] 1 = Lem.part f a := rfl
  have r2 : rd [f, Lem.part f a, Lem.part f b, Lem.part f c] 2 = Lem.part f b := rfl
  have r3 : rd [f, Lem.part f a, Lem.part f b, Lem.part f c] 3 = Lem.part f c := rfl
  rw [hlen, r1, r2, r3, if_pos rfl, if_pos trivial, if_pos trivial, if_pos (show (1 : Int) < 4 by omega), if_pos (show (2 : Int) < 4 by omega), if_pos (show (3 : Int) < 4 by omega)]
  have hct : canTell a b c f = decide ((Lem.part f a ≠ 0 ∧ Lem.part f b ≠ 0 ∧ Lem.part f c ≠ 0) ∧ Lem.part f a ≠ Lem.part f b ∧ Lem.part f a ≠ Lem.part f c ∧ Lem.part f b ≠ Lem.part f c) := by
    unfold canTell
    rw [decide_eq_decide]
    exact ⟨fun h => h.2, fun h => ⟨⟨hd, hfr⟩, h⟩⟩
  have tail : laws_FnWeighings.j0 (K + 1 + 1 + 1 + 1 + 1 + 1) f [f, Lem.part f a, Lem.part f b, Lem.part f c] n (canTell a b c f) false a b c = some true := by
    rw [laws_FnWeighings.j0, if_neg (by simp)]
    obtain ⟨q1, q2, q3⟩ := which_ok pa.1 pb.1 pc.1
    have X1 := P (Lem.part f a) (-1) (.inr rfl) (by omega)
    have Y1 := P (Lem.part f a) 1 (.inl rfl) (by omega)
    have X2 := P (Lem.part f b) (-1) (.inr rfl) (by omega)
    have Y2 := P (Lem.part f b) 1 (.inl rfl) (by omega)
    have X3 := P (Lem.part f c) (-1) (.inr rfl) (by omega)
    have Y3 := P (Lem.part f c) 1 (.inl rfl) (by omega)
    have s1 : ∀ v : Int, n + v * (-1) = n - v := fun v => by omega
    have s2 : ∀ v : Int, n + v * 1 = n + v := fun v => by omega
    rw [s1] at X1 X2 X3
    rw [s2] at Y1 Y2 Y3
    rw [laws_FnWeighings.l0, if_pos (by omega), if_pos (by omega), hlen, if_pos (by omega), r1, w64 (n := n - Lem.part f a) (by omega) (by omega), w64 (n := n + Lem.part f a) (by omega) (by omega), missing_impl a b c f _ _ (by omega), twice_impl a b c f _ _ (by omega), X1, Y1]
    simp only [Option.bind_some]
    have ht1 : canTell a b c f = true → which (Lem.part f a) (Lem.part f b) (Lem.part f c) (Lem.part f a) = 1 ∧ which (Lem.part f a) (Lem.part f b) (Lem.part f c) (Lem.part f a) = 1 := by
      intro h
      rw [hct] at h
      have := of_decide_eq_true h
      rw [q1, if_neg this.1.1]
      exact ⟨rfl, rfl⟩
    rw [round_ok (by omega) ht1 (fun hv => by rw [q1, if_neg (by omega)]; omega), w64 (n := 1 + 1) (by omega) (by omega)]
    have k2 : (1 : Int) + 1 = 2 := rfl
    rw [k2, laws_FnWeighings.l0, if_pos (by omega), if_pos (by omega), hlen, if_pos (by omega), r2, w64 (n := n - Lem.part f b) (by omega) (by omega), w64 (n := n + Lem.part f b) (by omega) (by omega), missing_impl a b c f _ _ (by omega), twice_impl a b c f _ _ (by omega), X2, Y2]
    simp only [Option.bind_some]
    have ht2 : canTell a b c f = true → which (Lem.part f a) (Lem.part f b) (Lem.part f c) (Lem.part f b) = 2 ∧ which (Lem.part f a) (Lem.part f b) (Lem.part f c) (Lem.part f b) = 2 := by
      intro h
      rw [hct] at h
      have := of_decide_eq_true h
      rw [q2, if_neg this.1.2.1, if_neg (fun e => this.2.1 e.symm)]
      exact ⟨rfl, rfl⟩
    rw [round_ok (by omega) ht2 (fun hv => by rw [q2, if_neg (by omega)]; split <;> omega), w64 (n := 2 + 1) (by omega) (by omega)]
    have k3 : (2 : Int) + 1 = 3 := rfl
    rw [k3, laws_FnWeighings.l0, if_pos (by omega), if_pos (by omega), hlen, if_pos (by omega), r3, w64 (n := n - Lem.part f c) (by omega) (by omega), w64 (n := n + Lem.part f c) (by omega) (by omega), missing_impl a b c f _ _ (by omega), twice_impl a b c f _ _ (by omega), X3, Y3]
    simp only [Option.bind_some]
    have ht3 : canTell a b c f = true → which (Lem.part f a) (Lem.part f b) (Lem.part f c) (Lem.part f c) = 3 ∧ which (Lem.part f a) (Lem.part f b) (Lem.part f c) (Lem.part f c) = 3 := by
      intro h
      rw [hct] at h
      have := of_decide_eq_true h
      rw [q3, if_neg this.1.2.2, if_neg (fun e => this.2.2.1 e.symm), if_neg (fun e => this.2.2.2 e.symm)]
      exact ⟨rfl, rfl⟩
    rw [round_ok (by omega) ht3 (fun hv => by rw [q3, if_neg (by omega)]; split <;> first | omega | (split <;> omega)), w64 (n := 3 + 1) (by omega) (by omega)]
    have k4 : (3 : Int) + 1 = 4 := rfl
    have hfound := flour_found hd hfr (by omega) (K + 1) (by omega)
    rw [← hn] at hfound
    rw [k4, laws_FnWeighings.l0, if_neg (by omega), hfound]
    simp only [Option.bind_some, if_true, bne_self_eq_false]
    rw [laws_FnWeighings.j2, if_neg (by simp), w64 (n := n + 1) (by omega) (by omega)]
    obtain ⟨r, er, hr⟩ := flour_next hd ⟨hfr.1, by omega⟩ (by omega) K (by omega)
    rw [← hn] at er hr
    have hlast : impl_MissingPart.f K a b c f (n + 100000) = some 4 := by
      rw [missing_impl a b c f _ _ (by omega)]
      have X := P (-100000) (-1) (.inr rfl) (by omega)
      have s3 : n + (-100000) * (-1) = n + 100000 := by omega
      rw [s3] at X
      rw [X]
      unfold which
      rw [if_neg (by omega), if_neg (by omega), if_neg (by omega), if_neg (by omega)]
    rw [er, salt_ok, w64 (n := n + 100000) (by omega) (by omega), hlast]
    simp only [Option.bind_some, if_true]
    by_cases hr2 : r.2 = true
    · rw [if_pos hr2, w64 (n := f + 1) (by omega) (by omega), weight_spec a b c (f + 1) K (by omega)]
      simp only [Option.bind_some]
      rw [if_pos (hr hr2)]
      rfl
    · rw [if_neg hr2]
      rfl
  have hft : canTell a b c f = false → laws_FnWeighings.j0 (K + 1 + 1 + 1 + 1 + 1 + 1) f [f, Lem.part f a, Lem.part f b, Lem.part f c] n (canTell a b c f) (canTell a b c f != false) a b c = some true := by
    intro h
    have : (canTell a b c f != false) = false := by rw [h]; rfl
    rw [this]
    exact tail
  by_cases c1 : Lem.part f a > 0
  · rw [if_pos c1]
    by_cases c2 : Lem.part f b > 0
    · rw [if_pos c2]
      by_cases c3 : Lem.part f c > 0
      · rw [if_pos c3]
        by_cases c4 : Lem.part f a = Lem.part f b
        · rw [if_pos c4]
          exact hft (by rw [hct, decide_eq_false (fun h => h.2.1 c4)])
        · rw [if_neg c4]
          by_cases c5 : Lem.part f a = Lem.part f c
          · rw [if_pos c5]
            exact hft (by rw [hct, decide_eq_false (fun h => h.2.2.1 c5)])
          · rw [if_neg c5]
            have : (canTell a b c f != (Lem.part f b != Lem.part f c)) = false := by
              rw [hct]
              have : (Lem.part f b != Lem.part f c) = decide (Lem.part f b ≠ Lem.part f c) := by
                rw [Bool.eq_iff_iff, bne_iff_ne, decide_eq_true_iff]
              rw [this]
              have : decide ((Lem.part f a ≠ 0 ∧ Lem.part f b ≠ 0 ∧ Lem.part f c ≠ 0) ∧ Lem.part f a ≠ Lem.part f b ∧ Lem.part f a ≠ Lem.part f c ∧ Lem.part f b ≠ Lem.part f c) = decide (Lem.part f b ≠ Lem.part f c) := by
                rw [decide_eq_decide]
                exact ⟨fun h => h.2.2.2, fun h => ⟨⟨by omega, by omega, by omega⟩, c4, c5, h⟩⟩
              rw [this, bne_self_eq_false]
            rw [this]
            exact tail
      · rw [if_neg c3]
        exact hft (by rw [hct, decide_eq_false (fun h => h.1.2.2 (by omega))])
    · rw [if_neg c2]
      exact hft (by rw [hct, decide_eq_false (fun h => h.1.2.1 (by omega))])
  · rw [if_neg c1]
    exact hft (by rw [hct, decide_eq_false (fun h => h.1.1 (by omega))])

end Go.Proofs.Ytnffhpgchfbmhaa.Pure
