/- FnPowers: energy is the sum over the day, and no start has a lesser peak than the best one: the law answers true at every draw; no condition. -/
import Derived.Test.YthnflldlljpmpaaQx0
import Derived.Test.YthnflldlljpmpaaQx24
import Derived.Test.YthnflldlljpmpaaLempowM
namespace Go.Proofs.Ythnflldlljpmpaa.Pure
open Go.RowKit Go.Proofs.Ythnflldlljpmpaa.Q Go.Proofs.YthnflldlljpmpaaW.PrintWords Go.Proofs.YthnflldlljpmpaaW.PrintLast Go.Proofs.YthnflldlljpmpaaW.PrintMore Go.Proofs.Ythnflldlljpmpaa.Lem
set_option linter.unusedVariables false
set_option linter.unusedSimpArgs false
theorem mem_ok {l : List S40} (h : ∀ m ∈ l, mOk m = true ∧ m.f0 ≤ 1000) (n : Nat) (hn : n ≤ 12) (hl : l.length ≤ n) : machOk l = true := machOk_iff.2 ⟨by omega, fun m hm => (h m hm).1⟩
theorem snoc_ok {l : List S40} (h : ∀ m ∈ l, mOk m = true) (hl : l.length ≤ 5) {m : S40} (hm : mOk m = true) : machOk (l ++ [m]) = true := by
  refine machOk_iff.2 ⟨by simp; omega, fun x hx => ?_⟩
  rcases List.mem_append.1 hx with hx | hx
  · exact h x hx
  · rw [List.mem_singleton] at hx
    rw [hx]
    exact hm
theorem part_ok (l : List S40) (h : ∀ m ∈ l, mOk m = true) : 0 ≤ energy l ∧ energy l ≤ 14400000 * l.length := by
  unfold energy
  have : ∀ (l : List S40) (c : Int), (∀ m ∈ l, mOk m = true) → c ≤ l.foldl (fun acc m => acc + m.f2 * (m.f1 - m.f0)) c ∧ l.foldl (fun acc m => acc + m.f2 * (m.f1 - m.f0)) c ≤ c + 14400000 * l.length := by
    intro l
    induction l with
    | nil => intro c _; exact ⟨Int.le_refl _, by simp⟩
    | cons m l ih =>
      intro c h
      obtain ⟨⟨a1, a2⟩, ⟨b1, b2⟩, c1, c2⟩ := mOk_iff.1 (h m List.mem_cons_self)
      have e := mul_dur (a := m.f2) (b := m.f1 - m.f0) (by omega) (by omega) (by omega) (by omega)
      have := ih (c + m.f2 * (m.f1 - m.f0)) (fun x hx => h x (List.mem_cons_of_mem _ hx))
      rw [List.foldl_cons, List.length_cons]
      omega
  have := this l 0 h
  omega
theorem sum_loop (l0 : List Int) (l y : List S40) (h : ∀ m ∈ l, mOk m = true) (hl : l.length ≤ 5) (a b c p q : Int) :
    ∀ (d k i : Nat), i + d = l.length → ∃ s : Int, s = energy l ∧ laws_FnPowers.l0 (k + d + 1) l0 l a b c y p q (energy (l.take i)) i = laws_FnPowers.l0 (k + 1) l0 l a b c y p q s l.length := by
  intro d
  induction d with
  | zero =>
    intro k i hi
    have : i = l.length := by omega
    subst this
    exact ⟨energy l, rfl, by rw [List.take_length]⟩
  | succ d ih =>
    intro k i hi
    obtain ⟨s, es, ih⟩ := ih k (i + 1) (by omega)
    refine ⟨s, es, ?_⟩
    rw [← ih]
    show laws_FnPowers.l0 ((k + d + 1) + 1) _ _ _ _ _ _ _ _ _ _ = _
    conv => lhs; unfold laws_FnPowers.l0
    have hi2 : i < l.length := by omega
    have er : rd_T40 l (i : Int) = l[i] := by simp [rd_T40, List.getD_eq_getElem?_getD, hi2]
    have hm := h _ (List.getElem_mem hi2)
    obtain ⟨⟨a1, a2⟩, ⟨b1, b2⟩, c1, c2⟩ := mOk_iff.1 hm
    have e := mul_dur (a := l[i].f2) (b := l[i].f1 - l[i].f0) (by omega) (by omega) (by omega) (by omega)
    have hp := part_ok (l.take i) (fun m hm => h m (List.mem_of_mem_take hm))
    have hlen : (l.take i).length = i := by simp; omega
    have et : energy (l.take (i + 1)) = energy (l.take i) + l[i].f2 * (l[i].f1 - l[i].f0) := by
      rw [List.take_succ_eq_append_getElem hi2, energy_snoc]
    rw [if_pos (by omega), if_pos (by omega), er, w64 (n := l[i].f1 - l[i].f0) (by omega) (by omega), w64 (n := l[i].f2 * (l[i].f1 - l[i].f0)) (by omega) (by omega), w64 (n := energy (l.take i) + _) (by omega) (by omega), w64 (n := (i : Int) + 1) (by omega) (by omega), ← et]
    rfl
theorem FnPowers : laws_FnPowers.Pure := by
  intro l ⟨hl, hw⟩
  unfold maxLen at hl
  obtain ⟨k, hk⟩ : ∃ k, l.length + 40000 < k := ⟨_, Nat.lt_succ_self _⟩
  refine ⟨k + 10, ?_⟩
  unfold laws_FnPowers.f
  rw [big_eq]
  simp only [Option.bind_some]
  by_cases hb : decide ((l.length : Int) > 1048576) = true
  · rw [if_pos hb]
  rw [if_neg hb]
  obtain ⟨ms, e, hms, hmo⟩ := machines_ok l (k + 10) (by omega) hl
  rw [e]
  simp only [Option.bind_some]
  have ho : ∀ m ∈ ms, mOk m = true := fun m hm => (hmo m hm).1
  have hM : machOk ms = true := machOk_iff.2 ⟨by omega, ho⟩
  obtain ⟨v0, ev0, v00, v01⟩ := at_ok l 0 (by omega) (by omega) hl hw
  obtain ⟨v1, ev1, v10, v11⟩ := at_ok l 1 (by omega) (by omega) hl hw
  obtain ⟨v2, ev2, v20, v21⟩ := at_ok l 2 (by omega) (by omega) hl hw
  obtain ⟨v3, ev3, v30, v31⟩ := at_ok l 3 (by omega) (by omega) hl hw
  have t0 : 0 ≤ Int.tmod v1 20 := Int.tmod_nonneg _ v10
  have t1 : Int.tmod v1 20 < 20 := Int.tmod_lt_of_pos _ (by omega)
  obtain ⟨w, hw1⟩ : ∃ w, wrap64 (100 * wrap64 (1 + Int.tmod v1 20)) = w := ⟨_, rfl⟩
  have hw2 : w = 100 * (1 + Int.tmod v1 20) := by rw [← hw1, w64 (n := 1 + Int.tmod v1 20) (by omega) (by omega), w64 (by omega) (by omega)]
  have hM1 : wrap64 (1 + v0) = ((1 + v0).toNat : Int) := by rw [w64 (by omega) (by omega)]; omega
  obtain ⟨M, hMM⟩ : ∃ M, (1 + v0).toNat = M := ⟨_, rfl⟩
  rw [hMM] at hM1
  have M1 : 1 ≤ M := by omega
  have M2 : M ≤ 256 := by omega
  obtain ⟨b1, b2, b3⟩ := bsRun_ok (pws ms) w M M1 (by omega)
  have hbest : bestStart ms (M : Int) w = bsRun (pws ms) w M := by
    unfold bestStart
    rw [if_pos ⟨hM, by omega, by omega, by omega, by omega⟩, Int.toNat_natCast]
  obtain ⟨f1, f2, f3⟩ := firstMax_spec (pws_ne ms) (pws_nonneg hM)
  have hpk : peak ms = ((firstMax (pws ms) : Int), maxR (pws ms)) := if_pos hM
  have hlen := pws_len ms
  have hpa : powerAt ms (firstMax (pws ms) : Int) = maxR (pws ms) := by
    unfold powerAt
    rw [if_pos ⟨hM, by omega, by omega⟩, Int.toNat_natCast, ← pws_get ms _ f1]
    exact f2
  rw [peak_impl ms (k + 10) (by omega), ev0, ev1]
  simp only [Option.bind_some, hw1, hM1, best_impl ms (M : Int) w (k + 10) (by omega), hbest, hpk, powerAt_impl ms _ (k + 10) (show 20000 < k + 10 by omega), hpa]
  obtain ⟨S, hS⟩ : ∃ S, (bsRun (pws ms) w M).toNat = S := ⟨_, rfl⟩
  have hS2 : bsRun (pws ms) w M = (S : Int) := by omega
  have hS3 : S + M ≤ 1440 := by omega
  rw [hS] at b3
  rw [hS2] at b2 ⊢
  rw [if_neg (by omega), if_neg (by omega), if_pos trivial, if_neg (by omega), w64 (n := (S : Int) + M) (by omega) (by omega), decide_eq_false (by omega)]
  show laws_FnPowers.j0 ((k + 9) + 1) _ _ _ _ _ _ _ = _
  obtain ⟨n9, h9⟩ : ∃ n9, k + 9 = n9 := ⟨_, rfl⟩
  rw [h9]
  rw [laws_FnPowers.j0]
  rw [if_neg (by simp)]
  simp only [Option.bind_some, List.nil_append, List.length_nil, Nat.zero_add]
  have s4 : wrap64 (v2 * 4) = ((v2 * 4).toNat : Int) := by rw [w64 (by omega) (by omega)]; omega
  obtain ⟨s, hs⟩ : ∃ s, (v2 * 4).toNat = s := ⟨_, rfl⟩
  have hs2 : s ≤ 1020 := by omega
  rw [if_pos (by omega), if_pos (by omega), ev2]
  simp only [Option.bind_some]
  rw [if_pos (by omega), s4, hs, w64 (n := (S : Int) + M) (by omega) (by omega), w64 (n := (s : Int) + M) (by omega) (by omega)]
  have o1 : machOk (ms ++ [⟨(S : Int), (S : Int) + M, w⟩]) = true := snoc_ok ho hms (mOk_iff.2 ⟨⟨by simp only; omega, by simp only; omega⟩, ⟨by simp only; omega, by simp only; omega⟩, by simp only; omega, by simp only; omega⟩)
  have o2 : machOk (ms ++ [⟨(s : Int), (s : Int) + M, w⟩]) = true := snoc_ok ho hms (mOk_iff.2 ⟨⟨by simp only; omega, by simp only; omega⟩, ⟨by simp only; omega, by simp only; omega⟩, by simp only; omega, by simp only; omega⟩)
  have p1 := peak_snoc hM M S M1 hS3 w (by omega) (S : Int) ((S : Int) + M) rfl rfl
  have p2 := peak_snoc hM M s M1 (by omega) w (by omega) (s : Int) ((s : Int) + M) rfl rfl
  rw [peak_impl _ n9 (by omega)]
  simp only [Option.bind_some]
  rw [peak_impl _ n9 (by omega)]
  simp only [Option.bind_some]
  have q1 : (peak (ms ++ [⟨(S : Int), (S : Int) + M, w⟩])).2 = bsV (pws ms) (maxR (pws ms)) w M S := by
    unfold peak
    rw [if_pos o1]
    dsimp only
    rw [p1]
  have q2 : (peak (ms ++ [⟨(s : Int), (s : Int) + M, w⟩])).2 = bsV (pws ms) (maxR (pws ms)) w M s := by
    unfold peak
    rw [if_pos o2]
    dsimp only
    rw [p2]
  rw [q1, q2]
  have b4 := b3 s (by omega)
  have hwin := win_ok (pws_ok hM) M S
  have hV : bsV (pws ms) (maxR (pws ms)) w M S = max (maxR (pws ms)) (win (pws ms) M S + w) := rfl
  have hmx0 := maxR_nonneg (pws ms)
  have hmx1 : maxR (pws ms) ≤ 120000 := maxR_le (by omega) (fun x hx => (pws_ok hM x hx).2)
  generalize bsV (pws ms) (maxR (pws ms)) w M S = V1 at b4 hV
  generalize bsV (pws ms) (maxR (pws ms)) w M s = V2 at b4
  obtain ⟨sm, esm, hloop⟩ := sum_loop l ms (ms ++ [⟨(S : Int), (S : Int) + M, w⟩]) ho hms (maxR (pws ms)) (M : Int) w V1 V2 ms.length (k + 8 - ms.length) 0 (by omega)
  have ek : k + 8 - ms.length + ms.length + 1 = k + 9 := by omega
  rw [ek, h9, List.take_zero] at hloop
  have hloop2 : laws_FnPowers.l0 n9 l ms (maxR (pws ms)) (M : Int) w (ms ++ [⟨(S : Int), (S : Int) + M, w⟩]) V1 V2 0 0 = _ := hloop
  rw [hloop2]
  have hf : 30000 < k + 8 - ms.length := by omega
  generalize k + 8 - ms.length = kk at hf
  rw [laws_FnPowers.l0]
  rw [if_neg (c := ((ms.length : Int) < (ms.length : Int))) (by omega), ev3]
  simp only [Option.bind_some]
  have hen := part_ok ms ho
  have e1 : energyOf ms = energy ms := if_pos hM
  have e2 : energyOf (ms ++ [⟨(S : Int), (S : Int) + M, w⟩]) = energy ms + w * M := by
    unfold energyOf
    rw [if_pos o1, energy_snoc]
    show energy ms + w * ((S : Int) + M - S) = _
    rw [show (S : Int) + M - S = M by omega]
  have hmul := mul_dur (a := w) (b := (M : Int)) (by omega) (by omega) (by omega) (by omega)
  have e3 : wrap64 ((M : Int) * w) = w * M := by rw [Int.mul_comm, w64 (by omega) (by omega)]
  rw [if_pos b4, if_pos (by omega), if_pos (by omega), energy_impl ms kk (by omega)]
  simp only [Option.bind_some]
  rw [e1, esm, if_pos rfl, energy_impl _ kk (by omega)]
  simp only [Option.bind_some]
  rw [e2, e3, w64 (n := energy ms + _) (by omega) (by omega), if_pos rfl, w64 (n := v3 * 5) (by omega) (by omega), powerAt_impl ms _ kk (by omega)]
  simp only [Option.bind_some]
  have hpa3 : powerAt ms (v3 * 5) ≤ maxR (pws ms) := by
    unfold powerAt
    rw [if_pos ⟨hM, by omega, by omega⟩]
    exact maxR_ge (pw_mem ms (by omega))
  rw [if_pos hpa3, over_impl ms _ kk (by omega)]
  simp only [Option.bind_some]
  have ov1 : overTimes ms (maxR (pws ms)) = 0 := by
    unfold overTimes
    rw [if_pos ⟨hM, by omega, by omega⟩]
    exact overs_zero (pws ms) hlen
  rw [ov1, if_pos rfl]
  by_cases hz : maxR (pws ms) = 0
  · rw [if_pos hz, mach_impl, hM, if_pos (c := V1 ≥ w) (by omega)]
    rfl
  · rw [if_neg hz, w64 (n := maxR (pws ms) - 1) (by omega) (by omega), over_impl ms _ kk (by omega)]
    simp only [Option.bind_some]
    have ov2 : overTimes ms (maxR (pws ms) - 1) > 0 := by
      unfold overTimes
      rw [if_pos ⟨hM, by omega, by omega⟩]
      exact overs_pos (pws ms) hlen (pws_nonneg hM)
    rw [if_pos ov2, mach_impl, hM, if_pos (c := V1 ≥ w) (by omega)]
    rfl

end Go.Proofs.Ythnflldlljpmpaa.Pure
