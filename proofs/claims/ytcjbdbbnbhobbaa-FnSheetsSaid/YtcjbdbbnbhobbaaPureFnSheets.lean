/- FnSheets: no way to cut uses fewer strips than there must be: the law answers true at every draw; no condition. -/
import Derived.Test.YtcjbdbbnbhobbaaQx8
import Derived.Test.YtcjbdbbnbhobbaaQx17
import Derived.Test.YtcjbdbbnbhobbaaQx21
import Derived.Test.YtcjbdbbnbhobbaaLemshM
namespace Go.Proofs.Ytcjbdbbnbhobbaa.Pure
open Go.RowKit Go.Proofs.Ytcjbdbbnbhobbaa.Q Go.Proofs.YtcjbdbbnbhobbaaW.PrintWords Go.Proofs.YtcjbdbbnbhobbaaW.PrintLast Go.Proofs.YtcjbdbbnbhobbaaW.PrintMore Go.Proofs.Ytcjbdbbnbhobbaa.Lem
set_option linter.unusedVariables false
set_option linter.unusedSimpArgs false
theorem turn_snoc (n c i : Nat) : ((List.range i).map fun j => (((j + c) % n : Nat) : Int)) ++ [(((i + c) % n : Nat) : Int)] = (List.range (i + 1)).map fun j => (((j + c) % n : Nat) : Int) := by
  rw [List.range_succ, List.map_append]; rfl
theorem sum_take (l : List Int) (i : Nat) (hi : i < l.length) : (l.take i).sum + l.getD i 0 = (l.take (i + 1)).sum := by
  rw [← List.take_append_getElem hi, List.sum_append]
  simp [List.getD_eq_getElem?_getD, hi]
theorem FnSheets : laws_FnSheets.Pure := by
  intro c ⟨hl, hw⟩
  by_cases hb : (c.length : Int) > 1048576
  · refine ⟨0, ?_⟩
    unfold laws_FnSheets.f
    rw [big_eq, decide_eq_true hb]; rfl
  obtain ⟨ls, s, hd0, hs, hlen, hok⟩ := draw_sheet c (by omega) (c.length + 21) (by omega)
  have hL : lensOk ls s = true := lensOk_iff.2 ⟨⟨by omega, by omega⟩, hok⟩
  have hM : lensOk (ls ++ [s]) s = true := lensOk_iff.2 ⟨⟨by omega, by simp; omega⟩, fun x hx => by
    rcases List.mem_append.1 hx with hx | hx
    · exact hok x hx
    · have := List.mem_singleton.1 hx; omega⟩
  obtain ⟨v, K1, ho, e1⟩ := few_impl hL
  obtain ⟨v', K2, ho', e2⟩ := few_impl hM
  obtain ⟨K3, e3⟩ := few4
  obtain ⟨t, ht, ht0, ht1⟩ := at_ok c 0 (by omega) (by omega) (by omega) hw
  obtain ⟨tn, rfl⟩ : ∃ n : Nat, t = (n : Int) := ⟨t.toNat, by omega⟩
  have hone := more_one hL ho ho'
  have hleast := least_le hL ho
  have hholds := opt_holds hL ho
  have hbd := opt_bound (fits_ok hL).2.2 (fits_ok hL).2.1.1 ho
  have hsm := sum_small hL
  have hpos : (v.1 = 0) ↔ ls.length = 0 := by
    constructor
    · intro h
      rcases Nat.eq_zero_or_pos ls.length with h0 | h0
      · exact h0
      · have h2 : 2 ≤ 2 ^ ls.length := by have := Nat.pow_le_pow_right (n := 2) (by omega) h0; omega
        have := opt_pos (fits_ok hL).2.2 (fits_ok hL).2.1.1 ho (by omega) (by omega)
        omega
    · intro h; have := hbd.1.1; have := hbd.2; omega
  -- the walk over the law's loop
  have loop : ∀ (o : List Int), o.Perm ((List.range ls.length).map fun i : Nat => (i : Int)) → UptoL (lnKey ls) o ls.length →
      ∀ (d k i : Nat), i + d = ls.length → K1 + K2 + K3 + 3000 + d < k → laws_FnSheets.l0 k c ls s o v.1 ((List.range i).map fun j => (((j + tn) % ls.length : Nat) : Int)) (ls.take i).sum (i : Int) = some true := by
    intro o hop hou
    have hol : o.length = ls.length := by rw [hop.length_eq]; simp
    have hor : ∀ i, i < ls.length → 0 ≤ o.getD i 0 ∧ o.getD i 0 < (ls.length : Int) := fun i hi => by
      have hm : o.getD i 0 ∈ o := by simp [List.getD_eq_getElem?_getD, show i < o.length by omega]
      obtain ⟨q, hq, e⟩ := List.mem_map.mp (hop.mem_iff.mp hm)
      have := List.mem_range.mp hq
      omega
    intro d
    induction d with
    | zero =>
      intro k i hi hk
      obtain ⟨k, rfl⟩ : ∃ m, k = m + 1 := ⟨k - 1, by omega⟩
      obtain rfl : i = ls.length := by omega
      have hu := used_ok ls s hL (turn ls.length tn) (turn_perm _ _) k (by omega)
      have hff := first_fit hL ho (turn ls.length tn) hu.2.1 hu.2.2.1
      simp only [laws_FnSheets.l0]
      rw [if_neg (by omega)]
      have eu : impl_StripsUsed.f k ls s ((List.range ls.length).map fun j => (((j + tn) % ls.length : Nat) : Int)) = some (((turn ls.length tn).foldl (place ls s) []).length : Int) := hu.1
      have w1 : waste ls s v.1 = v.1 * s - ls.sum := by
        unfold waste; rw [if_pos ⟨hL, hbd.1.1, by omega⟩]; omega
      have w2 : waste (ls ++ [s]) s 0 = -1 := by
        have h2 := sum_small hL
        unfold waste; rw [if_pos ⟨hM, by omega, by omega⟩, List.sum_append, List.sum_singleton]; omega
      have hvs := mul12 (s := s) (n := v.1) (by omega) ⟨hbd.1.1, by omega⟩
      rw [eu]
      simp only [Option.bind_some]
      rw [if_neg (by omega)]
      (try simp only [List.nil_append])
      rw [if_pos (by first | omega | (simp; omega))]
      rw [if_pos (by first | omega | (simp; omega))]
      (try simp only [Option.bind_some])
      (try simp only [List.nil_append])
      rw [e2 k (by omega)]
      simp only [Option.bind_some]
      rw [if_pos (by rw [w64 (n := v.1 + 1) (by omega) (by omega)]; exact hone)]
      rw [waste_impl ls s v.1 k (by omega) (by omega)]
      simp only [Option.bind_some]
      rw [if_pos (by rw [w1, List.take_length, w64 (n := v.1 * s) (by omega) (by omega), w64 (n := v.1 * s - ls.sum) (by omega) (by omega)])]
      rw [waste_impl (ls ++ [s]) s 0 k (by simp; omega) (by simp; omega)]
      simp only [Option.bind_some]
      rw [if_pos w2, lens_impl, hL]
      simp only [Option.bind_some, if_true]
      rw [e3 k (by omega)]
      rfl
    | succ d ih =>
      intro k i hi hk
      obtain ⟨k, rfl⟩ : ∃ m, k = m + 1 := ⟨k - 1, by omega⟩
      have hil : i < ls.length := by omega
      have hoi := hor i hil
      have hli := hok (ls.getD i 0) (by simp [List.getD_eq_getElem?_getD, hil])
      have hst := sum_take ls i hil
      have hs1 : 0 ≤ (ls.take i).sum ∧ (ls.take (i + 1)).sum ≤ 100000 := by
        have key : ∀ (m : List Int), (∀ x ∈ m, 1 ≤ x ∧ x ≤ s) → 0 ≤ m.sum ∧ m.sum ≤ 59 * (m.length : Int) := by
          intro m
          induction m with
          | nil => intro _; simp
          | cons x xs ihx =>
            intro h
            have h1 := ihx (fun y hy => h y (by simp [hy]))
            have h2 := h x (by simp)
            rw [List.sum_cons, List.length_cons]; omega
        have h1 := key (ls.take i) (fun x hx => hok x (List.mem_of_mem_take hx))
        have h2 := key (ls.take (i + 1)) (fun x hx => hok x (List.mem_of_mem_take hx))
        have h3 : (ls.take (i + 1)).length ≤ 7 := by rw [List.length_take]; omega
        omega
      have et : Int.tmod (wrap64 ((i : Int) + (tn : Int))) (ls.length : Int) = (((i + tn) % ls.length : Nat) : Int) := by
        rw [w64 (n := (i : Int) + (tn : Int)) (by omega) (by omega), show (i : Int) + (tn : Int) = ((i + tn : Nat) : Int) by omega]; rfl
      have fin : laws_FnSheets.l0 k c ls s o v.1 (((List.range i).map fun j => (((j + tn) % ls.length : Nat) : Int)) ++ [(((i + tn) % ls.length : Nat) : Int)]) (wrap64 ((ls.take i).sum + rd ls (i : Int))) (wrap64 ((i : Int) + 1)) = some true := by
        rw [turn_snoc, rd_nat, hst, w64 (n := (ls.take (i + 1)).sum) (by omega) (by omega), w64 (n := (i : Int) + 1) (by omega) (by omega), show (i : Int) + 1 = ((i + 1 : Nat) : Int) by omega]
        exact ih k (i + 1) (by omega) (by omega)
      simp only [laws_FnSheets.l0]
      rw [if_pos (by omega), ht]
      simp only [Option.bind_some]
      rw [if_neg (by omega), if_pos (by simp; omega), et]
      rw [if_pos (by omega), if_pos (by omega), rd_nat, if_neg (by omega), if_neg (by omega)]
      by_cases h0 : (i : Int) > 0
      · have ei : wrap64 ((i : Int) - 1) = ((i - 1 : Nat) : Int) := by rw [w64 (by omega) (by omega)]; omega
        have hoj := hor (i - 1) (by omega)
        rw [if_pos h0, if_pos hoi.1, if_pos hoi.2, ei, if_pos (by omega), if_pos (by omega), rd_nat, if_pos hoj.1, if_pos hoj.2]
        have hlex := hou (i - 1) i (by omega) hil
        rw [if_neg ?_]
        · exact fin
        · unfold Lex lnKey at hlex
          unfold rd
          omega
      · rw [if_neg h0]
        exact fin
  obtain ⟨k, hk⟩ : ∃ k, k = K1 + K2 + K3 + c.length + 4000 := ⟨_, rfl⟩
  refine ⟨k, ?_⟩
  obtain ⟨ls', s', hd', _, _, _⟩ := draw_sheet c (by omega) k (by omega)
  have hsame : ls' = ls ∧ s' = s := by
    have hmono : spec_DrawSheet.f k c = some (ls, s) := by
      obtain ⟨d, hd⟩ : ∃ d, k = c.length + 21 + d := ⟨k - (c.length + 21), by omega⟩
      rw [hd]
      exact more_rounds (fun j => spec_DrawSheet.mono c j) (c.length + 21) d _ hd0
    rw [hmono] at hd'
    have := Option.some.inj hd'
    exact ⟨(congrArg Prod.fst this).symm, (congrArg Prod.snd this).symm⟩
  obtain ⟨rfl, rfl⟩ := hsame
  obtain ⟨o, hlo, hop, hou⟩ := long_ok ls' s' hL k (by omega)
  have hu := used_ok ls' s' hL o hop k (by omega)
  have hff := first_fit hL ho o hu.2.1 hu.2.2.1
  unfold laws_FnSheets.f
  rw [big_eq, decide_eq_false hb]
  simp only [Option.bind_some, Bool.false_eq_true, if_false]
  rw [hd']
  simp only [Option.bind_some]
  rw [hlo]
  simp only [Option.bind_some]
  rw [e1 k (by omega)]
  simp only [Option.bind_some]
  rw [hu.1]
  simp only [Option.bind_some]
  rw [least_impl ls' s' k (by omega) (by omega)]
  simp only [Option.bind_some]
  rw [if_neg (by omega), if_neg (by omega), if_neg (by omega), if_pos (by rw [hu.2.2.2]), if_neg (by omega)]
  obtain ⟨k, rfl⟩ : ∃ m, k = m + 1 := ⟨k - 1, by omega⟩
  have hx : ((v.1 == 0) != ((ls'.length : Int) == 0)) = false := by
    by_cases h : v.1 = 0
    · have := hpos.mp h
      rw [h, this]; rfl
    · have : ¬ ls'.length = 0 := fun e => h (hpos.mpr e)
      rw [beq_eq_false_iff_ne.mpr h, beq_eq_false_iff_ne.mpr (show (ls'.length : Int) ≠ 0 by omega)]; rfl
  rw [hx]
  simp only [laws_FnSheets.j0, Bool.false_eq_true, if_false]
  have := loop o hop hou ls'.length k 0 (by omega) (by omega)
  simpa using this

end Go.Proofs.Ytcjbdbbnbhobbaa.Pure
