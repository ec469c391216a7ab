/- Plain lemmas on the printed functions: what they compute; conditions stand in each lemma. -/
import Derived.Test.YtfalckmlbiiedaaQx6
import Derived.Test.YtfalckmlbiiedaaQx14
import Derived.Test.YtfalckmlbiiedaaLembase
import Derived.Test.YtfalckmlbiiedaaLemin
import Derived.Test.YtfalckmlbiiedaaLemints
import Derived.Test.YtfalckmlbiiedaaLemcakeA
import Derived.Test.YtfalckmlbiiedaaLemsumB
import Derived.Test.YtfalckmlbiiedaaLemsumS
import Derived.Test.YtfalckmlbiiedaaLemsumI
namespace Go.Proofs.Ytfalckmlbiiedaa.Lem
open Go.RowKit Go.Proofs.Ytfalckmlbiiedaa.Q Go.Proofs.YtfalckmlbiiedaaW.PrintWords Go.Proofs.YtfalckmlbiiedaaW.PrintLast Go.Proofs.YtfalckmlbiiedaaW.PrintMore Go.Proofs.Ytfalckmlbiiedaa.Lem
set_option linter.unusedVariables false
set_option linter.unusedSimpArgs false
theorem mx_eq (a b : Int) : mx a b = max a b := by unfold mx; omega
theorem mn_eq (a b : Int) : mn a b = min a b := by unfold mn; omega
theorem cake_small {l : List Int} (h : cakeOk l = true) : Small l := by
  obtain ⟨⟨h1, h2⟩, h3⟩ := cakeOk_iff.1 h
  exact ⟨1000, h3, by omega, by omega⟩
theorem Small.sub {l m : List Int} (h : Small l) (hm : ∀ x ∈ m, x ∈ l) (hl : m.length ≤ l.length) : Small m := by
  obtain ⟨M, h1, h2, h3⟩ := h
  refine ⟨M, fun x hx => h1 x (hm x hx), ?_, by omega⟩
  rcases List.eq_nil_or_concat l with rfl | _
  · have : m.length = 0 := by simpa using hl
    simp [this]
  · by_cases hM : 0 ≤ M
    · have : (m.length : Int) * M ≤ l.length * M := Int.mul_le_mul_of_nonneg_right (by omega) hM
      omega
    · have : (m.length : Int) * M ≤ 0 := Int.mul_nonpos_of_nonneg_of_nonpos (by omega) (by omega)
      omega
theorem Small.take {l : List Int} (h : Small l) (i : Nat) : Small (l.take i) := h.sub (fun x hx => List.mem_of_mem_take hx) (by rw [List.length_take]; omega)
theorem Small.drop' {l : List Int} (h : Small l) (i : Nat) : Small (l.drop i) := h.sub (fun x hx => List.mem_of_mem_drop hx) (by rw [List.length_drop]; omega)
theorem take_drop_sum (l : List Int) (i : Nat) : (l.take i).sum + (l.drop i).sum = l.sum := by rw [← List.sum_append, List.take_append_drop]
theorem cake_parts {l : List Int} (h : cakeOk l = true) (i : Nat) : 0 ≤ (l.take i).sum ∧ 0 ≤ (l.drop i).sum ∧ (l.take i).sum + (l.drop i).sum = l.sum ∧ l.sum ≤ 40000 := by
  obtain ⟨⟨h1, h2⟩, h3⟩ := cakeOk_iff.1 h
  have a := sum_bounds (M := 1000) l h3
  have b := sum_bounds (M := 1000) (l.take i) (fun x hx => h3 x (List.mem_of_mem_take hx))
  have c := sum_bounds (M := 1000) (l.drop i) (fun x hx => h3 x (List.mem_of_mem_drop hx))
  exact ⟨b.1, c.1, take_drop_sum l i, by omega⟩
/-- One round of the reference's search: the best place and its value so far. -/
def halfStepS (l : List Int) (s : Int × Int) (i : Nat) : Int × Int := if min (l.take i).sum (l.drop i).sum > s.2 then ((i : Int), min (l.take i).sum (l.drop i).sum) else s
/-- One round of the program's search: the best place and the least difference so far. -/
def halfStepI (l : List Int) (s : Int × Int) (i : Nat) : Int × Int :=
  if (i : Int) = 0 then ((i : Int), max ((l.take i).sum - (l.drop i).sum) ((l.drop i).sum - (l.take i).sum))
  else if max ((l.take i).sum - (l.drop i).sum) ((l.drop i).sum - (l.take i).sum) < s.2 then ((i : Int), max ((l.take i).sum - (l.drop i).sum) ((l.drop i).sum - (l.take i).sum)) else s
/-- The half cut: the best place and the lesser part there. -/
def half (l : List Int) : Int × Int := if cakeOk l = true then (List.range (l.length + 1)).foldl (halfStepS l) (0, 0) else (-1, -1)
theorem half_spec (l : List Int) (k : Nat) (hl : l.length ≤ 1000000000) (hk : 2 * l.length + 8 < k) : spec_HalfCut.f k l = some (half l) := by
  simp only [spec_HalfCut.f, cake_spec l k (by omega) (by omega), Option.bind_some, half]
  by_cases h : cakeOk l = true
  · rw [if_pos h, if_pos h]
    have L := loop_fold' (fun k i s => spec_HalfCut.l0 k l s.1 s.2 i) (l.length + 1) l.length (by omega) (halfStepS l) (fun s => some s)
      (fun k i s hB hi => by
        simp only [spec_HalfCut.l0]
        rw [if_pos (by omega), if_pos (by omega), Int.toNat_natCast, sumS_spec _ ((cake_small h).take i) k (by rw [List.length_take]; omega)]
        simp only [Option.bind_some]
        rw [sumS_spec _ ((cake_small h).drop' i) k (by rw [List.length_drop]; omega)]
        simp only [Option.bind_some, mn_eq, halfStepS]
        by_cases hh : min (l.take i).sum (l.drop i).sum > s.2
        · rw [if_pos hh, if_pos hh]
        · rw [if_neg hh, if_neg hh])
      (fun k s hB => by
        simp only [spec_HalfCut.l0]
        rw [if_neg (by omega)]) k (0, 0) (by omega)
    exact L
  · rw [if_neg h, if_neg h]
theorem foldl_rel {ι σ τ : Type} (R : σ → τ → Prop) (f : σ → ι → σ) (g : τ → ι → τ) : ∀ (l : List ι), (∀ i ∈ l, ∀ s t, R s t → R (f s i) (g t i)) → ∀ s t, R s t → R (l.foldl f s) (l.foldl g t)
  | [], _, s, t, h => h
  | a :: l, H, s, t, h => by
    rw [List.foldl_cons, List.foldl_cons]
    exact foldl_rel R f g l (fun i hi => H i (List.mem_cons_of_mem _ hi)) _ _ (H a List.mem_cons_self s t h)
def HalfRel (l : List Int) (s t : Int × Int) : Prop := s.1 = t.1 ∧ 2 * s.2 + t.2 = l.sum ∧ 0 ≤ s.1 ∧ s.1 ≤ l.length ∧ s.2 = min (l.take s.1.toNat).sum (l.drop s.1.toNat).sum
theorem half_rel {l : List Int} (h : cakeOk l = true) : HalfRel l ((List.range (l.length + 1)).foldl (halfStepS l) (0, 0)) ((List.range (l.length + 1)).foldl (halfStepI l) (0, 0)) := by
  rw [List.range_succ_eq_map, List.foldl_cons, List.foldl_cons]
  apply foldl_rel (HalfRel l)
  · intro i hi s t hr
    obtain ⟨j, hj, rfl⟩ := List.mem_map.1 hi
    have hj2 := List.mem_range.1 hj
    obtain ⟨r1, r2, r3, r4, r5⟩ := hr
    have c := cake_parts h (j + 1)
    unfold halfStepS halfStepI
    rw [if_neg (show ¬ ((Nat.succ j : Nat) : Int) = 0 by omega)]
    by_cases hh : min (l.take (Nat.succ j)).sum (l.drop (Nat.succ j)).sum > s.2
    · rw [if_pos hh, if_pos (by simp only [Nat.succ_eq_add_one] at *; omega)]
      refine ⟨rfl, ?_, by omega, by omega, by simp⟩
      simp only [Nat.succ_eq_add_one] at *
      omega
    · rw [if_neg hh, if_neg (by simp only [Nat.succ_eq_add_one] at *; omega)]
      exact ⟨r1, r2, r3, r4, r5⟩
  · have c := cake_parts h 0
    have e1 : halfStepS l (0, 0) 0 = (0, 0) := by
      unfold halfStepS
      rw [if_neg]
      simp only [List.take_zero, List.drop_zero, List.sum_nil] at *
      omega
    have e2 : halfStepI l (0, 0) 0 = (0, l.sum) := by
      unfold halfStepI
      rw [if_pos (by simp)]
      simp only [List.take_zero, List.drop_zero, List.sum_nil] at *
      have : max (0 - l.sum) (l.sum - 0) = l.sum := by omega
      rw [this]
      simp
    rw [e1, e2]
    refine ⟨rfl, by simp, by simp, by simp, ?_⟩
    simp only [List.take_zero, List.drop_zero, List.sum_nil, Int.toNat_zero] at *
    omega
theorem half_impl (l : List Int) (k : Nat) (hl : l.length ≤ 1000000000) (hk : 2 * l.length + 8 < k) : impl_HalfCut.f k l = some (half l) := by
  simp only [impl_HalfCut.f, cake_impl, Option.bind_some, half]
  by_cases h : cakeOk l = true
  · rw [if_pos h, if_pos h]
    have hr := half_rel h
    have L := loop_fold (fun k i s => impl_HalfCut.l0 k l s.1 s.2 i) (l.length + 1) l.length (by omega) (fun _ (s : Int × Int) => 0 ≤ s.1 ∧ s.1 ≤ (l.length : Int)) (halfStepI l) (fun s => some (s.1, min (l.take s.1.toNat).sum (l.drop s.1.toNat).sum))
      (fun k i s hB hi _ => by
        have c := cake_parts h i
        simp only [impl_HalfCut.l0]
        rw [if_pos (by omega), if_pos (by omega), Int.toNat_natCast, sumI_impl _ ((cake_small h).take i) k (by rw [List.length_take]; omega)]
        simp only [Option.bind_some]
        rw [sumI_impl _ ((cake_small h).drop' i) k (by rw [List.length_drop]; omega)]
        simp only [Option.bind_some, mx_eq, halfStepI]
        rw [w64 (n := (l.take i).sum - (l.drop i).sum) (by omega) (by omega), w64 (n := (l.drop i).sum - (l.take i).sum) (by omega) (by omega)]
        by_cases h0 : (i : Int) = 0
        · rw [if_pos h0, if_pos h0]
        · rw [if_neg h0, if_neg h0]
          by_cases hh : max ((l.take i).sum - (l.drop i).sum) ((l.drop i).sum - (l.take i).sum) < s.2
          · rw [if_pos hh, if_pos hh]
          · rw [if_neg hh, if_neg hh])
      (fun i s hi hs => by
        unfold halfStepI
        split
        · exact ⟨by dsimp only; omega, by dsimp only; omega⟩
        · split
          · exact ⟨by dsimp only; omega, by dsimp only; omega⟩
          · exact hs)
      (fun k s hB hs => by
        simp only [impl_HalfCut.l0]
        rw [if_neg (by omega), if_pos hs.1, if_pos hs.2, sumI_impl _ ((cake_small h).take _) k (by rw [List.length_take]; omega)]
        simp only [Option.bind_some]
        rw [sumI_impl _ ((cake_small h).drop' _) k (by rw [List.length_drop]; omega)]
        simp only [Option.bind_some, mn_eq]) k (0, 0) ⟨by simp, by simp⟩ (by omega)
    rw [L.1]
    obtain ⟨r1, r2, r3, r4, r5⟩ := hr
    generalize (List.range (l.length + 1)).foldl (halfStepS l) (0, 0) = s at r1 r2 r3 r4 r5
    generalize (List.range (l.length + 1)).foldl (halfStepI l) (0, 0) = t at r1 r2
    rw [← r1, ← r5]
  · rw [if_neg h, if_neg h]

end Go.Proofs.Ytfalckmlbiiedaa.Lem
