/- Plain lemmas on the printed functions: what they compute; conditions stand in each lemma. -/
import Derived.Test.YtgibgapbbnbekaaQx0
import Derived.Test.YtgibgapbbnbekaaQx12
import Derived.Test.YtgibgapbbnbekaaQx13
import Derived.Test.YtgibgapbbnbekaaQx14
import Derived.Test.YtgibgapbbnbekaaQx16
import Derived.Test.YtgibgapbbnbekaaQx17
import Derived.Test.YtgibgapbbnbekaaQx18
import Derived.Test.YtgibgapbbnbekaaQx20
import Derived.Test.YtgibgapbbnbekaaLembase
import Derived.Test.YtgibgapbbnbekaaLemin
import Derived.Test.YtgibgapbbnbekaaLemstFrozen
import Derived.Test.YtgibgapbbnbekaaLemthawA
import Derived.Test.YtgibgapbbnbekaaLemthawB
import Derived.Test.YtgibgapbbnbekaaLemthawC
import Derived.Test.YtgibgapbbnbekaaLemthawD
import Derived.Test.YtgibgapbbnbekaaLemsortA
namespace Go.Proofs.Ytgibgapbbnbekaa.Lem
open Go.RowKit Go.Proofs.Ytgibgapbbnbekaa.Q Go.Proofs.YtgibgapbbnbekaaW.PrintWords Go.Proofs.YtgibgapbbnbekaaW.PrintLast Go.Proofs.YtgibgapbbnbekaaW.PrintMore Go.Proofs.Ytgibgapbbnbekaa.Lem
set_option linter.unusedVariables false
set_option linter.unusedSimpArgs false
/-- The key the pieces are sorted by. -/
def thawKey (l : List S25) (x : Int) : Int := - (l.getD x.toNat z25).f0
theorem thaw_sort (l : List S25) (hl : l.length ≤ 20) (hok : ∀ f ∈ l, frOk f.f0 f.f1 = true) (xs : List Int) (hx : xs.length = l.length) (hv : ∀ x ∈ xs, 0 ≤ x ∧ x < l.length) (k : Nat) (hk : l.length * (l.length + 3) + 5 < k) :
    ∃ ys, slices_insertionSortCmpFunc_int.f k xs 0 l.length l = some ys ∧ ys.Perm xs ∧ Upto (thawKey l) ys l.length := by
  unfold slices_insertionSortCmpFunc_int.f
  rw [w64 (n := 0 + 1) (by omega) (by omega)]
  by_cases h0 : l.length = 0
  · obtain ⟨k, rfl⟩ : ∃ m, k = m + 1 := ⟨k - 1, by omega⟩
    refine ⟨xs, ?_, List.Perm.refl _, fun a b _ hb => by omega⟩
    simp only [slices_insertionSortCmpFunc_int.l0]
    rw [if_neg (by omega)]
  · have rdm : ∀ (xs : List Int) (j : Nat), xs.length = l.length → j < l.length → (∀ x ∈ xs, 0 ≤ x ∧ x < (l.length : Int)) → 0 ≤ xs.getD j 0 ∧ xs.getD j 0 < (l.length : Int) := by
      intro xs j hxl hj hV
      exact hV _ (by simp [List.getD_eq_getElem?_getD, show j < xs.length by omega])
    have h := insertion (fun k xs i => slices_insertionSortCmpFunc_int.l0 k xs 0 l.length i l) (fun k xs i j => slices_insertionSortCmpFunc_int.l1 k xs 0 l.length i j l) (thawKey l) l.length (fun xs => ∀ x ∈ xs, 0 ≤ x ∧ x < (l.length : Int))
      (fun k xs i hi hxl hV => by
        simp only [slices_insertionSortCmpFunc_int.l0]
        rw [if_pos (by omega)])
      (fun k xs hxl hV => by
        simp only [slices_insertionSortCmpFunc_int.l0]
        rw [if_neg (by omega)])
      (fun k xs i j hj hji hi hxl hV => by
        have a1 := rdm xs j hxl (by omega) hV
        have a0 := rdm xs (j - 1) hxl (by omega) hV
        have ej : wrap64 ((j : Int) - 1) = ((j - 1 : Nat) : Int) := by rw [w64 (by omega) (by omega)]; omega
        simp only [slices_insertionSortCmpFunc_int.l1, ej]
        rw [if_pos (by omega), if_pos (by omega), if_pos (by omega), if_pos (by omega), if_pos (by omega), rd_nat, rd_nat]
        simp only [impl_FewestTimes_1.f]
        rw [if_pos a0.1, if_pos a0.2, if_pos a1.1, if_pos a1.2]
        simp only [Option.bind_some]
        obtain ⟨p, hp⟩ : ∃ p : Nat, xs.getD j 0 = (p : Int) := ⟨(xs.getD j 0).toNat, by omega⟩
        obtain ⟨q, hq⟩ : ∃ q : Nat, xs.getD (j - 1) 0 = (q : Int) := ⟨(xs.getD (j - 1) 0).toNat, by omega⟩
        have hpl : p < l.length := by omega
        have hql : q < l.length := by omega
        have fp := frOk_iff.1 (hok (l.getD p z25) (by simp [List.getD_eq_getElem?_getD, hpl]))
        have fq := frOk_iff.1 (hok (l.getD q z25) (by simp [List.getD_eq_getElem?_getD, hql]))
        have hc : (wrap64 ((rd_T25 l (xs.getD (j - 1) 0)).f0 - (rd_T25 l (xs.getD j 0)).f0) < 0) ↔ thawKey l (xs.getD j 0) < thawKey l (xs.getD (j - 1) 0) := by
          rw [hp, hq, rdIFrozen, rdIFrozen, w64 (by omega) (by omega)]
          unfold thawKey
          rw [Int.toNat_natCast, Int.toNat_natCast]
          omega
        by_cases c : thawKey l (xs.getD j 0) < thawKey l (xs.getD (j - 1) 0)
        · rw [if_pos (hc.2 c), if_pos c, Int.toNat_natCast, Int.toNat_natCast]
          rfl
        · rw [if_neg (fun h => c (hc.1 h)), if_neg c, w64 (by omega) (by omega)]
          rfl)
      (fun k xs i hi hxl hV => by
        simp only [slices_insertionSortCmpFunc_int.l1]
        rw [if_neg (by omega), w64 (by omega) (by omega)]
        rfl)
      (fun xs ys hV hp x hx => hV x (hp.mem_iff.1 hx))
    have e2 : (l.length - 1) * (l.length + 3) ≤ l.length * (l.length + 3) := Nat.mul_le_mul_right _ (by omega)
    exact h (l.length - 1) k 1 xs (by omega) (by omega) hx hv (fun a b hab hb => by omega)
theorem thaw_stable (l : List S25) (hl : l.length ≤ 20) (hok : ∀ f ∈ l, frOk f.f0 f.f1 = true) (xs : List Int) (hx : xs.length = l.length) (hv : ∀ x ∈ xs, 0 ≤ x ∧ x < l.length) (k : Nat) (hk : l.length * (l.length + 3) + 30 < k) :
    ∃ ys, slices_SortStableFunc_int_int.f k xs l = some ys ∧ ys.Perm xs ∧ Upto (thawKey l) ys l.length := by
  unfold slices_SortStableFunc_int_int.f slices_stableCmpFunc_int.f
  obtain ⟨k, rfl⟩ : ∃ m, k = m + 1 + 1 + 1 + 1 := ⟨k - 4, by omega⟩
  by_cases c : l.length = 20
  · obtain ⟨ys, e, p, u⟩ := thaw_sort l hl hok xs hx hv (k + 1 + 1 + 1) (by omega)
    refine ⟨ys, ?_, p, u⟩
    have e2 : slices_insertionSortCmpFunc_int.f (k + 1 + 1) ys 20 20 l = some ys := by
      unfold slices_insertionSortCmpFunc_int.f
      simp only [slices_insertionSortCmpFunc_int.l0]
      rw [w64 (by omega) (by omega), if_neg (by omega)]
    rw [hx, c]
    rw [c] at e
    simp only [slices_stableCmpFunc_int.l0]
    rw [if_pos (by omega)]
    have e' : slices_insertionSortCmpFunc_int.f (k + 1 + 1 + 1) xs 0 20 l = some ys := e
    rw [e']
    simp only [Option.bind_some]
    rw [w64 (n := 20 + 20) (by omega) (by omega)]
    have e3 : ((20 : Nat) : Int) = 20 := rfl
    simp only [e3]
    rw [if_neg (by omega), e2]
    simp only [Option.bind_some, slices_stableCmpFunc_int.l1]
    rw [if_neg (by omega)]
    rfl
  · obtain ⟨ys, e, p, u⟩ := thaw_sort l hl hok xs hx hv (k + 1 + 1 + 1) (by omega)
    refine ⟨ys, ?_, p, u⟩
    rw [hx]
    simp only [slices_stableCmpFunc_int.l0]
    rw [if_neg (by omega), e]
    simp only [Option.bind_some, slices_stableCmpFunc_int.l1]
    rw [if_neg (by omega)]
    rfl
/-- The program's hours: a walk over the pieces in a row sorted by their last hours. -/
theorem fewest_impl (l : List S25) (w : Int) (hl : l.length ≤ 20) (hok : ∀ f ∈ l, frOk f.f0 f.f1 = true) (hw : l ≠ [] → -48 ≤ w ∧ w ≤ 1000) (k : Nat) (hk : l.length * (l.length + 3) + 90 < k) :
    ∃ M : List S25, M.Perm l ∧ M.Pairwise (fun f g => w - f.f0 ≤ w - g.f0) ∧ impl_FewestTimes.f k l w = some (hoursOf w M) := by
  obtain ⟨k, rfl⟩ : ∃ m, k = m + 1 + l.length := ⟨k - 1 - l.length, by omega⟩
  unfold impl_FewestTimes.f
  have S := (seg (fun k i (_ : Unit) => impl_FewestTimes.l0 k w l l.length i l) (fun k _ => (impl_indices.f k (l.length : Int)).bind fun t291 => ((slices_SortStableFunc_int_int.f k t291 l).bind fun t297 => (impl_FewestTimes.l1 k w (([] : List Int)) t297 (t291.length : Int) 0 l))) l.length 0 (fun _ => 1) (fun _ _ => True) (fun _ _ => ())
    (fun k i _ _ hi _ => by
      have hM := hok (l.getD i z25) (by simp [List.getD_eq_getElem?_getD, hi])
      have hne : l ≠ [] := fun e => by subst e; simp at hi
      simp only [impl_FewestTimes.l0, rdIFrozen, outAt_impl, outAt_ok hM (hw hne), Option.bind_some]
      rw [if_pos (by omega), if_pos (by omega), if_pos (by omega), if_pos trivial, w64 (by omega) (by omega)])
    (fun _ _ _ _ => trivial)
    (fun k _ _ _ => by
      simp only [impl_FewestTimes.l0]
      rw [if_neg (by omega), if_neg (by omega)]) l.length 0 k () (by omega) (by omega) trivial).1
  rw [sum_ones] at S
  have S' : impl_FewestTimes.l0 (k + 1 + l.length) w l l.length 0 l = (impl_indices.f k (l.length : Int)).bind fun t291 => ((slices_SortStableFunc_int_int.f k t291 l).bind fun t297 => (impl_FewestTimes.l1 k w (([] : List Int)) t297 (t291.length : Int) 0 l)) := S
  rw [S', indices_ok l.length k (by omega) (by omega)]
  have hlen : ((List.range l.length).map fun i : Nat => (i : Int)).length = l.length := by simp
  obtain ⟨ys, e, p, u⟩ := thaw_stable l hl hok ((List.range l.length).map fun i : Nat => (i : Int)) hlen (fun x hx => by
    obtain ⟨i, hi, rfl⟩ := List.mem_map.1 hx
    have := List.mem_range.1 hi
    omega) k (by omega)
  have hy : ys.length = l.length := by rw [p.length_eq, hlen]
  have hv : ∀ i, i < l.length → ∃ q : Nat, q < l.length ∧ ys.getD i 0 = (q : Int) := by
    intro i hi
    have hm : ys.getD i 0 ∈ ys := by simp [List.getD_eq_getElem?_getD, show i < ys.length by omega]
    obtain ⟨q, hq, e⟩ := List.mem_map.1 (p.mem_iff.1 hm)
    exact ⟨q, List.mem_range.1 hq, e.symm⟩
  refine ⟨ys.map fun x => l.getD x.toNat z25, ?_, ?_, ?_⟩
  · have := p.map (fun x => l.getD x.toNat z25)
    rw [List.map_map] at this
    have e2 : (List.range l.length).map ((fun x : Int => l.getD x.toNat z25) ∘ fun i : Nat => (i : Int)) = l := by
      exact (map_range_getD l z25 id).trans (List.map_id l)
    rw [e2] at this
    exact this
  · rw [List.pairwise_map, List.pairwise_iff_getElem]
    intro i j hi hj hij
    have := u i j hij (by omega)
    unfold thawKey at this
    simp only [List.getD_eq_getElem?_getD, List.getElem?_eq_getElem hi, List.getElem?_eq_getElem hj, Option.getD_some] at this ⊢
    omega
  · simp only [Option.bind_some, e, hlen]
    have L := (loop_fold (fun k i o => impl_FewestTimes.l1 k w o ys l.length i l) l.length 0 (by omega) (fun i o => o.length ≤ i) (fun o i => thawStep w o (l.getD (ys.getD i 0).toNat z25)) (fun o => some o)
      (fun k i o _ hi ho => by
        obtain ⟨q, hq, eq⟩ := hv i hi
        have hM := hok (l.getD q z25) (by simp [List.getD_eq_getElem?_getD, hq])
        have hfr := frOk_iff.1 hM
        have hne : l ≠ [] := fun e => by subst e; simp at hi
        have hww := hw hne
        simp only [impl_FewestTimes.l1]
        rw [if_pos (by omega), if_pos (by omega), if_pos (by omega), rd_nat, eq, if_pos (by omega), if_pos (by omega), rdIFrozen, outAt_impl, outAt_ok hM hww]
        simp only [Option.bind_some, Int.toNat_natCast]
        unfold thawStep
        by_cases ho0 : o = []
        · subst ho0
          have e1 : lstI [] = -2000 := rfl
          rw [if_pos (by simp), if_pos (by simp), e1, if_pos (by omega)]
        · have hlo : 0 < o.length := List.length_pos_iff.2 ho0
          have e1 : lstI o = o.getD (o.length - 1) 0 := by unfold lstI; rw [if_neg ho0]
          have e2 : wrap64 ((o.length : Int) - 1) = ((o.length - 1 : Nat) : Int) := by rw [w64 (by omega) (by omega)]; omega
          rw [if_neg (c := (o.length : Int) = 0) (by omega), e2, if_pos (by omega), if_pos (by omega), rd_nat, e1]
          by_cases c : o.getD (o.length - 1) 0 < w - (l.getD q z25).f0 - (l.getD q z25).f1
          · rw [if_pos c, if_pos c, if_pos (by omega)]
          · rw [if_neg c, if_neg c])
      (fun i o hi ho => by
        unfold thawStep
        split
        · simp; omega
        · omega)
      (fun k o _ _ => by
        simp only [impl_FewestTimes.l1]
        rw [if_neg (by omega)]) k [] (by simp) (by omega)).1
    rw [L]
    have := foldl_range_getD' ys 0 (fun o x => thawStep w o (l.getD x.toNat z25)) []
    rw [hy] at this
    rw [this]
    unfold hoursOf
    rw [List.foldl_map]
theorem fewest_bad (l : List S25) (w : Int) (hl : l.length ≤ 1000000000) : ∀ (d i k : Nat), i + d = l.length → d < k → (∃ j, i ≤ j ∧ j < l.length ∧ (outAt (l.getD j z25).f0 (l.getD j z25).f1 w).2.2 = false) → impl_FewestTimes.l0 k w l l.length i l = some [] := by
  intro d
  induction d with
  | zero =>
    rintro i k hd hk ⟨j, h1, h2, _⟩
    omega
  | succ d ih =>
    rintro i k hd hk ⟨j, h1, h2, h3⟩
    obtain ⟨k, rfl⟩ : ∃ m, k = m + 1 := ⟨k - 1, by omega⟩
    simp only [impl_FewestTimes.l0, rdIFrozen, outAt_impl, Option.bind_some]
    rw [if_pos (by omega), if_pos (by omega), if_pos (by omega)]
    by_cases c : (outAt (l.getD i z25).f0 (l.getD i z25).f1 w).2.2 = true
    · rw [if_pos c, w64 (by omega) (by omega)]
      refine ih (i + 1) k (by omega) (by omega) ⟨j, ?_, h2, h3⟩
      by_cases e : j = i
      · subst e
        rw [h3] at c
        exact absurd c (by simp)
      · omega
    · rw [if_neg c]
theorem fewest_long (l : List S25) (w : Int) (h20 : 20 < l.length) (hl : l.length ≤ 1000000000) (k : Nat) (hk : l.length + 1 < k) : impl_FewestTimes.f k l w = some [] := by
  unfold impl_FewestTimes.f
  have key : ∀ (d i k : Nat), i + d = l.length → d < k → impl_FewestTimes.l0 k w l l.length i l = some [] := by
    intro d
    induction d with
    | zero =>
      intro i k hd hk
      obtain ⟨k, rfl⟩ : ∃ m, k = m + 1 := ⟨k - 1, by omega⟩
      simp only [impl_FewestTimes.l0]
      rw [if_neg (by omega), if_pos (by omega)]
    | succ d ih =>
      intro i k hd hk
      obtain ⟨k, rfl⟩ : ∃ m, k = m + 1 := ⟨k - 1, by omega⟩
      simp only [impl_FewestTimes.l0, rdIFrozen, outAt_impl, Option.bind_some]
      rw [if_pos (by omega), if_pos (by omega), if_pos (by omega)]
      split
      · rw [w64 (by omega) (by omega)]
        exact ih (i + 1) k (by omega) (by omega)
      · rfl
  exact key l.length 0 k (by omega) (by omega)
theorem hours_len (w : Int) : ∀ (M : List S25) (o : List Int), (M.foldl (thawStep w) o).length ≤ o.length + M.length := by
  intro M
  induction M with
  | nil => intro o; simp
  | cons f M ih =>
    intro o
    rw [List.foldl_cons]
    have := ih (thawStep w o f)
    have h2 : (thawStep w o f).length ≤ o.length + 1 := by
      unfold thawStep
      split <;> simp
    simp only [List.length_cons]
    omega
/-- Both answer the same hours. -/
theorem fewest_same (l : List S25) (w : Int) (hl : l.length ≤ 1000000000) (k : Nat) (hk : l.length + 2000 < k) : ∃ v, v.length ≤ 20 ∧ spec_FewestTimes.f k l w = some v ∧ impl_FewestTimes.f k l w = some v := by
  unfold spec_FewestTimes.f
  simp only [Option.bind_some, l29_spec l w k hl (by omega)]
  by_cases h : l29ok l w = true
  · rw [if_pos h]
    obtain ⟨⟨h1, h2⟩, h3⟩ := l29ok_iff.1 h
    have hb : l.length * (l.length + 3) ≤ 20 * 23 := Nat.mul_le_mul h1 (by omega)
    have hb2 : (l.length + 1) * (l.length + 3) ≤ 21 * 23 := Nat.mul_le_mul (by omega) (by omega)
    obtain ⟨M, p, s, e⟩ := fewest_impl l w h1 h3 (fun _ => h2) k (by omega)
    have hlM := p.length_eq
    refine ⟨hoursOf w M, ?_, ?_, e⟩
    · have := hours_len w M []
      unfold hoursOf
      simp at this
      omega
    · have := fewest_spec l w h1 h3 h2 M [] [] k (by simpa using p) s (fun d hd => by simp at hd) (by simp; omega) (by rw [hlM]; omega)
      exact this
  · rw [if_neg h]
    refine ⟨[], by simp, rfl, ?_⟩
    by_cases h20 : 20 < l.length
    · exact fewest_long l w h20 hl k (by omega)
    · by_cases hne : l = []
      · subst hne
        obtain ⟨M, p, s, e⟩ := fewest_impl [] w (by simp) (by simp) (fun h => absurd rfl h) k (by simp; omega)
        have : M = [] := List.perm_nil.1 p
        subst this
        exact e
      · unfold impl_FewestTimes.f
        refine fewest_bad l w hl l.length 0 k (by omega) (by omega) ?_
        by_cases hw : -48 ≤ w ∧ w ≤ 1000
        · have hna : ¬ ∀ f ∈ l, frOk f.f0 f.f1 = true := fun hh => h (l29ok_iff.2 ⟨⟨by omega, hw⟩, hh⟩)
          have : ∃ f, f ∈ l ∧ ¬ frOk f.f0 f.f1 = true := by
            apply Classical.byContradiction
            intro hc
            exact hna (fun f hf => Classical.byContradiction fun hn => hc ⟨f, hf, hn⟩)
          obtain ⟨f, hf, hb⟩ := this
          obtain ⟨i, hi, rfl⟩ := List.mem_iff_getElem.1 hf
          refine ⟨i, by omega, hi, ?_⟩
          have e : l.getD i z25 = l[i] := by simp [List.getD_eq_getElem?_getD, hi]
          rw [e]
          unfold outAt
          rw [if_neg (fun hh => hb hh.1)]
        · have : 0 < l.length := List.length_pos_iff.2 hne
          refine ⟨0, by omega, this, ?_⟩
          unfold outAt
          rw [if_neg (fun hh => hw hh.2)]

end Go.Proofs.Ytgibgapbbnbekaa.Lem
