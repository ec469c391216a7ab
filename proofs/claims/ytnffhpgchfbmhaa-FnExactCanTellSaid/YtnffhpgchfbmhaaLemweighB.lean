/- Plain lemmas on the printed functions: what they compute; conditions stand in each lemma. -/
import Derived.Test.YtnffhpgchfbmhaaQx1
import Derived.Test.YtnffhpgchfbmhaaQx8
import Derived.Test.YtnffhpgchfbmhaaQx15
import Derived.Test.YtnffhpgchfbmhaaQx16
import Derived.Test.YtnffhpgchfbmhaaQx17
import Derived.Test.YtnffhpgchfbmhaaQx21
import Derived.Test.YtnffhpgchfbmhaaQx26
import Derived.Test.YtnffhpgchfbmhaaQx27
import Derived.Test.YtnffhpgchfbmhaaQx28
import Derived.Test.YtnffhpgchfbmhaaLembase
import Derived.Test.YtnffhpgchfbmhaaLemin
import Derived.Test.YtnffhpgchfbmhaaLemsumB
import Derived.Test.YtnffhpgchfbmhaaLemsumS
import Derived.Test.YtnffhpgchfbmhaaLemsumI
import Derived.Test.YtnffhpgchfbmhaaLemweighA
import Derived.Test.YtnffhpgchfbmhaaLemsortA
import Derived.Lib.SlicesCompact
namespace Go.Proofs.Ytnffhpgchfbmhaa.Lem
open Go.RowKit Go.Proofs.Ytnffhpgchfbmhaa.Q Go.Proofs.YtnffhpgchfbmhaaW.PrintWords Go.Proofs.YtnffhpgchfbmhaaW.PrintLast Go.Proofs.YtnffhpgchfbmhaaW.PrintMore Go.Proofs.Ytnffhpgchfbmhaa.Lem
set_option linter.unusedVariables false
set_option linter.unusedSimpArgs false
set_option maxRecDepth 100000 in
theorem len_three (k : Nat) (hk : 0 < k) : ∃ v, bits_Len.f k (IntKind.u64.wrap ((3 : Nat) : Int)) = some v := by
  obtain ⟨k, rfl⟩ : ∃ m, k = m + 1 := ⟨k - 1, by omega⟩
  have e : IntKind.u64.wrap ((3 : Nat) : Int) = 3 := rfl
  rw [e]
  unfold bits_Len.f bits_Len64.f
  rw [if_neg (by omega)]
  rw [bits_Len64.j0]
  rw [if_neg (by omega), if_neg (by omega), if_pos (by omega), if_pos (by omega)]
  exact ⟨_, rfl⟩
theorem less_ok (a b : Int) : cmp_Less_int.f a b = some (decide (a < b)) := by
  unfold cmp_Less_int.f cmp_isNaN_int.f
  simp
theorem sort_three (xs : List Int) (hx : xs.length = 3) (k : Nat) (hk : 60 < k) : ∃ ys, slices_Sort_int_int.f k xs = some ys ∧ ys.Perm xs ∧ Upto id ys 3 := by
  unfold slices_Sort_int_int.f
  obtain ⟨v, hv⟩ := len_three k (by omega)
  rw [hx, hv]
  simp only [Option.bind_some]
  obtain ⟨k, rfl⟩ : ∃ m, k = m + 1 + 1 := ⟨k - 2, by omega⟩
  simp only [slices_pdqsortOrdered_int.f, slices_pdqsortOrdered_int.l0]
  rw [w64 (n := ((3 : Nat) : Int) - 0) (by omega) (by omega), if_pos (by omega)]
  unfold slices_insertionSortOrdered_int.f
  rw [w64 (n := 0 + 1) (by omega) (by omega)]
  have h := insertion (fun k xs i => slices_insertionSortOrdered_int.l0 k xs 0 ((3 : Nat) : Int) i) (fun k xs i j => slices_insertionSortOrdered_int.l1 k xs 0 ((3 : Nat) : Int) i j) id 3 (fun _ => True)
    (fun k xs i hi hxl hV => by
      simp only [slices_insertionSortOrdered_int.l0]
      rw [if_pos (by omega)])
    (fun k xs hxl hV => by
      simp only [slices_insertionSortOrdered_int.l0]
      rw [if_neg (by omega)])
    (fun k xs i j hj hji hi hxl hV => by
      have ej : wrap64 ((j : Int) - 1) = ((j - 1 : Nat) : Int) := by rw [w64 (by omega) (by omega)]; omega
      simp only [slices_insertionSortOrdered_int.l1, ej]
      rw [if_pos (by omega), if_pos (by omega), if_pos (by omega), if_pos (by omega), if_pos (by omega), rd_nat, rd_nat, less_ok]
      simp only [Option.bind_some, id]
      by_cases c : xs.getD j 0 < xs.getD (j - 1) 0
      · rw [decide_eq_true c, if_pos rfl, if_pos c, Int.toNat_natCast, Int.toNat_natCast]
        rfl
      · rw [decide_eq_false c, if_neg (by simp), if_neg c, w64 (by omega) (by omega)]
        rfl)
    (fun k xs i hi hxl hV => by
      simp only [slices_insertionSortOrdered_int.l1]
      rw [if_neg (by omega), w64 (by omega) (by omega)]
      rfl)
    (fun _ _ _ _ => trivial)
  obtain ⟨ys, e, p, u⟩ := h 2 k 1 xs (by omega) (by omega) hx trivial (fun a b hab hb => by omega)
  have e' : slices_insertionSortOrdered_int.l0 k xs 0 ((3 : Nat) : Int) (0 + 1) = some ys := e
  exact ⟨ys, by rw [e']; rfl, p, u⟩
theorem compact_three (x y z : Int) : (Go.Lib.compact [x, y, z]).length = 3 ↔ x ≠ y ∧ y ≠ z := by
  have h0 : Go.Lib.compactUpTo (#[x, y, z] : Array Int) 0 = [] := rfl
  have e : Go.Lib.compact [x, y, z] = Go.Lib.compactUpTo (#[x, y, z] : Array Int) (0 + 1 + 1 + 1) := rfl
  have k0 : Go.Lib.keeps (#[x, y, z] : Array Int) 0 = true := by simp [Go.Lib.keeps]
  have k1 : Go.Lib.keeps (#[x, y, z] : Array Int) (0 + 1) = decide (y ≠ x) := by simp [Go.Lib.keeps]
  have k2 : Go.Lib.keeps (#[x, y, z] : Array Int) (0 + 1 + 1) = decide (z ≠ y) := by simp [Go.Lib.keeps]
  rw [e, Go.Lib.compactUpTo_succ, Go.Lib.compactUpTo_succ, Go.Lib.compactUpTo_succ, h0, k0, k1, k2]
  by_cases c1 : y = x <;> by_cases c2 : z = y
  · simp [c1, c2]
  · subst c1
    simp [c2]
  · simp [c1, c2, Ne.symm c1]
  · simp only [c1, c2, decide_true, if_true, not_false_eq_true, ne_eq, List.length_append, List.length_cons, List.length_nil, List.nil_append]
    exact ⟨fun _ => ⟨fun h => c1 h.symm, fun h => c2 h.symm⟩, fun _ => trivial⟩
theorem set_three (p q r : Int) (k : Nat) (hk : 60 < k) : ∃ ys, impl_set.f k [p, q, r] = some ys ∧ (ys.length = 3 ↔ p ≠ q ∧ p ≠ r ∧ q ≠ r) := by
  unfold impl_set.f
  simp only [Option.bind_some]
  rw [if_pos (by simp), List.nil_append]
  obtain ⟨ys, e, pm, u⟩ := sort_three [p, q, r] rfl k hk
  rw [e]
  refine ⟨Go.Lib.compact ys, rfl, ?_⟩
  have hl : ys.length = 3 := by rw [pm.length_eq]; rfl
  match ys, hl, pm, u with
  | [x, y, z], _, pm, u =>
    rw [compact_three]
    have h1 := u 0 1 (by omega) (by omega)
    have h2 := u 1 2 (by omega) (by omega)
    simp at h1 h2
    have hn : [x, y, z].Nodup ↔ [p, q, r].Nodup := pm.nodup_iff
    simp only [List.nodup_cons, List.mem_cons, List.not_mem_nil, or_false, not_or, List.nodup_nil, and_true, not_false_eq_true] at hn
    constructor
    · rintro ⟨a, b⟩
      have := hn.1 ⟨⟨a, by omega⟩, b⟩
      exact ⟨this.1.1, this.1.2, this.2⟩
    · rintro ⟨a, b, c⟩
      have := hn.2 ⟨⟨a, b⟩, c⟩
      exact ⟨this.1.1, this.2⟩
theorem zero_in (p q r : Int) (k : Nat) (hk : 10 < k) : slices_Contains_int_int.f k [p, q, r] 0 = some (decide (p = 0 ∨ q = 0 ∨ r = 0)) := by
  obtain ⟨k, rfl⟩ : ∃ m, k = m + 1 + 1 + 1 + 1 := ⟨k - 4, by omega⟩
  unfold slices_Contains_int_int.f slices_Index_int_int.f
  have r0 : rd [p, q, r] 0 = p := rfl
  have r1 : rd [p, q, r] 1 = q := rfl
  have r2 : rd [p, q, r] 2 = r := rfl
  have w0 : wrap64 (0 + 1) = 1 := by unfold wrap64; omega
  have w1 : wrap64 (1 + 1) = 2 := by unfold wrap64; omega
  have w2 : wrap64 (2 + 1) = 3 := by unfold wrap64; omega
  have hl : (([p, q, r] : List Int).length : Int) = 3 := rfl
  simp only [slices_Index_int_int.l0, hl, r0, w0, r1, w1, r2, w2]
  by_cases c1 : 0 = p
  · simp [c1.symm]
  · by_cases c2 : 0 = q
    · simp [c1, c2.symm]
    · by_cases c3 : 0 = r
      · simp [c1, c2, c3.symm]
      · simp [c1, c2, c3, Ne.symm]
def canTell (a b c f : Int) : Bool := decide ((dOk a b c = true ∧ 0 ≤ f ∧ f ≤ 1000000) ∧ (part f a ≠ 0 ∧ part f b ≠ 0 ∧ part f c ≠ 0) ∧ part f a ≠ part f b ∧ part f a ≠ part f c ∧ part f b ≠ part f c)
theorem can_spec (a b c f : Int) (k : Nat) (hk : 10 < k) : spec_CanTell.f k a b c f = some (canTell a b c f) := by
  unfold spec_CanTell.f
  rw [amounts_spec a b c f k (by omega)]
  simp only [Option.bind_some]
  unfold amounts canTell
  by_cases h : dOk a b c = true ∧ 0 ≤ f ∧ f ≤ 1000000
  · rw [if_pos h]
    have hl : (([f, part f a, part f b, part f c] : List Int).length : Int) = 4 := rfl
    have r1 : rd [f, part f a, part f b, part f c] 1 = part f a := rfl
    have r2 : rd [f, part f a, part f b, part f c] 2 = part f b := rfl
    have r3 : rd [f, part f a, part f b, part f c] 3 = part f c := rfl
    rw [hl, r1, r2, r3, if_neg (by omega), if_pos (by omega)]
    generalize part f a = p
    generalize part f b = q
    generalize part f c = r
    by_cases c1 : p = 0
    · simp [c1]
    · rw [if_neg c1, if_pos (by omega)]
      by_cases c2 : q = 0
      · simp [c2]
      · rw [if_neg c2, if_pos (by omega)]
        by_cases c3 : r = 0
        · simp [c3]
        · rw [if_neg c3]
          by_cases c4 : p = q
          · simp [c4]
          · rw [if_neg c4]
            by_cases c5 : p = r
            · simp [c5]
            · rw [if_neg c5]
              by_cases c6 : q = r
              · simp [c6]
              · simp [h, c1, c2, c3, c4, c5, c6]
  · rw [if_neg h]
    have : ¬ ((dOk a b c = true ∧ 0 ≤ f ∧ f ≤ 1000000) ∧ (part f a ≠ 0 ∧ part f b ≠ 0 ∧ part f c ≠ 0) ∧ part f a ≠ part f b ∧ part f a ≠ part f c ∧ part f b ≠ part f c) := fun hh => h hh.1
    rw [decide_eq_false this]
    rfl
theorem can_impl (a b c f : Int) (k : Nat) (hk : 80 < k) : impl_CanTell.f k a b c f = some (canTell a b c f) := by
  obtain ⟨k, rfl⟩ : ∃ m, k = m + 1 := ⟨k - 1, by omega⟩
  unfold impl_CanTell.f
  rw [dough_impl]
  have hin : ∀ x y z : Int, impl_in.f x y z = some (decide (y ≤ x ∧ x ≤ z)) := by
    intro x y z
    unfold impl_in.f
    by_cases h : y ≤ x <;> simp [h]
  simp only [Option.bind_some, hin]
  unfold canTell
  by_cases h1 : dOk a b c = true
  · rw [if_pos h1, impl_CanTell.j0]
    by_cases h2 : 0 ≤ f ∧ f ≤ 1000000
    · rw [decide_eq_true h2, if_neg (by simp), amounts_impl a b c f k (by omega)]
      unfold amounts
      rw [if_pos ⟨h1, h2⟩]
      simp only [Option.bind_some]
      rw [if_pos (by simp)]
      have hd : List.drop 1 [f, part f a, part f b, part f c] = [part f a, part f b, part f c] := rfl
      rw [hd]
      obtain ⟨ys, e, hiff⟩ := set_three (part f a) (part f b) (part f c) k (by omega)
      rw [e, zero_in _ _ _ k (by omega)]
      simp only [Option.bind_some]
      generalize part f a = p at hiff
      generalize part f b = q at hiff
      generalize part f c = r at hiff
      by_cases c1 : ys.length = 3
      · rw [if_pos (by omega)]
        have h3 := hiff.1 c1
        congr 1
        rw [Bool.eq_iff_iff]
        simp [h1, h2, h3]
      · rw [if_neg (by omega)]
        have h3 : ¬ (p ≠ q ∧ p ≠ r ∧ q ≠ r) := fun hh => c1 (hiff.2 hh)
        have : ¬ ((dOk a b c = true ∧ 0 ≤ f ∧ f ≤ 1000000) ∧ (p ≠ 0 ∧ q ≠ 0 ∧ r ≠ 0) ∧ p ≠ q ∧ p ≠ r ∧ q ≠ r) := fun hh => h3 hh.2.2
        rw [decide_eq_false this]
    · rw [decide_eq_false h2, if_pos (by simp)]
      have : ¬ ((dOk a b c = true ∧ 0 ≤ f ∧ f ≤ 1000000) ∧ (part f a ≠ 0 ∧ part f b ≠ 0 ∧ part f c ≠ 0) ∧ part f a ≠ part f b ∧ part f a ≠ part f c ∧ part f b ≠ part f c) := fun hh => h2 hh.1.2
      rw [decide_eq_false this]
  · rw [if_neg h1, impl_CanTell.j0, if_pos rfl]
    have : ¬ ((dOk a b c = true ∧ 0 ≤ f ∧ f ≤ 1000000) ∧ (part f a ≠ 0 ∧ part f b ≠ 0 ∧ part f c ≠ 0) ∧ part f a ≠ part f b ∧ part f a ≠ part f c ∧ part f b ≠ part f c) := fun hh => h1 hh.1.1
    rw [decide_eq_false this]

end Go.Proofs.Ytnffhpgchfbmhaa.Lem
