/- Plain lemmas on the printed functions: what they compute; conditions stand in each lemma. -/
import Derived.Test.YtnffhpgchfbmhaaQx2
import Derived.Test.YtnffhpgchfbmhaaQx3
import Derived.Test.YtnffhpgchfbmhaaQx5
import Derived.Test.YtnffhpgchfbmhaaQx6
import Derived.Test.YtnffhpgchfbmhaaQx7
import Derived.Test.YtnffhpgchfbmhaaQx8
import Derived.Test.YtnffhpgchfbmhaaQx9
import Derived.Test.YtnffhpgchfbmhaaQx10
import Derived.Test.YtnffhpgchfbmhaaQx11
import Derived.Test.YtnffhpgchfbmhaaQx12
import Derived.Test.YtnffhpgchfbmhaaLembase
import Derived.Test.YtnffhpgchfbmhaaLemin
import Derived.Test.YtnffhpgchfbmhaaLemsumB
import Derived.Test.YtnffhpgchfbmhaaLemsumS
import Derived.Test.YtnffhpgchfbmhaaLemsumI
namespace Go.Proofs.Ytnffhpgchfbmhaa.Lem
open Go.RowKit Go.Proofs.Ytnffhpgchfbmhaa.Q Go.Proofs.YtnffhpgchfbmhaaW.PrintWords Go.Proofs.YtnffhpgchfbmhaaW.PrintLast Go.Proofs.YtnffhpgchfbmhaaW.PrintMore Go.Proofs.Ytnffhpgchfbmhaa.Lem
set_option linter.unusedVariables false
set_option linter.unusedSimpArgs false
def dOk (a b c : Int) : Bool := decide ((300 ≤ a ∧ a ≤ 1200) ∧ (0 ≤ b ∧ b ≤ 50) ∧ 0 ≤ c ∧ c ≤ 500)
theorem dOk_iff {a b c : Int} : dOk a b c = true ↔ (300 ≤ a ∧ a ≤ 1200) ∧ (0 ≤ b ∧ b ≤ 50) ∧ 0 ≤ c ∧ c ≤ 500 := by simp [dOk]
theorem dough_spec (a b c : Int) : spec_DoughOk.f a b c = some (dOk a b c) := by
  simp only [spec_DoughOk.f, in_spec, Option.bind_some, dOk]
  by_cases h : 300 ≤ a ∧ a ≤ 1200 <;> by_cases h2 : 0 ≤ b ∧ b ≤ 50 <;> simp [h, h2]
theorem dough_impl (a b c : Int) : impl_DoughOk.f a b c = some (dOk a b c) := by
  simp only [impl_DoughOk.f, in_impl, Option.bind_some, dOk]
  by_cases h : 300 ≤ a ∧ a ≤ 1200 <;> by_cases h2 : 0 ≤ b ∧ b ≤ 50 <;> simp [h, h2]
def part (f p : Int) : Int := (f * p + 500) / 1000
theorem part_ok {f p : Int} (h0 : 0 ≤ f) (h1 : f ≤ 1000000) (h2 : 0 ≤ p) (h3 : p ≤ 2000) : 0 ≤ f * p ∧ f * p ≤ 2000000000 ∧ 0 ≤ part f p ∧ part f p ≤ 2000001 := by
  have a1 : 0 ≤ f * p := Int.mul_nonneg h0 h2
  have a2 : f * p ≤ 1000000 * 2000 := Int.mul_le_mul h1 h3 h2 (by omega)
  unfold part
  omega
theorem part_spec {f p : Int} (h0 : 0 ≤ f) (h1 : f ≤ 1000000) (h2 : 0 ≤ p) (h3 : p ≤ 2000) : spec_PartOf.f f p = some (part f p) := by
  obtain ⟨a1, a2, a3, a4⟩ := part_ok h0 h1 h2 h3
  simp only [spec_PartOf.f, in_spec, Option.bind_some]
  rw [decide_eq_true (show 0 ≤ f ∧ f ≤ 1000000 from ⟨h0, h1⟩), decide_eq_true (show 0 ≤ p ∧ p ≤ 2000 from ⟨h2, h3⟩), if_pos rfl, if_pos rfl, w64 (n := f * p) (by omega) (by omega), w64 (n := f * p + 500) (by omega) (by omega), Int.tdiv_eq_ediv_of_nonneg (by omega), w64 (by omega) (by omega)]
  rfl
theorem part_impl {f p : Int} (h0 : 0 ≤ f) (h1 : f ≤ 1000000) (h2 : 0 ≤ p) (h3 : p ≤ 2000) : impl_PartOf.f f p = some (part f p) := by
  obtain ⟨a1, a2, a3, a4⟩ := part_ok h0 h1 h2 h3
  simp only [impl_PartOf.f, in_impl, Option.bind_some]
  rw [decide_eq_true (show 0 ≤ f ∧ f ≤ 1000000 from ⟨h0, h1⟩), decide_eq_true (show 0 ≤ p ∧ p ≤ 2000 from ⟨h2, h3⟩), if_pos rfl, if_pos rfl, w64 (n := f * p) (by omega) (by omega), w64 (n := f * p + 500) (by omega) (by omega), Int.tdiv_eq_ediv_of_nonneg (by omega), w64 (by omega) (by omega)]
  rfl
def amounts (a b c f : Int) : List Int := if dOk a b c = true ∧ 0 ≤ f ∧ f ≤ 1000000 then [f, part f a, part f b, part f c] else []
theorem amounts_spec (a b c f : Int) (k : Nat) (hk : 0 < k) : spec_Amounts.f k a b c f = some (amounts a b c f) := by
  obtain ⟨k, rfl⟩ : ∃ m, k = m + 1 := ⟨k - 1, by omega⟩
  simp only [spec_Amounts.f, dough_spec, in_spec, Option.bind_some, spec_Amounts.j0, amounts]
  by_cases h : dOk a b c = true
  · by_cases h2 : 0 ≤ f ∧ f ≤ 1000000
    · obtain ⟨⟨x1, x2⟩, ⟨y1, y2⟩, z1, z2⟩ := dOk_iff.1 h
      rw [if_pos h, decide_eq_true h2, if_neg (by simp), part_spec h2.1 h2.2 (by omega) (by omega), part_spec h2.1 h2.2 (by omega) (by omega), part_spec h2.1 h2.2 (by omega) (by omega), if_pos (c := dOk a b c = true ∧ _) ⟨h, h2⟩]
      rfl
    · rw [if_pos h, decide_eq_false h2, if_pos (by simp), if_neg (c := dOk a b c = true ∧ _) (fun hh => h2 hh.2)]
  · rw [if_neg h, if_pos trivial, if_neg (c := dOk a b c = true ∧ _) (fun hh => h hh.1)]
theorem amounts_impl (a b c f : Int) (k : Nat) (hk : 0 < k) : impl_Amounts.f k a b c f = some (amounts a b c f) := by
  obtain ⟨k, rfl⟩ : ∃ m, k = m + 1 := ⟨k - 1, by omega⟩
  simp only [impl_Amounts.f, dough_impl, in_impl, Option.bind_some, impl_Amounts.j0, amounts]
  by_cases h : dOk a b c = true
  · by_cases h2 : 0 ≤ f ∧ f ≤ 1000000
    · obtain ⟨⟨x1, x2⟩, ⟨y1, y2⟩, z1, z2⟩ := dOk_iff.1 h
      rw [if_pos h, decide_eq_true h2, if_neg (by simp), part_impl h2.1 h2.2 (by omega) (by omega), part_impl h2.1 h2.2 (by omega) (by omega), part_impl h2.1 h2.2 (by omega) (by omega), if_pos (c := dOk a b c = true ∧ _) ⟨h, h2⟩]
      rfl
    · rw [if_pos h, decide_eq_false h2, if_pos (by simp), if_neg (c := dOk a b c = true ∧ _) (fun hh => h2 hh.2)]
  · rw [if_neg h, if_pos trivial, if_neg (c := dOk a b c = true ∧ _) (fun hh => h hh.1)]
theorem four_small {f p q r : Int} (h : 0 ≤ f ∧ f ≤ 3000000) (hp : 0 ≤ p ∧ p ≤ 3000000) (hq : 0 ≤ q ∧ q ≤ 3000000) (hr : 0 ≤ r ∧ r ≤ 3000000) : Small [f, p, q, r] := by
  refine ⟨3000000, fun x hx => ?_, by simp, by simp⟩
  simp only [List.mem_cons, List.not_mem_nil, or_false] at hx
  rcases hx with rfl | rfl | rfl | rfl <;> assumption
theorem amounts_small (a b c f : Int) : Small (amounts a b c f) ∧ (amounts a b c f).length ≤ 4 := by
  unfold amounts
  split
  · rename_i h
    obtain ⟨⟨x1, x2⟩, ⟨y1, y2⟩, z1, z2⟩ := dOk_iff.1 h.1
    have p1 := part_ok h.2.1 h.2.2 (show 0 ≤ a by omega) (by omega)
    have p2 := part_ok h.2.1 h.2.2 (show 0 ≤ b by omega) (by omega)
    have p3 := part_ok h.2.1 h.2.2 (show 0 ≤ c by omega) (by omega)
    exact ⟨four_small (by omega) (by omega) (by omega) (by omega), by simp⟩
  · exact ⟨⟨0, fun x hx => by simp at hx, by simp, by simp⟩, by simp⟩
def weight (a b c f : Int) : Int := if amounts a b c f = [] then -1 else (amounts a b c f).sum
theorem weight_spec (a b c f : Int) (k : Nat) (hk : 10 < k) : spec_DoughWeight.f k a b c f = some (weight a b c f) := by
  obtain ⟨hs, hl⟩ := amounts_small a b c f
  simp only [spec_DoughWeight.f, amounts_spec a b c f k (by omega), Option.bind_some, weight]
  by_cases h : amounts a b c f = []
  · rw [if_pos h, if_pos (by rw [h]; rfl)]
  · have := List.length_pos_iff.2 h
    rw [if_neg h, if_neg (by omega), sumS_spec _ hs k (by omega)]
    rfl
theorem weight_impl (a b c f : Int) (k : Nat) (hk : 10 < k) : impl_DoughWeight.f k a b c f = some (weight a b c f) := by
  obtain ⟨hs, hl⟩ := amounts_small a b c f
  simp only [impl_DoughWeight.f, amounts_impl a b c f k (by omega), Option.bind_some, weight]
  by_cases h : amounts a b c f = []
  · rw [if_pos h, if_pos h]
  · rw [if_neg h, if_neg h, sumI_impl _ hs k (by omega)]
/-- Which of the three parts the difference is. -/
def which (p q r d : Int) : Int := if d = 0 then 0 else if d = p then 1 else if d = q then 2 else if d = r then 3 else 4
theorem index_spec (f p q r d : Int) (hd : d ≠ 0) (k : Nat) (hk : 10 < k) : spec_l30Part.l0 k [f, p, q, r] d 1 = some (which p q r d) := by
  obtain ⟨k, rfl⟩ : ∃ m, k = m + 1 + 1 + 1 + 1 := ⟨k - 4, by omega⟩
  have e1 : rd [f, p, q, r] 1 = p := rfl
  have e2 : rd [f, p, q, r] 2 = q := rfl
  have e3 : rd [f, p, q, r] 3 = r := rfl
  have u1 : wrap64 (1 + 1) = 2 := (w64 (by omega) (by omega)).trans (by omega)
  have u2 : wrap64 (2 + 1) = 3 := (w64 (by omega) (by omega)).trans (by omega)
  have u3 : wrap64 (3 + 1) = 4 := (w64 (by omega) (by omega)).trans (by omega)
  unfold which
  rw [if_neg hd]
  rw [spec_l30Part.l0, if_pos (by omega), if_pos (by omega), if_pos (by simp), e1, u1]
  have last : spec_l30Part.l0 (k + 1) [f, p, q, r] d 4 = some 4 := by rw [spec_l30Part.l0, if_neg (by omega)]
  have three : spec_l30Part.l0 (k + 1 + 1) [f, p, q, r] d 3 = some (if d = r then 3 else 4) := by
    rw [spec_l30Part.l0, if_pos (by omega), if_pos (by omega), if_pos (by simp), e3, u3, last]
    by_cases h : r = 0
    · rw [if_pos h, if_neg (by omega)]
    · rw [if_neg h]
      by_cases h2 : d = r <;> simp [h2]
  have two : spec_l30Part.l0 (k + 1 + 1 + 1) [f, p, q, r] d 2 = some (if d = q then 2 else if d = r then 3 else 4) := by
    rw [spec_l30Part.l0, if_pos (by omega), if_pos (by omega), if_pos (by simp), e2, u2, three]
    by_cases h : q = 0
    · rw [if_pos h, if_neg (c := d = q) (by omega)]
    · rw [if_neg h]
      by_cases h2 : d = q <;> simp [h2]
  rw [two]
  by_cases h : p = 0
  · rw [if_pos h, if_neg (c := d = p) (by omega)]
  · rw [if_neg h]
    by_cases h2 : d = p <;> simp [h2]
theorem index_impl (p q r d : Int) (hd : d ≠ 0) (k : Nat) (hk : 10 < k) : ∃ t, slices_Index_int_int.f k [p, q, r] d = some t ∧ (if t ≥ 0 then wrap64 (t + 1) else 4) = which p q r d := by
  obtain ⟨k, rfl⟩ : ∃ m, k = m + 1 + 1 + 1 + 1 := ⟨k - 4, by omega⟩
  have e0 : rd [p, q, r] 0 = p := rfl
  have e1 : rd [p, q, r] 1 = q := rfl
  have e2 : rd [p, q, r] 2 = r := rfl
  have u0 : wrap64 (0 + 1) = 1 := (w64 (by omega) (by omega)).trans (by omega)
  have u1 : wrap64 (1 + 1) = 2 := (w64 (by omega) (by omega)).trans (by omega)
  have u2 : wrap64 (2 + 1) = 3 := (w64 (by omega) (by omega)).trans (by omega)
  have el : (([p, q, r] : List Int).length : Int) = 3 := rfl
  unfold which slices_Index_int_int.f
  rw [if_neg hd, el]
  simp only [slices_Index_int_int.l0, el, e0, e1, e2, u0, u1, u2]
  rw [if_pos (by omega), if_pos (by omega), if_pos (by omega)]
  by_cases h : d = p
  · rw [if_pos h, if_pos h]
    exact ⟨_, rfl, by rw [if_pos (by omega)]; exact u0⟩
  rw [if_neg h, if_neg h, if_pos (by omega), if_pos (by omega), if_pos (by omega)]
  by_cases h : d = q
  · rw [if_pos h, if_pos h]
    exact ⟨_, rfl, by rw [if_pos (by omega)]; exact u1⟩
  rw [if_neg h, if_neg h, if_pos (by omega), if_pos (by omega), if_pos (by omega)]
  by_cases h : d = r
  · rw [if_pos h, if_pos h]
    exact ⟨_, rfl, by rw [if_pos (by omega)]; exact u2⟩
  rw [if_neg h, if_neg h, if_neg (by omega)]
  exact ⟨_, rfl, by simp⟩
def partNo (a b c f w s : Int) : Int := if dOk a b c = true ∧ (0 ≤ f ∧ f ≤ 1000000) ∧ 0 ≤ w ∧ w ≤ 5000000 then which (part f a) (part f b) (part f c) ((w - (amounts a b c f).sum) * s) else -1
theorem partNo_spec (a b c f w s : Int) (hs : s = 1 ∨ s = -1) (k : Nat) (hk : 20 < k) : spec_l30Part.f k a b c f w s = some (partNo a b c f w s) := by
  obtain ⟨k, rfl⟩ : ∃ m, k = m + 1 := ⟨k - 1, by omega⟩
  obtain ⟨hsm, hl⟩ := amounts_small a b c f
  simp only [spec_l30Part.f, amounts_spec a b c f (k + 1) (by omega), in_spec, Option.bind_some, partNo]
  by_cases h : dOk a b c = true ∧ 0 ≤ f ∧ f ≤ 1000000
  · have ea : amounts a b c f = [f, part f a, part f b, part f c] := if_pos h
    rw [if_neg (by rw [ea]; simp)]
    by_cases h2 : 0 ≤ w ∧ w ≤ 5000000
    · rw [decide_eq_true h2, spec_l30Part.j0, if_neg (by simp), sumS_spec _ hsm k (by omega), if_pos (c := dOk a b c = true ∧ _) ⟨h.1, h.2, h2⟩]
      simp only [Option.bind_some]
      obtain ⟨⟨x1, x2⟩, ⟨y1, y2⟩, z1, z2⟩ := dOk_iff.1 h.1
      have p1 := part_ok h.2.1 h.2.2 (show 0 ≤ a by omega) (by omega)
      have p2 := part_ok h.2.1 h.2.2 (show 0 ≤ b by omega) (by omega)
      have p3 := part_ok h.2.1 h.2.2 (show 0 ≤ c by omega) (by omega)
      have es : (amounts a b c f).sum = f + part f a + part f b + part f c := by
        rw [ea]
        simp only [List.sum_cons, List.sum_nil]
        omega
      rw [w64 (n := w - (amounts a b c f).sum) (by omega) (by omega)]
      have ed : wrap64 ((w - (amounts a b c f).sum) * s) = (w - (amounts a b c f).sum) * s := by
        rcases hs with rfl | rfl
        · rw [w64 (by omega) (by omega)]
        · rw [w64 (by omega) (by omega)]
      rw [ed]
      generalize (w - (amounts a b c f).sum) * s = d
      by_cases hd : d = 0
      · rw [if_pos hd]
        unfold which
        rw [if_pos hd]
      · rw [if_neg hd, ea]
        exact index_spec _ _ _ _ d hd k (by omega)
    · rw [decide_eq_false h2, spec_l30Part.j0, if_pos (by simp), if_neg (c := dOk a b c = true ∧ _) (fun hh => h2 hh.2.2)]
  · have ea : amounts a b c f = [] := if_neg h
    rw [if_pos (by rw [ea]; rfl), spec_l30Part.j0, if_pos rfl, if_neg (c := dOk a b c = true ∧ _) (fun hh => h ⟨hh.1, hh.2.1⟩)]
theorem weigh_impl (a b c f w : Int) : impl_weighOk.f a b c f w = some (decide (dOk a b c = true ∧ (0 ≤ f ∧ f ≤ 1000000) ∧ 0 ≤ w ∧ w ≤ 5000000)) := by
  simp only [impl_weighOk.f, dough_impl, in_impl, Option.bind_some]
  by_cases h : dOk a b c = true <;> by_cases h2 : 0 ≤ f ∧ f ≤ 1000000 <;> simp [h, h2]
theorem partOf_impl (a b c f w s : Int) (h : dOk a b c = true ∧ (0 ≤ f ∧ f ≤ 1000000) ∧ 0 ≤ w ∧ w ≤ 5000000) (k : Nat) (hk : 20 < k) : impl_partOf.f k a b c f ((w - (amounts a b c f).sum) * s) = some (partNo a b c f w s) := by
  have ea : amounts a b c f = [f, part f a, part f b, part f c] := if_pos ⟨h.1, h.2.1⟩
  unfold impl_partOf.f partNo
  rw [if_pos (c := dOk a b c = true ∧ _) h]
  generalize (w - (amounts a b c f).sum) * s = d
  by_cases hd : d = 0
  · rw [if_pos hd]
    unfold which
    rw [if_pos hd]
  · rw [if_neg hd, amounts_impl a b c f k (by omega)]
    simp only [Option.bind_some]
    rw [ea, if_pos (by simp)]
    obtain ⟨t, et, ht⟩ := index_impl (part f a) (part f b) (part f c) d hd k (by omega)
    have ed : ([f, part f a, part f b, part f c] : List Int).drop 1 = [part f a, part f b, part f c] := rfl
    rw [ed, et]
    simp only [Option.bind_some]
    rw [← ht]
    split <;> rfl
theorem sum_ok (a b c f : Int) (h : dOk a b c = true ∧ 0 ≤ f ∧ f ≤ 1000000) : 0 ≤ (amounts a b c f).sum ∧ (amounts a b c f).sum ≤ 10000000 ∧ weight a b c f = (amounts a b c f).sum := by
  obtain ⟨⟨x1, x2⟩, ⟨y1, y2⟩, z1, z2⟩ := dOk_iff.1 h.1
  have p1 := part_ok h.2.1 h.2.2 (show 0 ≤ a by omega) (by omega)
  have p2 := part_ok h.2.1 h.2.2 (show 0 ≤ b by omega) (by omega)
  have p3 := part_ok h.2.1 h.2.2 (show 0 ≤ c by omega) (by omega)
  have ea : amounts a b c f = [f, part f a, part f b, part f c] := if_pos h
  unfold weight
  rw [ea]
  simp only [List.sum_cons, List.sum_nil]
  rw [if_neg (by simp)]
  omega
theorem missing_impl (a b c f w : Int) (k : Nat) (hk : 20 < k) : impl_MissingPart.f k a b c f w = some (partNo a b c f w (-1)) := by
  simp only [impl_MissingPart.f, weigh_impl, Option.bind_some]
  by_cases h : dOk a b c = true ∧ (0 ≤ f ∧ f ≤ 1000000) ∧ 0 ≤ w ∧ w ≤ 5000000
  · obtain ⟨s1, s2, s3⟩ := sum_ok a b c f ⟨h.1, h.2.1⟩
    rw [decide_eq_true h, if_pos rfl, weight_impl a b c f k (by omega)]
    simp only [Option.bind_some]
    have e : wrap64 (weight a b c f - w) = (w - (amounts a b c f).sum) * (-1) := by
      rw [s3, w64 (by omega) (by omega)]
      omega
    rw [e, partOf_impl a b c f w (-1) h k hk]
    rfl
  · rw [decide_eq_false h, if_neg (by simp)]
    unfold partNo
    rw [if_neg h]
theorem twice_impl (a b c f w : Int) (k : Nat) (hk : 20 < k) : impl_TwiceIn.f k a b c f w = some (partNo a b c f w 1) := by
  simp only [impl_TwiceIn.f, weigh_impl, Option.bind_some]
  by_cases h : dOk a b c = true ∧ (0 ≤ f ∧ f ≤ 1000000) ∧ 0 ≤ w ∧ w ≤ 5000000
  · obtain ⟨s1, s2, s3⟩ := sum_ok a b c f ⟨h.1, h.2.1⟩
    rw [decide_eq_true h, if_pos rfl, weight_impl a b c f k (by omega)]
    simp only [Option.bind_some]
    have e : wrap64 (w - weight a b c f) = (w - (amounts a b c f).sum) * 1 := by
      rw [s3, w64 (by omega) (by omega)]
      omega
    rw [e, partOf_impl a b c f w 1 h k hk]
    rfl
  · rw [decide_eq_false h, if_neg (by simp)]
    unfold partNo
    rw [if_neg h]

end Go.Proofs.Ytnffhpgchfbmhaa.Lem
