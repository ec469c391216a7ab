/- Plain lemmas on the printed functions: what they compute; conditions stand in each lemma. -/
import Derived.Test.YtocbhklcicbcnaaQx10
import Derived.Test.YtocbhklcicbcnaaQx11
import Derived.Test.YtocbhklcicbcnaaLembase
import Derived.Laws.BitsLemmas
namespace Go.Proofs.Ytocbhklcicbcnaa.Lem
open Go.RowKit Go.Proofs.Ytocbhklcicbcnaa.Q Go.Proofs.YtocbhklcicbcnaaW.PrintWords Go.Proofs.YtocbhklcicbcnaaW.PrintLast Go.Proofs.YtocbhklcicbcnaaW.PrintMore Go.Proofs.Ytocbhklcicbcnaa.Lem
set_option linter.unusedVariables false
set_option linter.unusedSimpArgs false
theorem and255 (x : Int) : 0 ≤ Go.bits .and .i64 x 255 ∧ Go.bits .and .i64 x 255 ≤ 255 := by
  have h2 : ((BitVec.ofInt 64 255).toNat : Nat) = 255 := rfl
  have h1 : ∀ a : Nat, a &&& 255 ≤ 255 := fun a => Nat.and_le_right
  have h3 := h1 (BitVec.ofInt 64 x).toNat
  have : Go.bits .and .i64 x 255 = (((BitVec.ofInt 64 x).toNat &&& 255 : Nat) : Int) := by
    have h5 : (BitVec.ofInt 64 x &&& BitVec.ofInt 64 255).toNat = (BitVec.ofInt 64 x).toNat &&& 255 := by rw [BitVec.toNat_and, h2]
    show Go.IntKind.i64.wrap ((BitVec.ofInt 64 x &&& BitVec.ofInt 64 255).toNat : Int) = _
    rw [h5, Go.IntKind.wrap_i64]
    omega
  rw [this]
  omega
theorem byte_ok (l : List Int) (i h : Int) (hi : 0 ≤ i) (hl : l.length ≤ 9223372036854775807) : ∃ x i' h', spec_l01Byte.f l i h = some (x, i', h') ∧ 0 ≤ x ∧ x ≤ 255 ∧ 0 ≤ i' := by
  unfold spec_l01Byte.f
  by_cases h1 : i < (l.length : Int)
  · rw [if_pos h1, if_pos hi]
    refine ⟨_, _, _, rfl, (and255 _).1, (and255 _).2, ?_⟩
    rw [w64 (by omega) (by omega)]
    omega
  · rw [if_neg h1]
    exact ⟨_, _, _, rfl, (and255 _).1, (and255 _).2, hi⟩
theorem below_ok (l : List Int) (i h n : Int) (hi : 0 ≤ i) (hl : l.length ≤ 9223372036854775807) : ∃ x i' h', spec_l01Below.f l i h n = some (x, i', h') ∧ 0 ≤ x ∧ (0 < n → x < n) ∧ (n ≤ 0 → x = 0) ∧ 0 ≤ i' := by
  unfold spec_l01Below.f
  by_cases h1 : n ≤ 0
  · rw [if_pos h1]
    exact ⟨_, _, _, rfl, Int.le_refl _, fun h => by omega, fun _ => rfl, hi⟩
  · rw [if_neg h1]
    have hn : n ≠ 0 := by omega
    by_cases h2 : n ≤ 256
    · rw [if_pos h2]
      obtain ⟨x, i1, g1, e1, a1, b1, c1⟩ := byte_ok l i h hi hl
      rw [e1]
      simp only [Option.bind_some]
      rw [if_neg hn]
      refine ⟨_, _, _, rfl, Int.tmod_nonneg _ a1, fun h => ?_, fun h => by omega, c1⟩
      exact Int.tmod_lt_of_pos _ h
    · rw [if_neg h2]
      obtain ⟨x1, i1, g1, e1, a1, b1, c1⟩ := byte_ok l i h hi hl
      rw [e1]
      simp only [Option.bind_some]
      obtain ⟨x2, i2, g2, e2, a2, b2, c2⟩ := byte_ok l i1 g1 c1 hl
      rw [e2]
      simp only [Option.bind_some]
      obtain ⟨x3, i3, g3, e3, a3, b3, c3⟩ := byte_ok l i2 g2 c2 hl
      rw [e3]
      simp only [Option.bind_some]
      obtain ⟨x4, i4, g4, e4, a4, b4, c4⟩ := byte_ok l i3 g3 c3 hl
      rw [e4]
      simp only [Option.bind_some]
      rw [if_neg hn]
      refine ⟨_, _, _, rfl, Int.tmod_nonneg _ ?_, fun h => Int.tmod_lt_of_pos _ h, fun h => by omega, c4⟩
      unfold wrap64
      omega
theorem new_ok (l : List Int) (k : Nat) (hk : l.length < k) (hl : l.length ≤ 9223372036854775807) : ∃ h, spec_l01New.f k l = some (l, 0, h) := by
  have key : ∀ (d k : Nat) (h : Int) (i : Nat), i ≤ l.length → l.length - i = d → d < k → ∃ h', spec_l01New.l0 k l h i = some (l, 0, h') := by
    intro d
    induction d with
    | zero =>
      intro k h i hi hd hk
      obtain ⟨k, rfl⟩ : ∃ m, k = m + 1 := ⟨k - 1, by omega⟩
      simp only [spec_l01New.l0]
      rw [if_neg (by omega)]
      exact ⟨_, rfl⟩
    | succ d ih =>
      intro k h i hi hd hk
      obtain ⟨k, rfl⟩ : ∃ m, k = m + 1 := ⟨k - 1, by omega⟩
      simp only [spec_l01New.l0]
      rw [if_pos (by omega)]
      by_cases h4 : (i : Int) < 4000
      · rw [if_pos h4, if_pos (by omega), w64s (n := l.length) (by omega) (by omega) hl]
        exact ih k _ (i + 1) (by omega) (by omega) (by omega)
      · rw [if_neg h4]
        exact ⟨_, rfl⟩
  exact key l.length k _ 0 (by omega) (by omega) hk
theorem at_ok (l : List Int) (i : Int) (hi : 0 ≤ i) (hi2 : i ≤ 1000) (hl : l.length ≤ 9223372036854775807) (hw : ∀ x ∈ l, (Lit.int .u8 x).wf = true) : ∃ v, laws_at.f l i = some v ∧ 0 ≤ v ∧ v ≤ 255 := by
  unfold laws_at.f
  by_cases h : (l.length : Int) = 0
  · rw [if_pos h]
    exact ⟨0, rfl, by omega, by omega⟩
  · rw [if_neg h]
    have e : wrap64 (wrap64 (i * 5) + 1) = i * 5 + 1 := by unfold wrap64; omega
    rw [e]
    have h1 : 0 ≤ Int.tmod (i * 5 + 1) (l.length : Int) := Int.tmod_nonneg _ (by omega)
    have h2 : Int.tmod (i * 5 + 1) (l.length : Int) < (l.length : Int) := Int.tmod_lt_of_pos _ (by omega)
    rw [if_pos h1, if_pos h2]
    generalize Int.tmod (i * 5 + 1) (l.length : Int) = j at h1 h2
    have hj : j.toNat < l.length := by omega
    have hr : rd l j = l[j.toNat] := by simp [rd, List.getD_eq_getElem?_getD, hj]
    have hb := hw _ (List.getElem_mem hj)
    simp only [Lit.wf, IntKind.min, IntKind.max, IntKind.signed, IntKind.bits, Bool.and_eq_true, decide_eq_true_eq] at hb
    rw [hr]
    generalize l[j.toNat] = v at hb
    refine ⟨_, rfl, ?_, ?_⟩ <;> (rw [w64 (by simp at hb; omega) (by simp at hb; omega)]; simp at hb; omega)
theorem big_eq (l : List Int) : laws_big.f l = some (decide ((l.length : Int) > 1048576)) := rfl

end Go.Proofs.Ytocbhklcicbcnaa.Lem
