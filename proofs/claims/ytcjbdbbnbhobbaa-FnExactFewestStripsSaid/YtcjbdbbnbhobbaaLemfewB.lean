/- Plain lemmas on the printed functions: what they compute; conditions stand in each lemma. -/
import Derived.Test.YtcjbdbbnbhobbaaQx0
import Derived.Test.YtcjbdbbnbhobbaaQx14
import Derived.Test.YtcjbdbbnbhobbaaQx28
import Derived.Test.YtcjbdbbnbhobbaaLembase
import Derived.Test.YtcjbdbbnbhobbaaLemin
import Derived.Test.YtcjbdbbnbhobbaaLemfewA
namespace Go.Proofs.Ytcjbdbbnbhobbaa.Lem
open Go.RowKit Go.Proofs.Ytcjbdbbnbhobbaa.Q Go.Proofs.YtcjbdbbnbhobbaaW.PrintWords Go.Proofs.YtcjbdbbnbhobbaaW.PrintLast Go.Proofs.YtcjbdbbnbhobbaaW.PrintMore Go.Proofs.Ytcjbdbbnbhobbaa.Lem
set_option linter.unusedVariables false
set_option linter.unusedSimpArgs false
def lt2 (x y : Int × Int) : Prop := x.1 < y.1 ∨ (x.1 = y.1 ∧ x.2 < y.2)
instance (x y : Int × Int) : Decidable (lt2 x y) := inferInstanceAs (Decidable (_ ∨ _))
def vB (B : List S46) (t : Nat) : Int × Int := ((B.getD t z46).f0, (B.getD t z46).f1)
theorem rdT (B : List S46) (t : Nat) : rd_T46 B (t : Int) = B.getD t z46 := by simp [rd_T46]
def mkS (x : Int × Int) : S46 := ⟨x.1, x.2⟩
theorem impl_j2 (k : Nat) (l : List Int) (a : Int) (n : Nat) (B : List S46) (s i : Nat) (hi : i < l.length) (hs : s < B.length) (b : Bool) (m u : Int) (c : Int × Int) (hc : c = if b then (m, wrap64 (u + l.getD i 0)) else (wrap64 (m + 1), l.getD i 0)) :
    impl_FewestStrips.j2 (k + 1) l a n B s i n i b m u = impl_FewestStrips.l1 k l a n (if lt2 c (vB B s) then B.set s (mkS c) else B) s n (wrap64 ((i : Int) + 1)) := by
  have h0 : (0 : Int) ≤ (i : Int) := by omega
  have h1 : (i : Int) < (l.length : Int) := by omega
  have h2 : (0 : Int) ≤ (s : Int) := by omega
  have h3 : (s : Int) < (B.length : Int) := by omega
  subst hc
  cases b with
  | true =>
    simp only [impl_FewestStrips.j2, if_true, rd_nat, rdT, Int.toNat_natCast]
    rw [if_pos h0, if_pos h1, if_pos h2, if_pos h3]
    by_cases e1 : m < (B.getD s z46).f0
    · rw [if_pos e1, if_pos (.inl e1)]; rfl
    · rw [if_neg e1]
      by_cases e2 : m = (B.getD s z46).f0
      · rw [if_pos e2]
        by_cases e3 : wrap64 (u + l.getD i 0) < (B.getD s z46).f1
        · rw [if_pos e3, if_pos (.inr ⟨e2, e3⟩)]; rfl
        · rw [if_neg e3, if_neg (fun h => by rcases h with h | h; exact e1 h; exact e3 h.2)]
      · rw [if_neg e2, if_neg (fun h => by rcases h with h | h; exact e1 h; exact e2 h.1)]
  | false =>
    simp only [impl_FewestStrips.j2, Bool.false_eq_true, if_false, rd_nat, rdT, Int.toNat_natCast]
    rw [if_pos h0, if_pos h1, if_pos h2, if_pos h3]
    by_cases e1 : wrap64 (m + 1) < (B.getD s z46).f0
    · rw [if_pos e1, if_pos (.inl e1)]; rfl
    · rw [if_neg e1]
      by_cases e2 : wrap64 (m + 1) = (B.getD s z46).f0
      · rw [if_pos e2]
        by_cases e3 : l.getD i 0 < (B.getD s z46).f1
        · rw [if_pos e3, if_pos (.inr ⟨e2, e3⟩)]; rfl
        · rw [if_neg e3, if_neg (fun h => by rcases h with h | h; exact e1 h; exact e3 h.2)]
      · rw [if_neg e2, if_neg (fun h => by rcases h with h | h; exact e1 h; exact e2 h.1)]
theorem spec_j2 (k : Nat) (l : List Int) (a : Int) (n : Nat) (U L : List Int) (s i : Nat) (hi : i < l.length) (hs : s < U.length) (hs2 : s < L.length) (b : Bool) (m u : Int) (c : Int × Int) (hc : c = if b then (wrap64 (m + 1), l.getD i 0) else (m, u)) :
    spec_FewestStrips.j2 (k + 1) l a n U L s i m u b = spec_FewestStrips.l1 k l a n (if lt2 c (U.getD s 0, L.getD s 0) then U.set s c.1 else U) (if lt2 c (U.getD s 0, L.getD s 0) then L.set s c.2 else L) s (wrap64 ((i : Int) + 1)) := by
  have h0 : (0 : Int) ≤ (i : Int) := by omega
  have h1 : (i : Int) < (l.length : Int) := by omega
  have h2 : (0 : Int) ≤ (s : Int) := by omega
  have h3 : (s : Int) < (U.length : Int) := by omega
  have h4 : (s : Int) < (L.length : Int) := by omega
  subst hc
  cases b with
  | true =>
    simp only [spec_FewestStrips.j2, if_true, rd_nat, Int.toNat_natCast]
    rw [if_pos h0, if_pos h1, if_pos h2, if_pos h3]
    by_cases e1 : wrap64 (m + 1) < U.getD s 0
    · rw [if_pos e1, if_pos h4]; simp only [if_pos (show lt2 (wrap64 (m + 1), l.getD i 0) (U.getD s 0, L.getD s 0) from .inl e1)]
    · rw [if_neg e1]
      by_cases e2 : wrap64 (m + 1) = U.getD s 0
      · rw [if_pos e2, if_pos h4]
        by_cases e3 : l.getD i 0 < L.getD s 0
        · rw [if_pos e3]; simp only [if_pos (show lt2 (wrap64 (m + 1), l.getD i 0) (U.getD s 0, L.getD s 0) from .inr ⟨e2, e3⟩)]
        · rw [if_neg e3]; simp only [if_neg (show ¬ lt2 (wrap64 (m + 1), l.getD i 0) (U.getD s 0, L.getD s 0) from (fun h => by rcases h with h | h; exact e1 h; exact e3 h.2))]
      · rw [if_neg e2]; simp only [if_neg (show ¬ lt2 (wrap64 (m + 1), l.getD i 0) (U.getD s 0, L.getD s 0) from (fun h => by rcases h with h | h; exact e1 h; exact e2 h.1))]
  | false =>
    simp only [spec_FewestStrips.j2, Bool.false_eq_true, if_false, rd_nat, Int.toNat_natCast]
    rw [if_pos h2, if_pos h3]
    by_cases e1 : m < U.getD s 0
    · rw [if_pos e1, if_pos h4]; simp only [if_pos (show lt2 (m, u) (U.getD s 0, L.getD s 0) from .inl e1)]
    · rw [if_neg e1]
      by_cases e2 : m = U.getD s 0
      · rw [if_pos e2, if_pos h4]
        by_cases e3 : u < L.getD s 0
        · rw [if_pos e3]; simp only [if_pos (show lt2 (m, u) (U.getD s 0, L.getD s 0) from .inr ⟨e2, e3⟩)]
        · rw [if_neg e3]; simp only [if_neg (show ¬ lt2 (m, u) (U.getD s 0, L.getD s 0) from (fun h => by rcases h with h | h; exact e1 h; exact e3 h.2))]
      · rw [if_neg e2]; simp only [if_neg (show ¬ lt2 (m, u) (U.getD s 0, L.getD s 0) from (fun h => by rcases h with h | h; exact e1 h; exact e2 h.1))]
/-- The program's inner loop at a bit that is set. -/
theorem impl_l1_bit (k : Nat) (l : List Int) (a : Int) (B : List S46) (s i : Nat) (hn : l.length ≤ 12) (hs4 : s < 4096) (hi : i < l.length) (hs : s < B.length) (hb : s.testBit i = true)
    (hl : ∀ i, 0 ≤ l.getD i 0 ∧ l.getD i 0 ≤ a) (ha : 0 ≤ a ∧ a ≤ 200) (hF : Fine a (vB B (s - 2 ^ i))) (hm : (vB B (s - 2 ^ i)).1 ≤ 12) :
    impl_FewestStrips.l1 (k + 2) l a l.length B s l.length i = impl_FewestStrips.l1 k l a l.length (if lt2 (ext a (vB B (s - 2 ^ i)) (l.getD i 0)) (vB B s) then B.set s (mkS (ext a (vB B (s - 2 ^ i)) (l.getD i 0))) else B) s l.length (wrap64 ((i : Int) + 1)) := by
  have h0 : (0 : Int) ≤ (i : Int) := by omega
  have h1 : (i : Int) < (l.length : Int) := by omega
  have hpp := Nat.two_pow_pos i
  have h5 : ((s - 2 ^ i : Nat) : Int) < (B.length : Int) := by omega
  rw [show impl_FewestStrips.l1 (k + 2) l a l.length B s l.length i = _ from rfl]
  simp only [impl_FewestStrips.l1]
  rw [if_pos h1, if_pos h0, and_bit hs4 (by omega), hb, andNot_bit hs4 (by omega) hb]
  simp only [if_true, rd_nat, rdT]
  rw [if_neg (by decide), if_pos (by omega), if_pos h5]
  have hl2 := hl i
  unfold Fine at hF
  by_cases e : (vB B (s - 2 ^ i)).1 > 0
  · rw [if_pos (show (B.getD (s - 2 ^ i) z46).f0 > 0 from e), if_pos h1]
    refine impl_j2 k l a l.length B s i hi hs _ _ _ _ ?_
    rw [w64 (n := (B.getD (s - 2 ^ i) z46).f1 + l.getD i 0) (by have := hF.2.1; simp only [vB] at this; omega) (by have := hF.2.2.1; simp only [vB] at this; omega),
      w64 (n := (B.getD (s - 2 ^ i) z46).f0 + 1) (by simp only [vB] at e; omega) (by simp only [vB] at hm; omega)]
    unfold ext
    by_cases e2 : (B.getD (s - 2 ^ i) z46).f1 + l.getD i 0 ≤ a
    · rw [if_pos ⟨e, e2⟩, if_pos (decide_eq_true e2)]; rfl
    · rw [if_neg (fun h => e2 h.2), if_neg (fun h => e2 (of_decide_eq_true h))]; rfl
  · rw [if_neg (show ¬ (B.getD (s - 2 ^ i) z46).f0 > 0 from e)]
    refine impl_j2 k l a l.length B s i hi hs _ _ _ _ ?_
    rw [w64 (n := (B.getD (s - 2 ^ i) z46).f0 + 1) (by have := hF.1; simp only [vB] at this; omega) (by simp only [vB] at hm; omega)]
    unfold ext
    rw [if_neg (fun h => e h.1)]; rfl
theorem impl_l1_no (k : Nat) (l : List Int) (a : Int) (B : List S46) (s i : Nat) (hn : l.length ≤ 12) (hs4 : s < 4096) (hi : i < l.length) (hb : s.testBit i = false) :
    impl_FewestStrips.l1 (k + 1) l a l.length B s l.length i = impl_FewestStrips.l1 k l a l.length B s l.length (wrap64 ((i : Int) + 1)) := by
  simp only [impl_FewestStrips.l1]
  rw [if_pos (by omega), if_pos (by omega), and_bit hs4 (by omega), hb]; simp
theorem sub_bit {s i : Nat} (hs4 : s < 4096) (hi : i < 12) (hb : s.testBit i = true) : wrap64 ((s : Int) - shl .i64 1 (i : Int)) = ((s - 2 ^ i : Nat) : Int) := by
  have := bit_split hb
  have hpp := Nat.two_pow_pos i
  rw [shl_pow (by omega), w64 (by omega) (by omega)]; omega
theorem spec_l1_bit (k : Nat) (l : List Int) (a : Int) (U L : List Int) (s i : Nat) (hn : l.length ≤ 12) (hs4 : s < 4096) (hi : i < l.length) (hs : s < U.length) (hs2 : s < L.length) (hb : s.testBit i = true)
    (hl : ∀ i, 0 ≤ l.getD i 0 ∧ l.getD i 0 ≤ a) (ha : 0 ≤ a ∧ a ≤ 200) (x : Int × Int) (hx : x = (U.getD (s - 2 ^ i) 0, L.getD (s - 2 ^ i) 0)) (hF : Fine a x) (hm : x.1 ≤ 12) (hp : x.1 > 0 ↔ s - 2 ^ i ≠ 0) (y : Int × Int) (hy : y = (U.getD s 0, L.getD s 0)) :
    spec_FewestStrips.l1 (k + 2) l a l.length U L s i = spec_FewestStrips.l1 k l a l.length (if lt2 (ext a x (l.getD i 0)) y then U.set s (ext a x (l.getD i 0)).1 else U) (if lt2 (ext a x (l.getD i 0)) y then L.set s (ext a x (l.getD i 0)).2 else L) s (wrap64 ((i : Int) + 1)) := by
  have h0 : (0 : Int) ≤ (i : Int) := by omega
  have h1 : (i : Int) < (l.length : Int) := by omega
  have hl2 := hl i
  have hpp := Nat.two_pow_pos i
  have e1 : U.getD (s - 2 ^ i) 0 = x.1 := by rw [hx]
  have e2 : L.getD (s - 2 ^ i) 0 = x.2 := by rw [hx]
  unfold Fine at hF
  rw [show spec_FewestStrips.l1 (k + 2) l a l.length U L s i = _ from rfl]
  simp only [spec_FewestStrips.l1]
  rw [if_pos h1, if_pos h0, and_bit hs4 (by omega), hb, sub_bit hs4 (by omega) hb]
  simp only [if_true, rd_nat]
  rw [if_neg (by decide), if_pos (by omega), if_pos (by omega), if_pos (by omega), if_pos h1, e1, e2, w64 (n := x.2 + l.getD i 0) (by omega) (by omega)]
  subst hy
  by_cases e : x.2 + l.getD i 0 > a
  · rw [if_pos e]
    refine spec_j2 k l a l.length U L s i hi hs hs2 _ _ _ _ ?_
    rw [w64 (n := x.1 + 1) (by omega) (by omega)]
    unfold ext; rw [if_neg (by omega)]; rfl
  · rw [if_neg e]
    refine spec_j2 k l a l.length U L s i hi hs hs2 _ _ _ _ ?_
    rw [w64 (n := x.1 + 1) (by omega) (by omega)]
    unfold ext
    by_cases e3 : s - 2 ^ i = 0
    · rw [if_neg (fun h => by have := hp.mp h.1; omega), if_pos (by simp [e3])]
    · rw [if_pos ⟨hp.mpr e3, by omega⟩, if_neg (by simp; omega)]
theorem spec_l1_no (k : Nat) (l : List Int) (a : Int) (U L : List Int) (s i : Nat) (hn : l.length ≤ 12) (hs4 : s < 4096) (hi : i < l.length) (hb : s.testBit i = false) :
    spec_FewestStrips.l1 (k + 1) l a l.length U L s i = spec_FewestStrips.l1 k l a l.length U L s (wrap64 ((i : Int) + 1)) := by
  simp only [spec_FewestStrips.l1]
  rw [if_pos (by omega), if_pos (by omega), and_bit hs4 (by omega), hb]; simp

end Go.Proofs.Ytcjbdbbnbhobbaa.Lem
