/- Plain lemmas on the printed functions: what they compute; conditions stand in each lemma. -/
import Derived.Test.YtcjbdbbnbhobbaaQx0
import Derived.Test.YtcjbdbbnbhobbaaQx14
import Derived.Test.YtcjbdbbnbhobbaaQx28
import Derived.Test.YtcjbdbbnbhobbaaLembase
import Derived.Test.YtcjbdbbnbhobbaaLemin
import Derived.Test.YtcjbdbbnbhobbaaLemfewB
namespace Go.Proofs.Ytcjbdbbnbhobbaa.Lem
open Go.RowKit Go.Proofs.Ytcjbdbbnbhobbaa.Q Go.Proofs.YtcjbdbbnbhobbaaW.PrintWords Go.Proofs.YtcjbdbbnbhobbaaW.PrintLast Go.Proofs.YtcjbdbbnbhobbaaW.PrintMore Go.Proofs.Ytcjbdbbnbhobbaa.Lem
set_option linter.unusedVariables false
set_option linter.unusedSimpArgs false
def Rel (N : Nat) (B : List S46) (U L : List Int) : Prop := B.length = N ∧ U.length = N ∧ L.length = N ∧ ∀ t, U.getD t 0 = (vB B t).1 ∧ L.getD t 0 = (vB B t).2
theorem getD_set_ {α : Type} (l : List α) (s t : Nat) (v d : α) (hs : s < l.length) : (l.set s v).getD t d = if t = s then v else l.getD t d := by
  simp only [List.getD_eq_getElem?_getD, List.getElem?_set]
  by_cases h : s = t
  · subst h; simp [hs]
  · rw [if_neg h, if_neg (fun e => h e.symm)]
theorem vB_set {B : List S46} {s : Nat} (hs : s < B.length) (c : Int × Int) (t : Nat) : vB (B.set s (mkS c)) t = if t = s then c else vB B t := by
  unfold vB; rw [getD_set_ _ _ _ _ _ hs]
  by_cases h : t = s
  · rw [if_pos h, if_pos h]; rfl
  · rw [if_neg h, if_neg h]
theorem rel_set {N : Nat} {B : List S46} {U L : List Int} (h : Rel N B U L) {s : Nat} (hs : s < N) (c : Int × Int) : Rel N (B.set s (mkS c)) (U.set s c.1) (L.set s c.2) := by
  obtain ⟨h1, h2, h3, h4⟩ := h
  refine ⟨by simpa using h1, by simpa using h2, by simpa using h3, fun t => ?_⟩
  rw [vB_set (by omega), getD_set_ _ _ _ _ _ (by omega), getD_set_ _ _ _ _ _ (by omega)]
  by_cases h : t = s
  · simp only [if_pos h, and_self]
  · simp only [if_neg h]; exact h4 t
/-- Both come to the least number of strips. -/
def Res (l : List Int) (a : Int) (f g : Nat → Option Int) : Prop := ∃ v K, Opt l a l.length (2 ^ l.length - 1) v ∧ ∀ k, K ≤ k → f k = some v.1 ∧ g k = some v.1
theorem res_step {l : List Int} {a : Int} {f g f' g' : Nat → Option Int} (j : Nat) (hf : ∀ k, f' (k + j) = f k) (hg : ∀ k, g' (k + j) = g k) (h : Res l a f g) : Res l a f' g' := by
  obtain ⟨v, K, ho, hk⟩ := h
  refine ⟨v, K + j, ho, fun k hkk => ?_⟩
  obtain ⟨q, rfl⟩ : ∃ q, k = q + j := ⟨k - j, by omega⟩
  rw [hf, hg]; exact hk q (by omega)
def Fits (l : List Int) (a : Int) : Prop := l.length ≤ 12 ∧ (0 ≤ a ∧ a ≤ 200) ∧ ∀ i, 0 ≤ l.getD i 0 ∧ l.getD i 0 ≤ a
theorem pow_small {n : Nat} (hn : n ≤ 12) : 2 ^ n ≤ 4096 := by have := Nat.pow_le_pow_right (n := 2) (by omega) hn; omega
theorem inner {l : List Int} {a : Int} (hl : Fits l a) (s : Nat) (hs0 : s ≠ 0) (hs : s < 2 ^ l.length)
    (hP : ∀ B U L, Rel (2 ^ l.length) B U L → (∀ t, t < s + 1 → Opt l a l.length t (vB B t)) → (∀ t, s + 1 ≤ t → vB B t = (0, 0)) → Res l a (fun k => impl_FewestStrips.l0 k l a l.length B ((s + 1 : Nat) : Int)) (fun k => spec_FewestStrips.l0 k l a l.length U L ((s + 1 : Nat) : Int))) :
    ∀ (d i : Nat), i + d = l.length → ∀ B U L, Rel (2 ^ l.length) B U L → (∀ t, t < s → Opt l a l.length t (vB B t)) → (∀ t, s + 1 ≤ t → vB B t = (0, 0)) → Cur l a l.length s i (vB B) (vB B s) →
      Res l a (fun k => impl_FewestStrips.l1 k l a l.length B s l.length (i : Int)) (fun k => spec_FewestStrips.l1 k l a l.length U L s (i : Int)) := by
  obtain ⟨hn, ha, hg⟩ := hl
  have hp := pow_small hn
  have ws : wrap64 ((s : Int) + 1) = ((s + 1 : Nat) : Int) := by rw [w64 (by omega) (by omega)]; omega
  intro d
  induction d with
  | zero =>
    intro i hi B U L hR hO hz hC
    obtain rfl : i = l.length := by omega
    refine res_step 1 ?_ ?_ (hP B U L hR (fun t ht => ?_) hz)
    · intro k
      simp only [impl_FewestStrips.l1, ws]; rw [if_neg (by omega)]
    · intro k
      simp only [spec_FewestStrips.l1, ws]; rw [if_neg (by omega)]
    · by_cases e : t = s
      · subst e; exact cur_opt hg ha.1 hO hs0 hs hC
      · exact hO t (by omega)
  | succ d ih =>
    intro i hi B U L hR hO hz hC
    have hin : i < l.length := by omega
    have wi : wrap64 ((i : Int) + 1) = ((i + 1 : Nat) : Int) := by rw [w64 (by omega) (by omega)]; omega
    by_cases hb : s.testBit i = true
    · have hsub : s - 2 ^ i < s := by have := bit_split hb; have := Nat.two_pow_pos i; omega
      have hO2 := hO _ hsub
      have hF := opt_bound hg ha.1 hO2
      have hR4 := hR.2.2.2 (s - 2 ^ i)
      obtain ⟨c, hc⟩ : ∃ c, c = ext a (vB B (s - 2 ^ i)) (l.getD i 0) := ⟨_, rfl⟩
      have hpos : (vB B (s - 2 ^ i)).1 > 0 ↔ s - 2 ^ i ≠ 0 := by
        constructor
        · intro h e
          have h0 := opt_zero l a l.length
          rw [e] at hO2 h
          have h3 : vB B 0 = (0, 0) := le2_anti (by obtain ⟨⟨σ, ho, hr⟩, _⟩ := h0; rw [← hr]; exact hO2.2 σ ho) (by obtain ⟨⟨σ, ho, hr⟩, _⟩ := hO2; rw [← hr]; exact h0.2 σ ho)
          rw [h3] at h; exact absurd h (by simp)
        · intro h; exact opt_pos hg ha.1 hO2 h (by omega)
      have hy : vB B s = (U.getD s 0, L.getD s 0) := by have := hR.2.2.2 s; rw [this.1, this.2]
      have hx : vB B (s - 2 ^ i) = (U.getD (s - 2 ^ i) 0, L.getD (s - 2 ^ i) 0) := by rw [hR4.1, hR4.2]
      refine res_step 2 (f := fun k => impl_FewestStrips.l1 k l a l.length (if lt2 c (vB B s) then B.set s (mkS c) else B) s l.length ((i + 1 : Nat) : Int)) (g := fun k => spec_FewestStrips.l1 k l a l.length (if lt2 c (vB B s) then U.set s c.1 else U) (if lt2 c (vB B s) then L.set s c.2 else L) s ((i + 1 : Nat) : Int)) ?_ ?_ ?_
      · intro k
        show impl_FewestStrips.l1 (k + 2) l a l.length B s l.length i = _
        rw [impl_l1_bit k l a B s i hn (by omega) hin (by rw [hR.1]; exact hs) hb hg ha hF.1 (by omega), wi, ← hc]
      · intro k
        show spec_FewestStrips.l1 (k + 2) l a l.length U L s i = _
        rw [spec_l1_bit k l a U L s i hn (by omega) hin (by rw [hR.2.1]; exact hs) (by rw [hR.2.2.1]; exact hs) hb hg ha (vB B (s - 2 ^ i)) hx hF.1 (by omega) hpos (vB B s) hy, wi, ← hc]
      · by_cases hlt : lt2 c (vB B s)
        · simp only [if_pos hlt]
          refine ih (i + 1) (by omega) _ _ _ (rel_set hR hs c) (fun t ht => ?_) (fun t ht => ?_) ?_
          · rw [vB_set (by rw [hR.1]; exact hs), if_neg (by omega)]; exact hO t ht
          · rw [vB_set (by rw [hR.1]; exact hs), if_neg (by omega)]; exact hz t ht
          · rw [vB_set (by rw [hR.1]; exact hs), if_pos rfl]
            have hv : ∀ j, s.testBit j = true → vB (B.set s (mkS c)) (s - 2 ^ j) = vB B (s - 2 ^ j) := fun j hj => by
              rw [vB_set (by rw [hR.1]; exact hs), if_neg (by have := bit_split hj; have := Nat.two_pow_pos j; omega)]
            refine ⟨.inr ⟨i, by omega, hin, hb, by rw [hv i hb]; exact hc⟩, fun j hj hjn hjb => ?_⟩
            rw [hv j hjb]
            by_cases e : j = i
            · subst e; rw [← hc]; exact le2_refl _
            · exact le2_trans (by unfold lt2 at hlt; unfold le2; omega) (hC.2 j (by omega) hjn hjb)
        · simp only [if_neg hlt]
          refine ih (i + 1) (by omega) _ _ _ hR hO hz ⟨?_, fun j hj hjn hjb => ?_⟩
          · rcases hC.1 with h | ⟨j, h1, h2, h3, h4⟩
            · exact .inl h
            · exact .inr ⟨j, by omega, h2, h3, h4⟩
          · by_cases e : j = i
            · subst e; rw [← hc]; unfold lt2 at hlt; unfold le2; omega
            · exact hC.2 j (by omega) hjn hjb
    · have hb' : s.testBit i = false := by simpa using hb
      refine res_step 1 ?_ ?_ (ih (i + 1) (by omega) B U L hR hO hz ⟨?_, fun j hj hjn hjb => ?_⟩)
      · intro k
        show impl_FewestStrips.l1 (k + 1) l a l.length B s l.length i = _
        rw [impl_l1_no k l a B s i hn (by omega) hin hb', wi]
      · intro k
        show spec_FewestStrips.l1 (k + 1) l a l.length U L s i = _
        rw [spec_l1_no k l a U L s i hn (by omega) hin hb', wi]
      · rcases hC.1 with h | ⟨j, h1, h2, h3, h4⟩
        · exact .inl h
        · exact .inr ⟨j, by omega, h2, h3, h4⟩
      · by_cases e : j = i
        · subst e; rw [hb'] at hjb; simp at hjb
        · exact hC.2 j (by omega) hjn hjb
theorem outer {l : List Int} {a : Int} (hl : Fits l a) : ∀ (d s : Nat), s + d = 2 ^ l.length → s ≠ 0 → ∀ B U L, Rel (2 ^ l.length) B U L → (∀ t, t < s → Opt l a l.length t (vB B t)) → (∀ t, s ≤ t → vB B t = (0, 0)) →
    Res l a (fun k => impl_FewestStrips.l0 k l a l.length B (s : Int)) (fun k => spec_FewestStrips.l0 k l a l.length U L (s : Int)) := by
  have hn := hl.1
  have hp := pow_small hn
  have hsh := shl_pow hn
  intro d
  induction d with
  | zero =>
    intro s hs hs0 B U L hR hO hz
    have hw : wrap64 (((2 ^ l.length : Nat) : Int) - 1) = ((2 ^ l.length - 1 : Nat) : Int) := by
      have hpp := Nat.two_pow_pos l.length
      generalize 2 ^ l.length = q at hp hpp
      rw [w64 (by omega) (by omega)]; omega
    have hR4 := hR.2.2.2 (2 ^ l.length - 1)
    refine ⟨vB B (2 ^ l.length - 1), 1, hO _ (by omega), fun k hk => ?_⟩
    obtain ⟨q, rfl⟩ : ∃ q, k = q + 1 := ⟨k - 1, by omega⟩
    have c1 : ¬ ((s : Int) < ((2 ^ l.length : Nat) : Int)) := by omega
    have c2 : (0 : Int) ≤ ((2 ^ l.length - 1 : Nat) : Int) := by omega
    have c3 : ((2 ^ l.length - 1 : Nat) : Int) < (B.length : Int) := by rw [hR.1]; exact Int.ofNat_lt.mpr (by omega)
    have c4 : ((2 ^ l.length - 1 : Nat) : Int) < (U.length : Int) := by rw [hR.2.1]; exact Int.ofNat_lt.mpr (by omega)
    constructor
    · simp only [impl_FewestStrips.l0, hsh, hw]
      rw [if_pos (by omega), if_neg c1, if_pos c2, if_pos c3, rdT]; rfl
    · simp only [spec_FewestStrips.l0, hsh, hw]
      rw [if_pos (by omega), if_neg c1, if_pos c2, if_pos c4, rd_nat, hR4.1]
  | succ d ih =>
    intro s hs hs0 B U L hR hO hz
    have hs2 : s < 2 ^ l.length := by omega
    have wn : wrap64 ((l.length : Int) + 1) = (l.length : Int) + 1 := w64 (by omega) (by omega)
    have hRs := hR.2.2.2 s
    have hR' : Rel (2 ^ l.length) (B.set s (mkS ((l.length : Int) + 1, 0))) (U.set s ((l.length : Int) + 1)) L := by
      have := rel_set hR hs2 ((l.length : Int) + 1, 0)
      have e : L.set s 0 = L := by
        apply List.ext_getElem?; intro t
        rw [List.getElem?_set]
        by_cases h : s = t
        · subst h
          have h1 : s < L.length := by rw [hR.2.2.1]; exact hs2
          have h2 := hRs.2
          rw [hz s (Nat.le_refl _)] at h2
          simp only [List.getD_eq_getElem?_getD, List.getElem?_eq_getElem h1, Option.getD_some] at h2
          simp [h1, h2]
        · rw [if_neg h]
      simp only [e] at this; exact this
    have hsB : s < B.length := by rw [hR.1]; exact hs2
    have c1 : (s : Int) < ((2 ^ l.length : Nat) : Int) := Int.ofNat_lt.mpr hs2
    refine res_step 1 ?_ ?_ (inner hl s hs0 hs2 (fun B' U' L' hR2 hO2 hz2 => ih (s + 1) (by omega) (by omega) B' U' L' hR2 hO2 hz2) l.length 0 (by omega) _ _ _ hR' (fun t ht => ?_) (fun t ht => ?_) ?_)
    · intro k
      simp only [impl_FewestStrips.l0, hsh, wn, Int.toNat_natCast]
      rw [if_pos (by omega), if_pos c1, if_pos (by omega), if_pos (Int.ofNat_lt.mpr hsB)]; rfl
    · intro k
      simp only [spec_FewestStrips.l0, hsh, wn, Int.toNat_natCast]
      rw [if_pos (by omega), if_pos c1, if_pos (by omega), if_pos (by rw [hR.2.1]; exact c1)]; rfl
    · rw [vB_set hsB, if_neg (by omega)]; exact hO t ht
    · rw [vB_set hsB, if_neg (by omega)]; exact hz t (by omega)
    · rw [vB_set hsB, if_pos rfl]
      exact ⟨.inl rfl, fun j hj => absurd hj (by omega)⟩
/-- The program's table and the reference's come to the same: the least number of strips over all orders. -/
theorem fewest {l : List Int} {a : Int} (hl : Fits l a) : Res l a (fun k => impl_FewestStrips.l0 k l a l.length (List.replicate (2 ^ l.length) z46) 1) (fun k => spec_FewestStrips.l0 k l a l.length (List.replicate (2 ^ l.length) 0) (List.replicate (2 ^ l.length) 0) 1) := by
  have hz : ∀ t, vB (List.replicate (2 ^ l.length) z46) t = (0, 0) := fun t => by
    unfold vB
    have : (List.replicate (2 ^ l.length) z46).getD t z46 = z46 := by
      simp only [List.getD_eq_getElem?_getD, List.getElem?_replicate]; split <;> rfl
    rw [this]; rfl
  have hz2 : ∀ t, (List.replicate (2 ^ l.length) (0 : Int)).getD t 0 = 0 := fun t => by
    simp only [List.getD_eq_getElem?_getD, List.getElem?_replicate]; split <;> rfl
  have hpp := Nat.two_pow_pos l.length
  refine outer hl (2 ^ l.length - 1) 1 (by omega) (by omega) _ _ _ ⟨by simp, by simp, by simp, fun t => ?_⟩ (fun t ht => ?_) (fun t _ => hz t)
  · rw [hz2, hz]; simp
  · obtain rfl : t = 0 := by omega
    rw [hz]; exact opt_zero l a l.length

end Go.Proofs.Ytcjbdbbnbhobbaa.Lem
