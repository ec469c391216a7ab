/- Plain lemmas on the printed functions: what they compute; conditions stand in each lemma. -/
import Derived.Test.YtfalckmlbiiedaaQx0
import Derived.Test.YtfalckmlbiiedaaQx9
import Derived.Test.YtfalckmlbiiedaaQx16
import Derived.Test.YtfalckmlbiiedaaQx17
import Derived.Test.YtfalckmlbiiedaaLembase
import Derived.Test.YtfalckmlbiiedaaLemin
import Derived.Test.YtfalckmlbiiedaaLemints
import Derived.Test.YtfalckmlbiiedaaLemcakeA
import Derived.Test.YtfalckmlbiiedaaLemsumB
import Derived.Test.YtfalckmlbiiedaaLemsumS
import Derived.Test.YtfalckmlbiiedaaLemsumI
import Derived.Test.YtfalckmlbiiedaaLemcakeB
import Derived.Test.YtfalckmlbiiedaaLemsharesA
namespace Go.Proofs.Ytfalckmlbiiedaa.Lem
open Go.RowKit Go.Proofs.Ytfalckmlbiiedaa.Q Go.Proofs.YtfalckmlbiiedaaW.PrintWords Go.Proofs.YtfalckmlbiiedaaW.PrintLast Go.Proofs.YtfalckmlbiiedaaW.PrintMore Go.Proofs.Ytfalckmlbiiedaa.Lem
set_option linter.unusedVariables false
set_option linter.unusedSimpArgs false
theorem sub_sum {l : List Int} (h : ∀ y ∈ l, 0 ≤ y) (i j : Nat) (hij : j ≤ i) : ((l.take i).drop j).sum = pre l i - pre l j := by
  have e : (l.take i).sum = ((l.take i).take j).sum + ((l.take i).drop j).sum := by rw [← List.sum_append, List.take_append_drop]
  rw [List.take_take, Nat.min_eq_left hij] at e
  unfold pre
  omega
theorem rdL2_set (T : List (List Int)) (p : Nat) (r : List Int) (hp : p < T.length) : rd_L2 (T.set p r) (p : Int) = r := by
  simp [rd_L2, List.getD_eq_getElem?_getD, hp]
theorem rdL2_set_ne (T : List (List Int)) (p q : Nat) (r : List Int) (h : q ≠ p) : rd_L2 (T.set p r) (q : Int) = rd_L2 T (q : Int) := by
  simp only [rd_L2, List.getD_eq_getElem?_getD, Int.toNat_natCast]
  rw [List.getElem?_set_ne (fun hh => h hh.symm)]
/-- The innermost loop: an entry grows over the places of the last cut. -/
theorem dp_inner {l : List Int} (hc : cakeOk l = true) (n : Int) (T : List (List Int)) (r : List Int) (p i : Nat) (hp1 : 2 ≤ p) (hp : p < T.length) (hr : r.length = l.length + 1) (hi : i ≤ l.length) (hT : T.length ≤ 100)
    (hprev : rd_L2 T ((p - 1 : Nat) : Int) = (List.range (l.length + 1)).map (Dm l (p - 1))) :
    ∀ (d k j : Nat) (a : Int), j + d = i → d + 60 < k → impl_BestShares.l2 k l n (T.set p (r.set i a)) p i j = impl_BestShares.l1 (k - d - 1) l n (T.set p (r.set i ((List.range' j d).foldl (fun b j => max b (min (Dm l (p - 1) j) (pre l i - pre l j))) a))) p ((i + 1 : Nat) : Int) := by
  have hsm := cake_small hc
  obtain ⟨⟨hl1, hl2⟩, hv⟩ := cakeOk_iff.1 hc
  have hv0 : ∀ y ∈ l, 0 ≤ y := fun y hy => (hv y hy).1
  intro d
  induction d with
  | zero =>
    intro k j a hj hk
    obtain ⟨k, rfl⟩ : ∃ m, k = m + 1 := ⟨k - 1, by omega⟩
    rw [impl_BestShares.l2, if_neg (by omega), w64 (n := (i : Int) + 1) (by omega) (by omega)]
    rfl
  | succ d ih =>
    intro k j a hj hk
    obtain ⟨k, rfl⟩ : ∃ m, k = m + 1 := ⟨k - 1, by omega⟩
    have e1 : wrap64 ((p : Int) - 1) = ((p - 1 : Nat) : Int) := by
      rw [w64 (by omega) (by omega)]
      omega
    have hlen : (T.set p (r.set i a)).length = T.length := List.length_set
    have hrow : rd_L2 (T.set p (r.set i a)) (p : Int) = r.set i a := rdL2_set T p _ hp
    have hrow2 : rd_L2 (T.set p (r.set i a)) ((p - 1 : Nat) : Int) = (List.range (l.length + 1)).map (Dm l (p - 1)) := by rw [rdL2_set_ne T p (p - 1) _ (by omega), hprev]
    have hrl : (r.set i a).length = l.length + 1 := by rw [List.length_set, hr]
    have hrl2 : ((List.range (l.length + 1)).map (Dm l (p - 1))).length = l.length + 1 := by simp
    have g1 : rd (r.set i a) (i : Int) = a := by simp [rd, List.getD_eq_getElem?_getD, show i < r.length by omega]
    have g2 : rd ((List.range (l.length + 1)).map (Dm l (p - 1))) (j : Int) = Dm l (p - 1) j := by
      have hjl : j < l.length + 1 := by omega
      simp [rd, List.getD_eq_getElem?_getD, hjl]
    have hs := sumI_impl ((l.take i).drop j) ((hsm.take i).drop' j) k (by simp; omega)
    rw [impl_BestShares.l2, e1, hrow, hrow2, hlen, hrl, hrl2, if_pos (by omega), if_pos (by omega), if_pos (by omega), if_pos (by omega), if_pos (by omega), if_pos (by omega), if_pos (by omega), if_pos (by omega), if_pos (by omega), if_pos (by omega), if_pos (by omega)]
    simp only [Int.toNat_natCast]
    rw [hs]
    simp only [Option.bind_some]
    rw [g1, g2, mx_eq, mn_eq, List.set_set, List.set_set, sub_sum hv0 i j (by omega), w64 (n := (j : Int) + 1) (by omega) (by omega)]
    have := ih k (j + 1) (max a (min (Dm l (p - 1) j) (pre l i - pre l j))) (by omega) (by omega)
    rw [Int.natCast_add] at this
    rw [List.range'_succ, List.foldl_cons, show k + 1 - (d + 1) - 1 = k - d - 1 by omega]
    exact this
/-- Row p of the table, filled up to place i. -/
def rowTo (l : List Int) (p i : Nat) : List Int := (List.range (l.length + 1)).map (fun t => if t < i then Dm l p t else 0)
theorem rowTo_len (l : List Int) (p i : Nat) : (rowTo l p i).length = l.length + 1 := by simp [rowTo]
theorem rowTo_set (l : List Int) (p i : Nat) : (rowTo l p i).set i (Dm l p i) = rowTo l p (i + 1) := by
  apply List.ext_getElem
  · simp [rowTo]
  · intro t h1 h2
    rw [List.getElem_set]
    simp only [rowTo, List.getElem_map, List.getElem_range]
    by_cases e : i = t
    · subst e
      rw [if_pos rfl, if_pos (by omega)]
    · rw [if_neg e]
      by_cases e2 : t < i
      · rw [if_pos e2, if_pos (by omega)]
      · rw [if_neg e2, if_neg (by omega)]
theorem rowTo_at (l : List Int) (p i : Nat) (hi : i ≤ l.length) : (rowTo l p i).set i 0 = rowTo l p i := by
  apply List.ext_getElem
  · simp [rowTo]
  · intro t h1 h2
    rw [List.getElem_set]
    simp only [rowTo, List.getElem_map, List.getElem_range]
    by_cases e : i = t
    · subst e
      rw [if_pos rfl, if_neg (by omega)]
    · rw [if_neg e]
theorem rowTo_full (l : List Int) (p : Nat) : rowTo l p (l.length + 1) = (List.range (l.length + 1)).map (Dm l p) := by
  apply List.map_congr_left
  intro t ht
  rw [if_pos (by have := List.mem_range.1 ht; omega)]
theorem rowTo_start (l : List Int) (p : Nat) (hp : 1 ≤ p) (h0 : ∀ t, t < p → Dm l p t = 0) : rowTo l p p = List.replicate (l.length + 1) 0 := by
  apply List.ext_getElem
  · simp [rowTo]
  · intro t h1 h2
    simp only [rowTo, List.getElem_map, List.getElem_range, List.getElem_replicate]
    by_cases e : t < p
    · rw [if_pos e, h0 t e]
    · rw [if_neg e]
theorem Dm_start (l : List Int) (p : Nat) (hp : 1 ≤ p) : ∀ t, t < p → Dm l p t = 0 := by
  intro t ht
  match p, hp with
  | 1, _ =>
    have : t = 0 := by omega
    subst this
    rfl
  | p + 2, _ => exact Dm_low p t (by omega)
/-- The middle loop: a row is filled. -/
theorem dp_row {l : List Int} (hc : cakeOk l = true) (n : Int) (T : List (List Int)) (p : Nat) (hp1 : 1 ≤ p) (hp : p < T.length) (hT : T.length ≤ 100)
    (hprev : 2 ≤ p → rd_L2 T ((p - 1 : Nat) : Int) = (List.range (l.length + 1)).map (Dm l (p - 1))) :
    ∀ (d k i : Nat), i + d = l.length + 1 → d * 100 + 200 < k → p ≤ i → ∃ k', k - d * 100 - 1 ≤ k' ∧ impl_BestShares.l1 k l n (T.set p (rowTo l p i)) p i = impl_BestShares.l0 k' l n (T.set p ((List.range (l.length + 1)).map (Dm l p))) ((p + 1 : Nat) : Int) := by
  have hsm := cake_small hc
  obtain ⟨⟨hl1, hl2⟩, hv⟩ := cakeOk_iff.1 hc
  have hv0 : ∀ y ∈ l, 0 ≤ y := fun y hy => (hv y hy).1
  intro d
  induction d with
  | zero =>
    intro k i hi hk hpi
    obtain ⟨k, rfl⟩ : ∃ m, k = m + 1 := ⟨k - 1, by omega⟩
    have : i = l.length + 1 := by omega
    subst this
    refine ⟨k, by omega, ?_⟩
    rw [impl_BestShares.l1, if_neg (by omega), rowTo_full, w64 (n := (p : Int) + 1) (by omega) (by omega)]
    rfl
  | succ d ih =>
    intro k i hi hk hpi
    obtain ⟨k, rfl⟩ : ∃ m, k = m + 1 := ⟨k - 1, by omega⟩
    have hlen : (T.set p (rowTo l p i)).length = T.length := List.length_set
    have hrow : rd_L2 (T.set p (rowTo l p i)) (p : Int) = rowTo l p i := rdL2_set T p _ hp
    rw [impl_BestShares.l1, if_pos (by omega), hlen, hrow]
    by_cases h1 : p = 1
    · subst h1
      have hs := sumI_impl (l.take i) (hsm.take i) k (by simp; omega)
      rw [if_pos (c := (((1 : Nat) : Int) = 1)) (by omega), if_pos (by omega), if_pos (by omega), if_pos (by omega), Int.toNat_natCast, hs]
      simp only [Option.bind_some]
      rw [rowTo_len, if_pos (by omega), Int.toNat_natCast, List.set_set, w64 (n := (i : Int) + 1) (by omega) (by omega)]
      have e : (l.take i).sum = Dm l 1 i := rfl
      rw [e, rowTo_set]
      obtain ⟨k', hk', ih⟩ := ih k (i + 1) (by omega) (by omega) (by omega)
      refine ⟨k', by omega, ?_⟩
      rw [Int.natCast_add] at ih
      exact ih
    · rw [if_neg (by omega), w64 (n := (p : Int) - 1) (by omega) (by omega)]
      have e1 : (p : Int) - 1 = ((p - 1 : Nat) : Int) := by omega
      rw [e1, ← rowTo_at l p i (by omega), dp_inner hc n T (rowTo l p i) p i (by omega) hp (rowTo_len l p i) (by omega) hT (hprev (by omega)) (i - (p - 1)) k (p - 1) 0 (by omega) (by omega)]
      have eD : (List.range' (p - 1) (i - (p - 1))).foldl (fun b j => max b (min (Dm l (p - 1) j) (pre l i - pre l j))) 0 = Dm l p i := by
        match p, hp1, h1 with
        | p + 2, _, _ => rfl
      rw [eD, rowTo_set]
      obtain ⟨k', hk', ih⟩ := ih (k - (i - (p - 1)) - 1) (i + 1) (by omega) (by omega) (by omega)
      exact ⟨k', by omega, ih⟩
set_option maxRecDepth 100000 in
theorem dp_all {l : List Int} (hc : cakeOk l = true) (n : Nat) (hn : 1 ≤ n) (hn2 : n ≤ 10) :
    ∀ (d k p : Nat) (T : List (List Int)), p + d = n + 1 → d * 5000 + 200 < k → 1 ≤ p → T.length = n + 1 → (2 ≤ p → rd_L2 T ((p - 1 : Nat) : Int) = (List.range (l.length + 1)).map (Dm l (p - 1))) → impl_BestShares.l0 k l n T p = some (Dm l n l.length) := by
  obtain ⟨⟨hl1, hl2⟩, hv⟩ := cakeOk_iff.1 hc
  intro d
  induction d with
  | zero =>
    intro k p T hp hk hp1 hT hprev
    obtain ⟨k, rfl⟩ : ∃ m, k = m + 1 := ⟨k - 1, by omega⟩
    have : p = n + 1 := by omega
    subst this
    have e := hprev (by omega)
    rw [show n + 1 - 1 = n by omega] at e
    rw [impl_BestShares.l0, if_neg (by omega), if_pos (by omega), if_pos (by omega), if_pos (by omega), e, if_pos (by simp; omega)]
    congr 1
    simp [rd, List.getD_eq_getElem?_getD]
  | succ d ih =>
    intro k p T hp hk hp1 hT hprev
    obtain ⟨k, rfl⟩ : ∃ m, k = m + 1 := ⟨k - 1, by omega⟩
    have ew : wrap64 ((l.length : Int) + 1) = ((l.length + 1 : Nat) : Int) := by
      rw [w64 (by omega) (by omega)]
      omega
    rw [impl_BestShares.l0, if_pos (by omega), ew, if_pos (by omega), if_pos (by rw [Int.toNat_natCast]; omega), if_pos (by omega), if_pos (by omega), Int.toNat_natCast, Int.toNat_natCast, ← rowTo_start l p hp1 (Dm_start l p hp1)]
    by_cases hpl : p ≤ l.length + 1
    · obtain ⟨k', hk', e⟩ := dp_row hc (n : Int) T p hp1 (by omega) (by omega) hprev (l.length + 1 - p) k p (by omega) (by omega) (Nat.le_refl _)
      rw [e]
      exact ih k' (p + 1) _ (by omega) (by omega) (by omega) (by rw [List.length_set, hT]) (fun _ => by
        rw [show p + 1 - 1 = p by omega]
        exact rdL2_set T p _ (by omega))
    · have efull : rowTo l p p = (List.range (l.length + 1)).map (Dm l p) := by
        apply List.map_congr_left
        intro t ht
        rw [if_pos (by have := List.mem_range.1 ht; omega)]
      obtain ⟨k, rfl⟩ : ∃ m, k = m + 1 := ⟨k - 1, by omega⟩
      rw [impl_BestShares.l1, if_neg (by omega), efull, w64 (n := (p : Int) + 1) (by omega) (by omega)]
      exact ih k (p + 1) _ (by omega) (by omega) (by omega) (by rw [List.length_set, hT]) (fun _ => by
        rw [show p + 1 - 1 = p by omega]
        exact rdL2_set T p _ (by omega))
def bestShares (l : List Int) (n : Int) : Int := if cakeOk l = true ∧ (1 ≤ n ∧ n ≤ 10) ∧ n ≤ l.length then Dm l n.toNat l.length else -1
theorem shares_impl (l : List Int) (n : Int) (k : Nat) (hl : l.length ≤ 1000000000) (hk : 60000 < k) : impl_BestShares.f k l n = some (bestShares l n) := by
  simp only [impl_BestShares.f, cake_impl, in_impl, Option.bind_some, bestShares]
  obtain ⟨k, rfl⟩ : ∃ m, k = m + 1 := ⟨k - 1, by omega⟩
  by_cases h : cakeOk l = true
  · rw [if_pos h]
    by_cases h1 : 1 ≤ n ∧ n ≤ 10
    · rw [decide_eq_true h1, if_pos (c := true = true) rfl]
      by_cases h2 : n ≤ l.length
      · rw [decide_eq_false (by omega), impl_BestShares.j0, if_neg (by simp), if_pos (c := cakeOk l = true ∧ _) ⟨h, h1, h2⟩]
        have ew : wrap64 (n + 1) = ((n.toNat + 1 : Nat) : Int) := by
          rw [w64 (by omega) (by omega)]
          omega
        rw [ew, if_pos (by omega), if_pos (by rw [Int.toNat_natCast]; omega), Int.toNat_natCast]
        have := dp_all h n.toNat (by omega) (by omega) n.toNat k 1 (List.replicate (n.toNat + 1) []) (by omega) (by omega) (by omega) (by simp) (fun hh => by omega)
        rw [Int.toNat_of_nonneg (by omega)] at this
        exact this
      · rw [decide_eq_true (by omega), impl_BestShares.j0, if_pos rfl, if_neg (c := cakeOk l = true ∧ _) (fun hh => h2 hh.2.2)]
    · rw [decide_eq_false h1, if_neg (c := false = true) (by simp), impl_BestShares.j0, if_pos rfl, if_neg (c := cakeOk l = true ∧ _) (fun hh => h1 hh.2.1)]
  · rw [if_neg h, impl_BestShares.j0, if_pos rfl, if_neg (c := cakeOk l = true ∧ _) (fun hh => h hh.1)]
/-- The reference's cuts are the greedy ones. -/
theorem cuts_spec {l : List Int} (hc : cakeOk l = true) (x : Int) (hx : -1000000 ≤ x) (hx2 : x ≤ 1000000) (k : Nat) (hk : l.length < k) : spec_l31Cuts.f k l x = some (gr x l l.length).1 := by
  obtain ⟨⟨hl1, hl2⟩, hv⟩ := cakeOk_iff.1 hc
  unfold spec_l31Cuts.f
  have key : ∀ (d k i : Nat), i + d = l.length → d < k → (0 ≤ (gr x l i).2 ∧ (gr x l i).2 ≤ 1000 * i) → spec_l31Cuts.l0 k l x (gr x l i).1 (gr x l i).2 i = some (gr x l l.length).1 := by
    intro d
    induction d with
    | zero =>
      intro k i hi hk hb
      obtain ⟨k, rfl⟩ : ∃ m, k = m + 1 := ⟨k - 1, by omega⟩
      have : i = l.length := by omega
      subst this
      simp only [spec_l31Cuts.l0]
      rw [if_neg (by omega)]
    | succ d ih =>
      intro k i hi hk hb
      obtain ⟨k, rfl⟩ : ∃ m, k = m + 1 := ⟨k - 1, by omega⟩
      have hi2 : i < l.length := by omega
      have er : rd l (i : Int) = l.getD i 0 := rd_nat l i
      have eg : l.getD i 0 = l[i] := by simp [List.getD_eq_getElem?_getD, hi2]
      have hvi := hv _ (List.getElem_mem hi2)
      have hcb := cnt_bound x l i
      unfold cnt at hcb
      simp only [spec_l31Cuts.l0]
      rw [if_pos (by omega), if_pos (by omega), er, w64 (n := (gr x l i).2 + l.getD i 0) (by omega) (by omega), w64 (n := (i : Int) + 1) (by omega) (by omega)]
      have := ih k (i + 1) (by omega) (by omega)
      by_cases c : (gr x l i).2 + l.getD i 0 ≥ x
      · have e : gr x l (i + 1) = ((gr x l i).1 ++ [(i : Int) + 1], 0) := by rw [gr, if_pos c]
        rw [e] at this
        rw [if_pos c, if_pos (by omega)]
        exact this ⟨by simp only; omega, by simp only; omega⟩
      · have e : gr x l (i + 1) = ((gr x l i).1, (gr x l i).2 + l.getD i 0) := by rw [gr, if_neg c]
        rw [e] at this
        rw [if_neg c]
        exact this ⟨by simp only; omega, by simp only; omega⟩
  exact key l.length k 0 (by omega) hk ⟨Int.le_refl _, by show (0 : Int) ≤ _; omega⟩
/-- The reference's halving search finds the table's answer. -/
theorem shares_spec (l : List Int) (n : Int) (k : Nat) (hl : l.length ≤ 1000000000) (hk : l.length + 60000 < k) : spec_BestShares.f k l n = some (bestShares l n) := by
  simp only [spec_BestShares.f, cake_spec l k (by omega) (by omega), in_spec, Option.bind_some, bestShares]
  obtain ⟨k, rfl⟩ : ∃ m, k = m + 1 := ⟨k - 1, by omega⟩
  by_cases h : cakeOk l = true
  · rw [if_pos h]
    by_cases h1 : 1 ≤ n ∧ n ≤ 10
    · rw [decide_eq_true h1, if_pos (c := true = true) rfl]
      by_cases h2 : n ≤ l.length
      · rw [decide_eq_false (by omega), spec_BestShares.j0, if_neg (by simp), if_pos (c := cakeOk l = true ∧ _) ⟨h, h1, h2⟩, sumS_spec l (cake_small h) k (by omega)]
        simp only [Option.bind_some]
        obtain ⟨⟨hl1, hl2⟩, hv⟩ := cakeOk_iff.1 h
        have hv0 : ∀ y ∈ l, 0 ≤ y := fun y hy => (hv y hy).1
        obtain ⟨p, hp⟩ : ∃ p, n.toNat = p + 1 := ⟨n.toNat - 1, by omega⟩
        have hD := Dm_ok hv0 p l.length
        rw [pre_all] at hD
        have hs := (cake_parts h 0).2.2.2
        have iff : ∀ x : Int, 1 ≤ x → (x ≤ Dm l (p + 1) l.length ↔ p + 1 ≤ (gr x l l.length).1.length) := fun x hx => Dm_iff hx hv0 p l.length
        rw [hp]
        generalize Dm l (p + 1) l.length = D at hD iff
        have key : ∀ (d k : Nat) (lo hi : Int), hi - lo ≤ d → 0 ≤ lo → hi ≤ 40000 → lo ≤ D → D ≤ hi → d + 100 < k → spec_BestShares.l0 k l n lo hi = some D := by
          intro d
          induction d with
          | zero =>
            intro k lo hi hd h0 hh hlo hhi hk
            obtain ⟨k, rfl⟩ : ∃ m, k = m + 1 := ⟨k - 1, by omega⟩
            rw [spec_BestShares.l0, if_neg (by omega)]
            congr 1
            omega
          | succ d ih =>
            intro k lo hi hd h0 hh hlo hhi hk
            obtain ⟨k, rfl⟩ : ∃ m, k = m + 1 := ⟨k - 1, by omega⟩
            rw [spec_BestShares.l0]
            by_cases hlt : lo < hi
            · have em : wrap64 (Int.tdiv (wrap64 (wrap64 (lo + hi) + 1)) 2) = (lo + hi + 1) / 2 := by
                rw [w64 (n := lo + hi) (by omega) (by omega), w64 (n := lo + hi + 1) (by omega) (by omega), Int.tdiv_eq_ediv_of_nonneg (by omega), w64 (by omega) (by omega)]
              rw [if_pos hlt, em]
              have m1 : lo < (lo + hi + 1) / 2 := by omega
              have m2 : (lo + hi + 1) / 2 ≤ hi := by omega
              generalize (lo + hi + 1) / 2 = m at m1 m2
              rw [cuts_spec h m (by omega) (by omega) k (by omega)]
              simp only [Option.bind_some]
              have iffm := iff m (by omega)
              by_cases hm : m ≤ D
              · rw [if_pos (by have := iffm.1 hm; omega)]
                exact ih k m hi (by omega) (by omega) hh hm hhi (by omega)
              · rw [if_neg (by intro hh2; exact hm (iffm.2 (by omega))), w64 (n := m - 1) (by omega) (by omega)]
                exact ih k lo (m - 1) (by omega) h0 (by omega) hlo (by omega) (by omega)
            · rw [if_neg hlt]
              congr 1
              omega
        exact key 40000 k 0 l.sum (by omega) (by omega) hs hD.1 hD.2 (by omega)
      · rw [decide_eq_true (by omega), spec_BestShares.j0, if_pos rfl, if_neg (c := cakeOk l = true ∧ _) (fun hh => h2 hh.2.2)]
    · rw [decide_eq_false h1, if_neg (c := false = true) (by simp), spec_BestShares.j0, if_pos rfl, if_neg (c := cakeOk l = true ∧ _) (fun hh => h1 hh.2.1)]
  · rw [if_neg h, spec_BestShares.j0, if_pos rfl, if_neg (c := cakeOk l = true ∧ _) (fun hh => h hh.1)]

end Go.Proofs.Ytfalckmlbiiedaa.Lem
