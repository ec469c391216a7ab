/- FnCakes: who chooses gets at least half, and who cuts loses nothing by the own cut: the law answers true at every draw; no condition. -/
import Derived.Test.YtfalckmlbiiedaaQx4
import Derived.Test.YtfalckmlbiiedaaQx8
import Derived.Test.YtfalckmlbiiedaaQx10
import Derived.Test.YtfalckmlbiiedaaQx11
import Derived.Test.YtfalckmlbiiedaaQx12
import Derived.Test.YtfalckmlbiiedaaLemcakesM
namespace Go.Proofs.Ytfalckmlbiiedaa.Pure
open Go.RowKit Go.Proofs.Ytfalckmlbiiedaa.Q Go.Proofs.YtfalckmlbiiedaaW.PrintWords Go.Proofs.YtfalckmlbiiedaaW.PrintLast Go.Proofs.YtfalckmlbiiedaaW.PrintMore Go.Proofs.Ytfalckmlbiiedaa.Lem
set_option linter.unusedVariables false
set_option linter.unusedSimpArgs false
/-- A share's parts, summed up. -/
theorem part_loop {a : List Int} (hc : cakeOk a = true) (T mm best fr i tt : Int) (c : List Int) (hfr : 0 ≤ fr) (hto : fr < tt ∧ tt ≤ a.length) (hgood : ¬ wrap64 ((pre a tt.toNat - pre a fr.toNat) * mm) < T) : ∀ (d k j : Nat), (j : Int) + d = tt → fr ≤ j → laws_FnCakes.l3 (k + 1 + d) a a.length T mm c best fr i tt (pre a j - pre a fr.toNat) j = laws_FnCakes.l2 k a a.length T mm c best tt (wrap64 (i + 1)) := by
  obtain ⟨⟨hl1, hl2⟩, hall⟩ := cakeOk_iff.1 hc
  have hpos : ∀ y ∈ a, 0 ≤ y := fun y hy => (hall y hy).1
  intro d
  induction d with
  | zero =>
    intro k j hj hfj
    have e : tt.toNat = j := by omega
    rw [e] at hgood
    rw [Nat.add_zero, laws_FnCakes.l3, if_neg (by omega), if_neg (by omega), if_neg hgood]
  | succ d ih =>
    intro k j hj hfj
    have e : k + 1 + (d + 1) = (k + 1 + d) + 1 := by omega
    have hp := pre_succ a j
    have h0 := pre_nonneg hpos fr.toNat
    have h1 := pre_le hpos (show fr.toNat ≤ j by omega)
    have h2 : pre a (j + 1) ≤ 40000 := by
      have := cake_parts hc (j + 1)
      unfold pre
      omega
    have hg := getD_nonneg hpos j
    rw [e, laws_FnCakes.l3, if_pos (by omega), if_pos (by omega), if_pos (by omega), if_pos (by omega), rd_nat, w64 (n := pre a j - pre a fr.toNat + a.getD j 0) (by omega) (by omega), w64 (n := (j : Int) + 1) (by omega) (by omega)]
    have e2 : pre a j - pre a fr.toNat + a.getD j 0 = pre a (j + 1) - pre a fr.toNat := by omega
    have e3 : (j : Int) + 1 = ((j + 1 : Nat) : Int) := by omega
    rw [e2, e3]
    exact ih k (j + 1) (by omega) (by omega)
theorem last_ok {a : List Int} (hc : cakeOk a = true) (T : Int) (hT : T = a.sum) (best mm : Int) (hb : wrap64 (best * mm) ≤ T) (k : Nat) (hk : 60000 < k) : ((impl_CakeOk.f a).bind fun t251 => (if t251 = true then ((impl_BestShares.f k a 1).bind fun t252 => (if t252 = T then (some (decide (wrap64 (best * mm) ≤ T))) else (some false))) else (some false))) = some true := by
  obtain ⟨⟨hl1, hl2⟩, hall⟩ := cakeOk_iff.1 hc
  rw [cake_impl, hc]
  simp only [Option.bind_some, if_true]
  rw [shares_impl a 1 k (by omega) hk]
  simp only [Option.bind_some]
  have e : bestShares a 1 = T := by
    unfold bestShares
    rw [if_pos ⟨hc, by omega, by omega⟩, hT]
    exact pre_all a
  rw [if_pos e, decide_eq_true hb]
/-- The shares that are told are fair. -/
theorem share_loop {a : List Int} (hc : cakeOk a = true) (m : Nat) (hm : 1 ≤ m ∧ m ≤ 10) (best : Int) (hb : wrap64 (best * m) ≤ a.sum) (E : List Int) (hE : E = (gr (fair a m) a a.length).1) (hlen : m ≤ E.length) : ∀ (r k i : Nat), i + r = m → r * 100 + 60100 < k → laws_FnCakes.l2 k a a.length a.sum m (E.take (m - 1)) best (fromJ E i) i = some true ∨ i = m ∧ laws_FnCakes.l2 k a a.length a.sum m (E.take (m - 1)) best a.length i = some true := by
  obtain ⟨⟨hl1, hl2⟩, hall⟩ := cakeOk_iff.1 hc
  have hpos : ∀ y ∈ a, 0 ≤ y := fun y hy => (hall y hy).1
  have h40 := cake_parts hc 0
  have hch := chain (x := fair a m) (l := a) a.length
  rw [← hE] at hch
  obtain ⟨c1, c2, c3, c4⟩ := hch
  have hfin : ∀ k, 60100 < k → ∀ fr : Int, laws_FnCakes.l2 k a a.length a.sum m (E.take (m - 1)) best fr m = some true := by
    intro k hk fr
    obtain ⟨k, rfl⟩ : ∃ q, k = q + 1 := ⟨k - 1, by omega⟩
    rw [laws_FnCakes.l2, if_neg (by omega)]
    exact last_ok hc a.sum rfl best m hb k (by omega)
  intro r
  induction r with
  | zero =>
    intro k i hi hk
    right
    have : i = m := by omega
    subst this
    exact ⟨rfl, hfin k (by omega) _⟩
  | succ r ih =>
    intro k i hi hk
    left
    have hmul : (r + 1) * 100 = r * 100 + 100 := by omega
    obtain ⟨x1, x2, x3, x4⟩ := c4 i (by omega)
    have hmono := pre_le hpos (show (E.getD i 0).toNat ≤ a.length by omega)
    have hpa := pre_all a
    have h0 := pre_nonneg hpos (fromJ E i).toNat
    obtain ⟨tt, hto⟩ : ∃ tt : Int, tt = if i < m - 1 then E.getD i 0 else (a.length : Int) := ⟨_, rfl⟩
    have hto2 : fromJ E i < tt ∧ tt ≤ a.length ∧ pre a tt.toNat - pre a (fromJ E i).toNat ≥ fair a m := by
      rw [hto]
      by_cases c : i < m - 1
      · rw [if_pos c]
        exact ⟨x2, x3, x4⟩
      · rw [if_neg c, Int.toNat_natCast]
        exact ⟨by omega, Int.le_refl _, by omega⟩
    have hle : pre a tt.toNat ≤ 40000 := by
      have := cake_parts hc tt.toNat
      unfold pre
      omega
    have hge : 0 ≤ pre a tt.toNat - pre a (fromJ E i).toNat := by
      have := pre_le hpos (show (fromJ E i).toNat ≤ tt.toNat by omega)
      omega
    have hfair : (pre a tt.toNat - pre a (fromJ E i).toNat) * (m : Int) ≥ a.sum := (fair_iff (by omega)).1 hto2.2.2
    have hmb : (pre a tt.toNat - pre a (fromJ E i).toNat) * (m : Int) ≤ 40000 * 10 := Int.mul_le_mul (by omega) (by omega) (by omega) (by omega)
    have hgood : ¬ wrap64 ((pre a tt.toNat - pre a (fromJ E i).toNat) * m) < a.sum := by
      rw [w64 (by omega) (by omega)]
      omega
    obtain ⟨d, hd⟩ : ∃ d : Nat, fromJ E i + d = tt := ⟨(tt - fromJ E i).toNat, by omega⟩
    have hd40 : d ≤ 40 := by omega
    obtain ⟨k, rfl⟩ : ∃ q, k = q + 1 + d + 1 + 1 := ⟨k - 3 - d, by omega⟩
    obtain ⟨f, hf⟩ : ∃ f : Nat, fromJ E i = (f : Int) := ⟨(fromJ E i).toNat, by omega⟩
    have P := part_loop hc a.sum m best (fromJ E i) i tt (E.take (m - 1)) x1 ⟨hto2.1, hto2.2.1⟩ hgood d k f (by omega) (by omega)
    have e0 : pre a f - pre a (fromJ E i).toNat = 0 := by
      have : (fromJ E i).toNat = f := by omega
      rw [this]
      omega
    rw [e0] at P
    have hmx : mx 0 (fromJ E i) = (f : Int) := by
      rw [mx_eq]
      omega
    have hnext : tt = fromJ E (i + 1) ∨ i + 1 = m := by
      by_cases c : i < m - 1
      · left
        rw [hto, if_pos c]
        unfold fromJ
        rw [if_neg (by omega), Nat.add_sub_cancel]
      · right
        omega
    have hend : laws_FnCakes.l2 k a a.length a.sum m (E.take (m - 1)) best tt ((i + 1 : Nat) : Int) = some true := by
      by_cases c : i + 1 = m
      · rw [c]
        exact hfin k (by omega) tt
      · rcases hnext with h | h
        · rw [h]
          rcases ih k (i + 1) (by omega) (by omega) with g | ⟨g, _⟩
          · exact g
          · exact absurd g c
        · exact absurd h c
    have ew : wrap64 ((i : Int) + 1) = ((i + 1 : Nat) : Int) := by rw [w64 (by omega) (by omega)]; omega
    rw [ew] at P
    clear ew
    rw [laws_FnCakes.l2, if_pos (by omega), w64 (n := (m : Int) - 1) (by omega) (by omega)]
    by_cases c : i < m - 1
    · have hg : (E.take (m - 1)).getD i 0 = E.getD i 0 := by
        rw [List.getD_eq_getElem?_getD, List.getElem?_take, if_pos c, ← List.getD_eq_getElem?_getD]
      rw [if_pos (by omega), if_pos (by omega), if_pos (by rw [List.length_take]; omega), rd_nat, hg, laws_FnCakes.j5, hmx]
      rw [if_pos c] at hto
      rw [← hto, P]
      exact hend
    · rw [if_neg (by omega), laws_FnCakes.j5, hmx]
      rw [if_neg c] at hto
      subst hto
      rw [P]
      exact hend
theorem tail_ok (l a : List Int) (hc : cakeOk a = true) (v : Int) (hw : ∃ t, laws_at.f l 0 = some t ∧ 0 ≤ t ∧ t ≤ 255) (k : Nat) (hk : 65000 < k) : ((laws_at.f l 0).bind fun t245 => ((impl_Shares.f k a (wrap64 (1 + (Int.tmod t245 4)))).bind fun bt246 => ((impl_BestShares.f k a (wrap64 (1 + (Int.tmod t245 4)))).bind fun t250 => (if ((t250 == (-1)) != (decide ((a.length : Int) < (wrap64 (1 + (Int.tmod t245 4)))))) = true then (laws_FnCakes.j3 k a a.length a.sum (wrap64 (1 + (Int.tmod t245 4))) bt246.1 bt246.2 t250 true) else (if t250 ≥ 0 then (laws_FnCakes.j3 k a a.length a.sum (wrap64 (1 + (Int.tmod t245 4))) bt246.1 bt246.2 t250 (bt246.2 != (decide ((wrap64 (t250 * (wrap64 (1 + (Int.tmod t245 4))))) ≥ a.sum)))) else (laws_FnCakes.j3 k a a.length a.sum (wrap64 (1 + (Int.tmod t245 4))) bt246.1 bt246.2 t250 (bt246.2 != false))))))) = some true := by
  obtain ⟨⟨hl1, hl2⟩, hall⟩ := cakeOk_iff.1 hc
  obtain ⟨t, ht, t0, t1⟩ := hw
  have h40 := cake_parts hc 0
  rw [ht]
  simp only [Option.bind_some]
  have hm1 : 0 ≤ Int.tmod t 4 := Int.tmod_nonneg _ t0
  have hm2 : Int.tmod t 4 < 4 := Int.tmod_lt_of_pos _ (by omega)
  rw [w64 (n := 1 + Int.tmod t 4) (by omega) (by omega)]
  obtain ⟨m, hm⟩ : ∃ m : Nat, 1 + Int.tmod t 4 = (m : Int) := ⟨(1 + Int.tmod t 4).toNat, by omega⟩
  rw [hm, sharesV_impl a m k (by omega), shares_impl a m k (by omega) (by omega)]
  simp only [Option.bind_some]
  obtain ⟨b1, b2, b3, b4⟩ := best_facts hc m (by omega)
  have hmulb : -10 ≤ bestShares a m * (m : Int) := by
    by_cases c : bestShares a m = -1
    · rw [c]; omega
    · have : 0 ≤ bestShares a m * (m : Int) := Int.mul_nonneg (by omega) (by omega)
      omega
  have hwb : wrap64 (bestShares a m * (m : Int)) = bestShares a m * (m : Int) := w64 (by omega) (by omega)
  have hfirst : ((bestShares a m == (-1)) != decide ((a.length : Int) < (m : Int))) = false := by
    have : (bestShares a m == (-1)) = decide ((a.length : Int) < (m : Int)) := by
      rw [Bool.eq_iff_iff, beq_iff_eq, decide_eq_true_iff, b1]
      omega
    rw [this, bne_self_eq_false]
  rw [hfirst, if_neg (by simp), hwb]
  have hj3 : laws_FnCakes.j3 k a a.length a.sum m (sharesV a m).1 (sharesV a m).2 (bestShares a m) false = some true := by
    obtain ⟨k, rfl⟩ : ∃ q, k = q + 1 := ⟨k - 1, by omega⟩
    rw [laws_FnCakes.j3, if_neg (by simp)]
    by_cases c : (sharesV a m).2 = true
    · rw [if_pos c, w64 (n := (m : Int) - 1) (by omega) (by omega)]
      have hv : sharesV a m = shares a m := by
        unfold sharesV
        rw [if_pos ⟨hc, by omega⟩, Int.toNat_natCast]
      rw [hv] at c ⊢
      unfold shares at c ⊢
      by_cases c2 : (gr (fair a m) a a.length).1.length < m
      · rw [if_pos c2] at c
        exact absurd c (by simp)
      · rw [if_neg c2]
        dsimp only
        rw [if_pos (by rw [List.length_take]; omega)]
        have S := share_loop hc m (by omega) (bestShares a m) (by rw [hwb]; exact b4) _ rfl (by omega) m k 0 (by omega) (by omega)
        rcases S with S | ⟨S, _⟩
        · have e0 : fromJ (gr (fair a m) a a.length).1 0 = 0 := rfl
          rw [e0] at S
          exact S
        · omega
    · rw [if_neg c]
      exact last_ok hc a.sum rfl (bestShares a m) m (by rw [hwb]; exact b4) k (by omega)
  by_cases c : bestShares a m ≥ 0
  · rw [if_pos c]
    have : ((sharesV a m).2 != decide (bestShares a m * (m : Int) ≥ a.sum)) = false := by
      rw [b3]
      have : decide (bestShares a m ≥ 0 ∧ bestShares a m * (m : Int) ≥ a.sum) = decide (bestShares a m * (m : Int) ≥ a.sum) := by
        rw [decide_eq_decide]
        exact ⟨fun h => h.2, fun h => ⟨c, h⟩⟩
      rw [this, bne_self_eq_false]
    rw [this]
    exact hj3
  · rw [if_neg c]
    have : ((sharesV a m).2 != false) = false := by
      rw [b3, decide_eq_false (fun h => c h.1)]
      rfl
    rw [this]
    exact hj3
theorem prefix_loop (l a : List Int) (hc : cakeOk a = true) (hw : ∃ t, laws_at.f l 0 = some t ∧ 0 ≤ t ∧ t ≤ 255) : ∀ (d k i : Nat), i + d = a.length → d + 65001 < k → laws_FnCakes.l1 k l a a.length (half a).2 a.sum (pre a i) i = some true := by
  obtain ⟨⟨hl1, hl2⟩, hall⟩ := cakeOk_iff.1 hc
  have hpos : ∀ y ∈ a, 0 ≤ y := fun y hy => (hall y hy).1
  intro d
  induction d with
  | zero =>
    intro k i hi hk
    obtain ⟨k, rfl⟩ : ∃ q, k = q + 1 := ⟨k - 1, by omega⟩
    rw [laws_FnCakes.l1, if_neg (by omega)]
    exact tail_ok l a hc (half a).2 hw k (by omega)
  | succ d ih =>
    intro k i hi hk
    obtain ⟨k, rfl⟩ : ∃ q, k = q + 1 := ⟨k - 1, by omega⟩
    have hp := pre_succ a i
    have h0 := pre_nonneg hpos i
    have hg := getD_nonneg hpos i
    have hcp := cake_parts hc (i + 1)
    have hmax := half_max hc (i + 1) (by omega)
    have e2 : pre a i + a.getD i 0 = pre a (i + 1) := by omega
    have e3 : (a.drop (i + 1)).sum = a.sum - pre a (i + 1) := end_sum a (i + 1)
    have e4 : (a.take (i + 1)).sum = pre a (i + 1) := rfl
    rw [e3, e4] at hmax
    rw [e4, e3] at hcp
    rw [laws_FnCakes.l1, if_pos (by omega), if_pos (by omega), if_pos (by omega), rd_nat, e2, w64 (n := pre a (i + 1)) (by omega) (by omega), w64 (n := a.sum - pre a (i + 1)) (by omega) (by omega), mn_eq, if_neg (by omega), w64 (n := (i : Int) + 1) (by omega) (by omega)]
    exact ih k (i + 1) (by omega) (by omega)
theorem sums_loop (l a b : List Int) (hc : cakeOk a = true) (hcb : cakeOk b = true) (hab : a.length = b.length) (hw : ∃ t, laws_at.f l 0 = some t ∧ 0 ≤ t ∧ t ≤ 255) (q : Nat) (hq : (half a).1 = q) : ∀ (d k i : Nat), i + d = a.length → d + 66000 < k → laws_FnCakes.l0 k l a b a.length (half a).1 (half a).2 (Lem.choose a b).1 (Lem.choose a b).2 (pre a i) (pre b i) (pre a (min i q)) i = some true := by
  obtain ⟨⟨hl1, hl2⟩, hall⟩ := cakeOk_iff.1 hc
  obtain ⟨_, hallb⟩ := cakeOk_iff.1 hcb
  have hpos : ∀ y ∈ a, 0 ≤ y := fun y hy => (hall y hy).1
  have hposb : ∀ y ∈ b, 0 ≤ y := fun y hy => (hallb y hy).1
  obtain ⟨h1, h2, h3⟩ := half_in hc
  rw [hq, Int.toNat_natCast] at h3
  rw [hq] at h1 h2
  intro d
  induction d with
  | zero =>
    intro k i hi hk
    obtain ⟨k, rfl⟩ : ∃ q, k = q + 1 + 1 := ⟨k - 2, by omega⟩
    have hin : i = a.length := by omega
    have hmin : min i q = q := by omega
    have hcp := cake_parts hc q
    have hcpb := cake_parts hcb q
    have e3 : (a.drop q).sum = a.sum - pre a q := end_sum a q
    have e4 : (a.take q).sum = pre a q := rfl
    have e5 : (b.drop q).sum = b.sum - pre b q := end_sum b q
    have e6 : (b.take q).sum = pre b q := rfl
    have ea : pre a i = a.sum := by rw [hin]; exact pre_all a
    have eb : pre b i = b.sum := by rw [hin, hab]; exact pre_all b
    have hch : (half a).2 ≤ (Lem.choose a b).1 ∧ b.sum ≤ 2 * (Lem.choose a b).2 ∧ (Lem.choose a b).1 ≤ a.sum ∧ 0 ≤ (Lem.choose a b).2 ∧ (Lem.choose a b).2 ≤ 40000 := by
      unfold Lem.choose
      rw [if_pos ⟨hc, hcb, hab⟩, hq, Int.toNat_natCast, e3, e4, e5, e6]
      rw [e3, e4] at h3 hcp
      rw [e5, e6] at hcpb
      by_cases c : pre b q ≥ b.sum - pre b q
      · rw [if_pos c]
        dsimp only
        omega
      · rw [if_neg c]
        dsimp only
        omega
    obtain ⟨x1, x2, x3, x4, x5⟩ := hch
    rw [e3, e4] at h3 hcp
    rw [hmin, ea, eb, hq, laws_FnCakes.l0, if_neg (by omega), if_neg (by omega), if_neg (by omega), w64 (n := a.sum - pre a q) (by omega) (by omega), mn_eq, if_pos h3, if_neg (by omega), w64 (n := 2 * (Lem.choose a b).2) (by omega) (by omega), if_neg (by omega), decide_eq_false (by omega), laws_FnCakes.j1, if_neg (by simp)]
    have P := prefix_loop l a hc hw a.length k 0 (by omega) (by omega)
    have e0 : pre a 0 = 0 := rfl
    have e1 : ((0 : Nat) : Int) = 0 := rfl
    rw [e0, e1] at P
    exact P
  | succ d ih =>
    intro k i hi hk
    obtain ⟨k, rfl⟩ : ∃ q, k = q + 1 := ⟨k - 1, by omega⟩
    have hp := pre_succ a i
    have hpb := pre_succ b i
    have h0 := pre_nonneg hpos i
    have h0b := pre_nonneg hposb i
    have hg := getD_nonneg hpos i
    have hgb := getD_nonneg hposb i
    have hcp : pre a (i + 1) ≤ 40000 := by
      have := cake_parts hc (i + 1)
      unfold pre
      omega
    have hcpb : pre b (i + 1) ≤ 40000 := by
      have := cake_parts hcb (i + 1)
      unfold pre
      omega
    have hm0 := pre_nonneg hpos (min i q)
    have hm1 := pre_le hpos (show min i q ≤ i by omega)
    have ea : pre a i + a.getD i 0 = pre a (i + 1) := by omega
    have eb : pre b i + b.getD i 0 = pre b (i + 1) := by omega
    have e3 : (i : Int) + 1 = ((i + 1 : Nat) : Int) := by omega
    rw [laws_FnCakes.l0, if_pos (by omega), if_pos (by omega), if_pos (by omega), if_pos (by omega), rd_nat, rd_nat, ea, eb, w64 (n := pre a (i + 1)) (by omega) (by omega), w64 (n := pre b (i + 1)) (by omega) (by omega), w64 (n := (i : Int) + 1) (by omega) (by omega), e3]
    by_cases c : i < q
    · rw [if_pos (by omega)]
      have em : min i q = i := by omega
      have em2 : min (i + 1) q = i + 1 := by omega
      have I := ih k (i + 1) (by omega) (by omega)
      rw [em2] at I
      rw [em, ea, w64 (n := pre a (i + 1)) (by omega) (by omega)]
      exact I
    · rw [if_neg (by omega)]
      have em : min i q = q := by omega
      have em2 : min (i + 1) q = q := by omega
      have I := ih k (i + 1) (by omega) (by omega)
      rw [em2] at I
      rw [em]
      exact I
theorem FnCakes : laws_FnCakes.Pure := by
  intro l ⟨hl, hw⟩
  unfold maxLen at hl
  obtain ⟨K, hK⟩ : ∃ K, K = l.length + 70000 := ⟨_, rfl⟩
  refine ⟨K, ?_⟩
  unfold laws_FnCakes.f
  rw [big_eq]
  simp only [Option.bind_some]
  by_cases hb : (l.length : Int) > 1048576
  · rw [decide_eq_true hb]
    rfl
  rw [decide_eq_false hb]
  simp only [Bool.false_eq_true, if_false]
  obtain ⟨a, b, e1, hca, hcb, hab, h10⟩ := draw_cakes l (by omega) K (by omega)
  obtain ⟨t, ht, t0, t1⟩ := at_ok l 0 (by omega) (by omega) (by omega) hw
  rw [e1]
  simp only [Option.bind_some]
  rw [half_impl a K (by omega) (by omega)]
  simp only [Option.bind_some]
  rw [choose_impl a b K (by omega) (by omega) (by omega)]
  simp only [Option.bind_some]
  obtain ⟨h1, h2, _⟩ := half_in hca
  obtain ⟨q, hq⟩ : ∃ q : Nat, (half a).1 = q := ⟨(half a).1.toNat, by omega⟩
  have S := sums_loop l a b hca hcb hab ⟨t, ht, t0, t1⟩ q hq a.length K 0 (by omega) (by omega)
  have e0 : pre a 0 = 0 := rfl
  have e0b : pre b 0 = 0 := rfl
  have em : min 0 q = 0 := by omega
  have e2 : ((0 : Nat) : Int) = 0 := rfl
  rw [em, e0, e0b, e2] at S
  exact S

end Go.Proofs.Ytfalckmlbiiedaa.Pure
