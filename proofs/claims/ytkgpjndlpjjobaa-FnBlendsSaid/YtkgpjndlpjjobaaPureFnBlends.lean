/- FnBlends: a blend lies between its flours, and no two flours are cheaper: the law answers true at every draw; no condition. -/
import Derived.Test.YtkgpjndlpjjobaaQx0
import Derived.Test.YtkgpjndlpjjobaaQx4
import Derived.Test.YtkgpjndlpjjobaaQx5
import Derived.Test.YtkgpjndlpjjobaaQx23
import Derived.Test.YtkgpjndlpjjobaaLemblD
namespace Go.Proofs.Ytkgpjndlpjjobaa.Pure
open Go.RowKit Go.Proofs.Ytkgpjndlpjjobaa.Q Go.Proofs.YtkgpjndlpjjobaaW.PrintWords Go.Proofs.YtkgpjndlpjjobaaW.PrintLast Go.Proofs.YtkgpjndlpjjobaaW.PrintMore Go.Proofs.Ytkgpjndlpjjobaa.Lem
set_option linter.unusedVariables false
set_option linter.unusedSimpArgs false
theorem lit_strength (k : Nat) (hk : 50 < k) : impl_StrengthOf.f k [⟨100, 1, 5⟩, ⟨200, 1, 5⟩] [1, 1] = some 150 := by
  rw [strength_impl _ _ k (by decide) (by decide) (by simp only [List.length_cons, List.length_nil]; omega)]
  decide +kernel
theorem zeros_cost {l : List S42} (h : Flo l) (k : Nat) (hk : 50 < k) : impl_BlendCost.f k l (List.replicate l.length 0) = some 0 := by
  have h4 := h.2.1
  rw [cost_impl l _ k (by omega) (by simp; omega) (by simp; omega)]
  have hg : ∀ i, i < l.length → (List.replicate l.length (0 : Int)).getD i 0 = 0 := fun i hi => by simp [List.getD_eq_getElem?_getD, hi]
  have hk : kOk l (List.replicate l.length 0) = true := kOk_iff.2 ⟨h.ok, by simp, fun i hi => by
    rw [List.length_replicate] at hi
    rw [hg i hi]
    exact ⟨Int.le_refl _, (h.at hi).2.2.1⟩⟩
  unfold cost
  rw [if_pos hk, dot_sum, List.length_replicate]
  have e : (List.range l.length).map (fun i => (l.getD i z42).f1 * (List.replicate l.length (0 : Int)).getD i 0) = (List.range l.length).map (fun _ => (0 : Int)) := by
    apply List.map_congr_left
    intro i hi
    rw [hg i (List.mem_range.1 hi), Int.mul_zero]
  rw [e]
  have z : ∀ L : List Nat, (L.map (fun _ => (0 : Int))).sum = 0 := fun L => by
    induction L with
    | nil => rfl
    | cons x L ih => rw [List.map_cons, List.sum_cons, ih]; rfl
  rw [z]
theorem law_j4 {l : List S42} (h : Flo l) (k : Nat) (hk : 60 < k) : laws_FnBlends.j4 k l false = some true := by
  obtain ⟨k, rfl⟩ : ∃ m, k = m + 1 := ⟨k - 1, by omega⟩
  have h4 := h.2.1
  have e := zeros_cost h k (by omega)
  rw [laws_FnBlends.j4, if_neg (by decide), flours_impl, h.ok, Option.bind_some, if_pos rfl, if_pos (by omega), Int.toNat_natCast, if_pos (by omega), e, Option.bind_some, if_pos rfl, lit_strength k (by omega), Option.bind_some]
  rfl
theorem law_j2_no {l : List S42} (h : Flo l) (code : List Int) (hl : code.length ≤ 9223372036854775807) (hw : ∀ x ∈ code, (Lit.int .u8 x).wf = true) (k : Nat) (hk : 1000 < k) : laws_FnBlends.j2 k code l false = some true := by
  obtain ⟨k, rfl⟩ : ∃ m, k = m + 1 := ⟨k - 1, by omega⟩
  have h4 := h.2.1
  obtain ⟨v5, e5, p5, q5⟩ := at_ok code 5 (by omega) (by omega) hl hw
  obtain ⟨v6, e6, p6, q6⟩ := at_ok code 6 (by omega) (by omega) hl hw
  rw [laws_FnBlends.j2, if_neg (by decide), e5, Option.bind_some, e6, Option.bind_some]
  have t0 := Int.tmod_nonneg 20 p5
  have t1 := Int.tmod_lt_of_pos v5 (show (0 : Int) < 20 by decide)
  generalize Int.tmod v5 20 = q at t0 t1
  rw [w64 (n := 1 + q) (by omega) (by omega), w64 (n := 100 + v6) (by omega) (by omega)]
  obtain ⟨t, ht⟩ : ∃ t, t = 1 + q := ⟨_, rfl⟩
  obtain ⟨least, hls⟩ : ∃ least, least = 100 + v6 := ⟨_, rfl⟩
  rw [← ht, ← hls]
  have hc := cAll_le t l.length h4 (by omega)
  rw [cheap_impl l t least k (by omega) (by omega), Option.bind_some]
  rcases cheap_facts l t least h.ok (by omega) (by omega) with ⟨a, b, c, e⟩ | ⟨i, j, n, e, hij, hj, hn, hs, hm⟩
  · rw [e, if_neg (by simp)]
    have ez := zeros_cost h k (by omega)
    rw [flours_impl, h.ok, Option.bind_some, if_pos rfl, if_pos (by omega), Int.toNat_natCast, if_pos (by omega), ez, Option.bind_some, if_pos rfl, lit_strength k (by omega), Option.bind_some]
    rfl
  · rw [e]
    dsimp only
    rw [if_pos rfl, if_neg (by omega), if_neg (by omega), if_neg (by omega), if_neg (by omega), decide_eq_false (by omega)]
    obtain ⟨k, rfl⟩ : ∃ m, k = m + 1 := ⟨k - 1, by omega⟩
    obtain ⟨v7, e7, p7, q7⟩ := at_ok code 7 (by omega) (by omega) hl hw
    rw [laws_FnBlends.j3, if_neg (by decide), if_pos (by omega), Int.toNat_natCast, if_pos (by omega), Option.bind_some, List.length_replicate, if_pos (by omega), if_pos (by omega), if_pos (by omega), if_pos (by omega), Option.bind_some, Int.toNat_natCast, Int.toNat_natCast, w64 (n := t - (n : Int)) (by omega) (by omega)]
    have ek : ∀ m : Int, ((List.replicate l.length (0 : Int)).set i m).set j (t - m) = kil l.length i j t m := fun m => rfl
    rw [ek, strength_impl l _ k (by omega) (by rw [kil_len]; omega) (by rw [kil_len]; omega), Option.bind_some, if_neg hs, Option.bind_some, e7, Option.bind_some, w64 (n := t + 1) (by omega) (by omega), if_neg (by omega), List.length_replicate, if_pos (by omega), if_pos (by omega), Option.bind_some]
    have m0 := Int.tmod_nonneg (t + 1) p7
    have m1 := Int.tmod_lt_of_pos v7 (show 0 < t + 1 by omega)
    generalize Int.tmod v7 (t + 1) = m at m0 m1
    obtain ⟨m, rfl⟩ : ∃ m' : Nat, m = m' := ⟨m.toNat, by omega⟩
    rw [w64 (n := t - (m : Int)) (by omega) (by omega), ek, strength_impl l _ k (by omega) (by rw [kil_len]; omega) (by rw [kil_len]; omega), Option.bind_some]
    by_cases c : strength l (kil l.length i j t m) ≥ least
    · have hle := hm m (by omega) (by omega)
      rw [if_pos c, cost_impl l _ k (by omega) (by rw [kil_len]; omega) (by rw [kil_len]; omega), Option.bind_some, cost_impl l _ k (by omega) (by rw [kil_len]; omega) (by rw [kil_len]; omega), Option.bind_some, decide_eq_false (by omega)]
      exact law_j4 h k (by omega)
    · rw [if_neg c]
      exact law_j4 h k (by omega)
theorem law_end {l : List S42} (h : Flo l) (code : List Int) (hl : code.length ≤ 9223372036854775807) (hw : ∀ x ∈ code, (Lit.int .u8 x).wf = true) {ks : List Int} {low high sum cst : Int} (hi : Inv l l.length ks low high sum cst) (k : Nat) (hk : 1200 < k) : laws_FnBlends.l0 k code l ks low high sum cst l.length = some true := by
  obtain ⟨k, rfl⟩ : ∃ m, k = m + 1 := ⟨k - 1, by omega⟩
  have h4 := h.2.1
  have hlen := hi.len
  have hs := inv_strength h hi
  have hc := inv_cost h hi
  have b1 := hi.b1
  have hsum := hi.hs
  have hok := inv_ok h hi
  rw [laws_FnBlends.l0, if_neg (by omega), strength_impl l ks k (by omega) (by omega) (by omega), Option.bind_some]
  have j2 := law_j2_no h code hl hw
  have fin : ∀ k' : Nat, 1190 < k' → laws_FnBlends.j1 k' code l sum (strength l ks) false = some true := by
    intro k' hk'
    obtain ⟨k', rfl⟩ : ∃ m, k' = m + 1 := ⟨k' - 1, by omega⟩
    rw [laws_FnBlends.j1, if_neg (by decide)]
    by_cases c : sum > 0
    · obtain ⟨v, ev, hv⟩ := strong_ge l ks hok (by omega) k' (by omega)
      rw [if_pos c, hsum, ev, Option.bind_some, decide_eq_false (by omega)]
      exact j2 k' (by omega)
    · rw [if_neg c]
      exact j2 k' (by omega)
  have ec : (cost l ks != cst) = false := by rw [hc]; exact bne_self_eq_false _
  rcases hs with ⟨s0, s1⟩ | ⟨s0, s1, s2, s3⟩
  · have e1 : ((strength l ks == -1) != (sum == 0)) = false := by rw [s1, s0]; decide
    rw [e1, if_neg (by decide), if_neg (by omega), cost_impl l ks k (by omega) (by omega) (by omega), Option.bind_some, ec]
    exact fin k (by omega)
  · have n1 : (strength l ks == -1) = false := beq_eq_false_iff_ne.2 (by omega)
    have n2 : (sum == 0) = false := beq_eq_false_iff_ne.2 (by omega)
    rw [n1, n2, if_neg (by decide), if_pos (by omega), if_neg (by omega), if_neg (by omega), cost_impl l ks k (by omega) (by omega) (by omega), Option.bind_some, ec]
    exact fin k (by omega)
theorem law_l0 {l : List S42} (h : Flo l) (code : List Int) (hl : code.length ≤ 9223372036854775807) (hw : ∀ x ∈ code, (Lit.int .u8 x).wf = true) : ∀ (d i k : Nat) (ks : List Int) (low high sum cst : Int), i + d = l.length → 1200 + d < k → Inv l i ks low high sum cst → laws_FnBlends.l0 k code l ks low high sum cst i = some true := by
  intro d
  have h4 := h.2.1
  induction d with
  | zero =>
    intro i k ks low high sum cst hd hk hi
    have e : i = l.length := by omega
    subst e
    exact law_end h code hl hw hi k (by omega)
  | succ d ih =>
    intro i k ks low high sum cst hd hk hi
    obtain ⟨k, rfl⟩ : ∃ m, k = m + 1 := ⟨k - 1, by omega⟩
    have hil : i < l.length := by omega
    obtain ⟨v, ev, v0, v1⟩ := at_ok code i (by omega) (by omega) hl hw
    have hf := h.at hil
    have hlen := hi.len
    have b1 := hi.b1
    have b2 := hi.b2
    have er : rd_T42 l i = l.getD i z42 := rdIFlour l i
    have hr := fun n => @inv_step l h i hil ks low high sum cst n hi
    rw [laws_FnBlends.l0, if_pos (by omega), ev, Option.bind_some, if_pos (by omega), er]
    generalize l.getD i z42 = f at hf hr ⊢
    rw [w64 (n := f.f2 + 1) (by omega) (by omega), if_neg (by omega), if_pos (by omega), Option.bind_some]
    have m0 := Int.tmod_nonneg (f.f2 + 1) v0
    have m1 := Int.tmod_lt_of_pos v (show 0 < f.f2 + 1 by omega)
    generalize Int.tmod v (f.f2 + 1) = n at m0 m1 ⊢
    have mm := mul_small (a := f.f1) (b := n) (by omega) (by omega) m0 (by omega)
    rw [Int.mul_comm] at mm
    rw [w64 (n := sum + n) (by omega) (by omega), w64 (n := n * f.f1) (by omega) (by omega), w64 (n := cst + n * f.f1) (by omega) (by omega), w64 (n := (i : Int) + 1) (by omega) (by omega)]
    by_cases c : n > 0
    · rw [if_pos c, mnF]
      have ex : mx high f.f0 = max high f.f0 := by unfold mx; omega
      rw [ex]
      exact ih (i + 1) k _ _ _ _ _ (by omega) (by omega) (hr n ⟨m0, by omega⟩ _ _ (.inr ⟨rfl, rfl⟩))
    · rw [if_neg c]
      exact ih (i + 1) k _ _ _ _ _ (by omega) (by omega) (hr n ⟨m0, by omega⟩ _ _ (.inl ⟨by omega, rfl, rfl⟩))
theorem FnBlends : laws_FnBlends.Pure := by
  intro code ⟨hl, hw⟩
  have key : ∀ k : Nat, code.length + 2000 < k → laws_FnBlends.f k code = some true := by
    intro k hk
    have hl' : code.length ≤ 9223372036854775807 := hl
    unfold laws_FnBlends.f
    rw [big_eq, Option.bind_some]
    by_cases hb : (code.length : Int) > 1048576
    · rw [decide_eq_true hb, if_pos rfl]
    · rw [decide_eq_false hb, if_neg (by decide)]
      obtain ⟨l, e, h⟩ := drawFlours_ok code k (by omega) hl'
      rw [e, Option.bind_some]
      exact law_l0 h code hl' hw l.length 0 k [] 500 0 0 0 (by omega) (by have := h.2.1; omega) (inv_zero l)
  exact ⟨code.length + 2001, key _ (by omega)⟩

end Go.Proofs.Ytkgpjndlpjjobaa.Pure
