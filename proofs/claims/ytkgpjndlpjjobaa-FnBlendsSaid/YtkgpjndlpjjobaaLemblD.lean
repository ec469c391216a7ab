/- Plain lemmas on the printed functions: what they compute; conditions stand in each lemma. -/
import Derived.Test.YtkgpjndlpjjobaaQx0
import Derived.Test.YtkgpjndlpjjobaaQx1
import Derived.Test.YtkgpjndlpjjobaaQx2
import Derived.Test.YtkgpjndlpjjobaaQx3
import Derived.Test.YtkgpjndlpjjobaaQx4
import Derived.Test.YtkgpjndlpjjobaaQx5
import Derived.Test.YtkgpjndlpjjobaaQx6
import Derived.Test.YtkgpjndlpjjobaaQx7
import Derived.Test.YtkgpjndlpjjobaaQx8
import Derived.Test.YtkgpjndlpjjobaaQx9
import Derived.Test.YtkgpjndlpjjobaaQx10
import Derived.Test.YtkgpjndlpjjobaaQx11
import Derived.Test.YtkgpjndlpjjobaaQx15
import Derived.Test.YtkgpjndlpjjobaaQx21
import Derived.Test.YtkgpjndlpjjobaaQx22
import Derived.Laws.BitsLemmas
namespace Go.Proofs.Ytkgpjndlpjjobaa.Lem
open Go.RowKit Go.Proofs.Ytkgpjndlpjjobaa.Q Go.Proofs.YtkgpjndlpjjobaaW.PrintWords Go.Proofs.YtkgpjndlpjjobaaW.PrintLast Go.Proofs.YtkgpjndlpjjobaaW.PrintMore
set_option linter.unusedVariables false
set_option linter.unusedSimpArgs false
-- LEM
theorem rd_nat (l : List Int) (i : Nat) : rd l (i : Int) = l.getD i 0 := by simp [rd]
theorem w64 {n : Int} (h : -9223372036854775808 ≤ n) (h2 : n ≤ 9223372036854775807) : wrap64 n = n := by
  unfold wrap64
  omega
theorem w64s {i : Int} {n : Nat} (h0 : 0 ≤ i) (h1 : i < (n : Int)) (hn : n ≤ 9223372036854775807) : wrap64 (i + 1) = i + 1 := by
  unfold wrap64
  omega
/-- A loop that only asks whether all places pass. -/
theorem run_all {R : Type} (L : Nat → Int → Option R) (n : Nat) (hn : n ≤ 9223372036854775807) (p : Nat → Bool) (no : R) (fin : Option R)
    (h1 : ∀ k (i : Nat), i < n → L (k + 1) i = if p i = true then L k (wrap64 ((i : Int) + 1)) else some no)
    (h2 : ∀ k, L (k + 1) n = fin) (k : Nat) (hk : n < k) : L k 0 = if (List.range n).all p then fin else some no := by
  have key : ∀ (d k i : Nat), i + d = n → d < k → L k i = if (List.range' i d).all p then fin else some no := by
    intro d
    induction d with
    | zero =>
      intro k i hd hk
      obtain ⟨k, rfl⟩ : ∃ m, k = m + 1 := ⟨k - 1, by omega⟩
      have : i = n := by omega
      subst this
      simpa using h2 k
    | succ d ih =>
      intro k i hd hk
      obtain ⟨k, rfl⟩ : ∃ m, k = m + 1 := ⟨k - 1, by omega⟩
      rw [h1 k i (by omega), w64s (n := n) (by omega) (by omega) hn, List.range'_succ, List.all_cons]
      by_cases hp : p i = true
      · have := ih k (i + 1) (by omega) (by omega)
        simp only [hp, if_true, Bool.true_and]
        simpa using this
      · simp [hp]
  have := key n k 0 (by omega) hk
  rw [List.range_eq_range']
  simpa using this
theorem foldl_range_getD {α σ : Type} (l : List α) (d : α) (f : σ → α → σ) (s : σ) : (List.range' 0 l.length).foldl (fun s i => f s (l.getD i d)) s = l.foldl f s := by
  have : l = (List.range' 0 l.length).map (fun i => l.getD i d) := by
    apply List.ext_getElem
    · simp
    · intro i h1 h2
      simp [List.getD_eq_getElem?_getD, h1]
  conv => rhs; rw [this, List.foldl_map]
theorem map_range_getD {α β : Type} (l : List α) (d : α) (f : α → β) : (List.range l.length).map (fun i => f (l.getD i d)) = l.map f := by
  apply List.ext_getElem
  · simp
  · intro i h1 h2
    simp at h1
    simp [List.getD_eq_getElem?_getD, h1]
/-- A loop over the places 0 .. n with a state, what it calls wanting more than B rounds, and what holds of the state at each place. -/
theorem loop_fold {σ R : Type} (L : Nat → Int → σ → Option R) (n B : Nat) (hn : n ≤ 9223372036854775807) (P : Nat → σ → Prop) (step : σ → Nat → σ) (fin : σ → Option R)
    (h1 : ∀ k (i : Nat) s, B < k → i < n → P i s → L (k + 1) i s = L k (wrap64 ((i : Int) + 1)) (step s i))
    (hP : ∀ (i : Nat) s, i < n → P i s → P (i + 1) (step s i))
    (h2 : ∀ k s, B < k → P n s → L (k + 1) n s = fin s) (k : Nat) (s : σ) (h0 : P 0 s) (hk : n + B + 1 < k) :
    L k 0 s = fin ((List.range n).foldl step s) ∧ P n ((List.range n).foldl step s) := by
  have key : ∀ (d k i : Nat) (s : σ), i + d = n → d + B + 1 < k → P i s → L k i s = fin ((List.range' i d).foldl step s) ∧ P n ((List.range' i d).foldl step s) := by
    intro d
    induction d with
    | zero =>
      intro k i s hd hk hp
      obtain ⟨k, rfl⟩ : ∃ m, k = m + 1 := ⟨k - 1, by omega⟩
      have : i = n := by omega
      subst this
      exact ⟨by simpa using h2 k s (by omega) hp, by simpa using hp⟩
    | succ d ih =>
      intro k i s hd hk hp
      obtain ⟨k, rfl⟩ : ∃ m, k = m + 1 := ⟨k - 1, by omega⟩
      rw [h1 k i s (by omega) (by omega) hp, w64s (n := n) (by omega) (by omega) hn]
      have := ih k (i + 1) (step s i) (by omega) (by omega) (hP i s (by omega) hp)
      rw [List.range'_succ, List.foldl_cons]
      simpa using this
  have := key n k 0 s (by omega) (by omega) h0
  rw [List.range_eq_range']
  simpa using this
theorem foldl_range_getD' {α σ : Type} (l : List α) (d : α) (f : σ → α → σ) (s : σ) : (List.range l.length).foldl (fun s i => f s (l.getD i d)) s = l.foldl f s := by
  rw [List.range_eq_range']
  exact foldl_range_getD l d f s
/-- A loop from place i to n inside of a greater text: what it costs, and where it goes on. -/
theorem seg {σ R : Type} (L : Nat → Int → σ → Option R) (L' : Nat → σ → Option R) (n B : Nat) (C : Nat → Nat) (P : Nat → σ → Prop) (step : σ → Nat → σ)
    (h1 : ∀ k (i : Nat) s, B < k → i < n → P i s → L (k + C i) i s = L k ((i : Int) + 1) (step s i))
    (hP : ∀ (i : Nat) s, i < n → P i s → P (i + 1) (step s i))
    (h2 : ∀ k s, B < k → P n s → L (k + 1) n s = L' k s) :
    ∀ (d i k : Nat) (s : σ), i + d = n → B < k → P i s → L (k + 1 + ((List.range' i d).map C).sum) i s = L' k ((List.range' i d).foldl step s) ∧ P n ((List.range' i d).foldl step s) := by
  intro d
  induction d with
  | zero =>
    intro i k s hd hk hp
    have : i = n := by omega
    subst this
    exact ⟨by simpa using h2 k s hk hp, by simpa using hp⟩
  | succ d ih =>
    intro i k s hd hk hp
    rw [List.range'_succ, List.map_cons, List.sum_cons, List.foldl_cons]
    have e : k + 1 + (C i + ((List.range' (i + 1) d).map C).sum) = (k + 1 + ((List.range' (i + 1) d).map C).sum) + C i := by omega
    rw [e, h1 _ i s (by omega) (by omega) hp]
    have := ih (i + 1) k (step s i) (by omega) hk (hP i s (by omega) hp)
    simpa using this
theorem in_impl (a b c : Int) : impl_in.f a b c = some (decide (b ≤ a ∧ a ≤ c)) := by
  unfold impl_in.f
  by_cases h : b ≤ a <;> simp [h]
theorem rdIFlour (l : List S42) (i : Nat) : rd_T42 l (i : Int) = l.getD i z42 := by simp [rd_T42]
def flOk (f : S42) : Bool := decide ((50 ≤ f.f0 ∧ f.f0 ≤ 500) ∧ (1 ≤ f.f1 ∧ f.f1 ≤ 100) ∧ 0 ≤ f.f2 ∧ f.f2 ≤ 100)
theorem flOk_iff {f : S42} : flOk f = true ↔ (50 ≤ f.f0 ∧ f.f0 ≤ 500) ∧ (1 ≤ f.f1 ∧ f.f1 ≤ 100) ∧ 0 ≤ f.f2 ∧ f.f2 ≤ 100 := by simp [flOk]
def floursOk (l : List S42) : Bool := decide (1 ≤ l.length ∧ l.length ≤ 5) && l.all flOk
theorem floursOk_iff {l : List S42} : floursOk l = true ↔ (1 ≤ l.length ∧ l.length ≤ 5) ∧ ∀ f ∈ l, flOk f = true := by simp [floursOk, List.all_eq_true]
theorem flour_one (a b c : Int) : impl_FloursOk_1.f a b c = some (!flOk ⟨a, b, c⟩) := by
  simp only [impl_FloursOk_1.f, in_impl, Option.bind_some, flOk]
  by_cases h : 50 ≤ a ∧ a ≤ 500
  · rw [decide_eq_true h, if_pos rfl]
    by_cases h2 : 1 ≤ b ∧ b ≤ 100
    · rw [decide_eq_true h2, if_pos rfl]
      simp [h, h2]
    · rw [decide_eq_false h2, if_neg (by simp), decide_eq_false (fun hh => h2 hh.2.1)]
      rfl
  · rw [decide_eq_false h, if_neg (by simp), decide_eq_false (fun hh => h hh.1)]
    rfl
theorem flours_impl (l : List S42) : impl_FloursOk.f l = some (floursOk l) := by
  have e : impl_Flour_30.pred = fun x => !flOk x := by
    funext x
    simp only [impl_Flour_30.pred, flour_one]
    cases flOk x <;> simp
  simp only [impl_FloursOk.f, in_impl, impl_Flour_30.f, Option.bind_some, floursOk, e]
  by_cases h : (1 : Int) ≤ l.length ∧ (l.length : Int) ≤ 5
  · rw [decide_eq_true h, if_pos rfl, decide_eq_true (by omega), Bool.true_and]
    congr 1
    rw [List.any_eq_not_all_not]
    simp
  · rw [decide_eq_false h, if_neg (by simp), decide_eq_false (by omega), Bool.false_and]
def kOk (l : List S42) (ks : List Int) : Bool := floursOk l && decide (ks.length = l.length) && (List.range ks.length).all fun i => decide (0 ≤ ks.getD i 0 ∧ ks.getD i 0 ≤ (l.getD i z42).f2)
theorem kOk_iff {l : List S42} {ks : List Int} : kOk l ks = true ↔ floursOk l = true ∧ ks.length = l.length ∧ ∀ i, i < ks.length → 0 ≤ ks.getD i 0 ∧ ks.getD i 0 ≤ (l.getD i z42).f2 := by
  simp [kOk, List.all_eq_true, and_assoc]
theorem k_impl (l : List S42) (ks : List Int) (k : Nat) (hl : l.length ≤ 1000000000) (hks : ks.length ≤ 1000000000) (hk : l.length + ks.length + 2 < k) : impl_kilosOk.f k l ks = some (kOk l ks) := by
  obtain ⟨k, rfl⟩ : ∃ m, k = m + 1 := ⟨k - 1, by omega⟩
  simp only [impl_kilosOk.f, flours_impl, Option.bind_some, impl_kilosOk.j0]
  unfold kOk
  by_cases h : floursOk l = true
  · rw [if_pos h, h, Bool.true_and]
    by_cases h2 : ks.length = l.length
    · have e : ((ks.length : Int) != (l.length : Int)) = false := by rw [h2]; simp
      rw [e, if_neg (by simp), decide_eq_true h2, Bool.true_and]
      rw [run_all (fun k x19 => impl_kilosOk.l0 k l ks ks.length x19) ks.length (by omega) (fun i => decide (0 ≤ ks.getD i 0 ∧ ks.getD i 0 ≤ (l.getD i z42).f2)) false (some true)
        (fun k i hi => by
          simp only [impl_kilosOk.l0, in_impl, Option.bind_some, rdIFlour, rd_nat]
          rw [if_pos (by omega), if_pos (by omega), if_pos (by omega), if_pos (by omega)])
        (fun k => by
          simp only [impl_kilosOk.l0]
          rw [if_neg (by omega)]) k (by omega)]
      cases (List.range ks.length).all (fun i => decide (0 ≤ ks.getD i 0 ∧ ks.getD i 0 ≤ (l.getD i z42).f2)) <;> simp
    · have e : ((ks.length : Int) != (l.length : Int)) = true := by simp; omega
      rw [e, if_pos rfl, decide_eq_false h2, Bool.false_and]
  · rw [if_neg h, if_pos trivial, Bool.eq_false_iff.2 h, Bool.false_and, Bool.false_and]
/-- Amounts times a figure of their flours, added up. -/
def dot (g : S42 → Int) (l : List S42) (ks : List Int) : Int := (List.range ks.length).foldl (fun c i => c + g (l.getD i z42) * ks.getD i 0) 0
theorem mul_small {a b : Int} (h0 : 0 ≤ a) (h1 : a ≤ 500) (h2 : 0 ≤ b) (h3 : b ≤ 100) : 0 ≤ a * b ∧ a * b ≤ 50000 := by
  refine ⟨Int.mul_nonneg h0 h2, ?_⟩
  have h4 : a * b ≤ 500 * b := Int.mul_le_mul_of_nonneg_right h1 h2
  omega
theorem k_at {l : List S42} {ks : List Int} (h : kOk l ks = true) (i : Nat) (hi : i < ks.length) : flOk (l.getD i z42) = true ∧ 0 ≤ ks.getD i 0 ∧ ks.getD i 0 ≤ (l.getD i z42).f2 := by
  obtain ⟨h1, h2, h3⟩ := kOk_iff.1 h
  refine ⟨?_, h3 i hi⟩
  have hi2 : i < l.length := by omega
  have e : l.getD i z42 = l[i] := by simp [List.getD_eq_getElem?_getD, hi2]
  rw [e]
  exact (floursOk_iff.1 h1).2 _ (List.getElem_mem hi2)
theorem k_len {l : List S42} {ks : List Int} (h : kOk l ks = true) : ks.length ≤ 5 ∧ ks.length = l.length := by
  obtain ⟨h1, h2, h3⟩ := kOk_iff.1 h
  have := (floursOk_iff.1 h1).1
  omega
def cost (l : List S42) (ks : List Int) : Int := if kOk l ks = true then dot S42.f1 l ks else -1
theorem cost_impl (l : List S42) (ks : List Int) (k : Nat) (hl : l.length ≤ 1000000000) (hks : ks.length ≤ 1000000000) (hk : l.length + ks.length + 2 < k) : impl_BlendCost.f k l ks = some (cost l ks) := by
  simp only [impl_BlendCost.f, k_impl l ks k hl hks hk, Option.bind_some, cost]
  by_cases h : kOk l ks = true
  · have hlen := k_len h
    rw [if_pos h, if_pos h]
    have L := loop_fold (fun k i c => impl_BlendCost.l0 k l c ks ks.length i) ks.length 0 (by omega) (fun i c => 0 ≤ c ∧ c ≤ 50000 * (i : Int)) (fun c i => c + (l.getD i z42).f1 * ks.getD i 0) (fun c => some c)
      (fun k i c hB hi hc => by
        have hq := k_at h i hi
        have hf := flOk_iff.1 hq.1
        simp only [impl_BlendCost.l0, rdIFlour, rd_nat]
        rw [if_pos (by omega), if_pos (by omega), if_pos (by omega), if_pos (by omega)]
        have hm := mul_small (a := (l.getD i z42).f1) (b := ks.getD i 0) (by omega) (by omega) (by omega) (by omega)
        rw [w64 (n := (l.getD i z42).f1 * ks.getD i 0) (by omega) (by omega), w64 (by omega) (by omega)])
      (fun i c hi hc => by
        have hq := k_at h i hi
        have hf := flOk_iff.1 hq.1
        have hm := mul_small (a := (l.getD i z42).f1) (b := ks.getD i 0) (by omega) (by omega) (by omega) (by omega)
        omega)
      (fun k c hB hc => by
        simp only [impl_BlendCost.l0]
        rw [if_neg (by omega)]) k 0 ⟨by omega, by omega⟩ (by omega)
    exact L.1
  · rw [if_neg h, if_neg h]
theorem sum_bounds {M : Int} : ∀ (l : List Int), (∀ x ∈ l, 0 ≤ x ∧ x ≤ M) → 0 ≤ l.sum ∧ l.sum ≤ l.length * M
  | [], _ => by simp
  | a :: l, h => by
    have := sum_bounds l (fun x hx => h x (List.mem_cons_of_mem _ hx))
    have ha := h a List.mem_cons_self
    rw [List.sum_cons, List.length_cons]
    have e : ((l.length + 1 : Nat) : Int) * M = l.length * M + M := by
      rw [Int.natCast_add, Int.add_mul]
      simp
    omega
/-- Small sums: a list whose numbers are from 0 to M, and whose length times M is small. -/
def Small (l : List Int) : Prop := ∃ M : Int, (∀ x ∈ l, 0 ≤ x ∧ x ≤ M) ∧ l.length * M ≤ 4611686018427387904 ∧ l.length ≤ 4611686018427387904
theorem Small.drop {l : List Int} (h : Small l) (i : Nat) : 0 ≤ (l.drop i).sum ∧ (l.drop i).sum ≤ l.sum := by
  obtain ⟨M, h1, h2, h3⟩ := h
  have e : l.sum = (l.take i).sum + (l.drop i).sum := by rw [← List.sum_append, List.take_append_drop]
  have a := sum_bounds (M := M) (l.take i) (fun x hx => h1 x (List.mem_of_mem_take hx))
  have b := sum_bounds (M := M) (l.drop i) (fun x hx => h1 x (List.mem_of_mem_drop hx))
  omega
theorem Small.sum {l : List Int} (h : Small l) : 0 ≤ l.sum ∧ l.sum ≤ 4611686018427387904 := by
  obtain ⟨M, h1, h2, h3⟩ := h
  have := sum_bounds l h1
  omega
theorem sumI_impl (l : List Int) (h : Small l) (k : Nat) (hk : l.length < k) : impl_sum.f k l = some l.sum := by
  obtain ⟨M, h1, h2, h3⟩ := id h
  unfold impl_sum.f
  have hs := h.sum
  have key : ∀ (d k i : Nat) (s : Int), i + d = l.length → d < k → s + (l.drop i).sum = l.sum → 0 ≤ s → impl_sum.l0 k s l l.length i = some l.sum := by
    intro d
    induction d with
    | zero =>
      intro k i s hd hk hsum h0
      obtain ⟨k, rfl⟩ : ∃ m, k = m + 1 := ⟨k - 1, by omega⟩
      simp only [impl_sum.l0]
      rw [if_neg (by omega)]
      rw [List.drop_eq_nil_of_le (by omega)] at hsum
      simp at hsum
      rw [hsum]
    | succ d ih =>
      intro k i s hd hk hsum h0
      obtain ⟨k, rfl⟩ : ∃ m, k = m + 1 := ⟨k - 1, by omega⟩
      have hi : i < l.length := by omega
      simp only [impl_sum.l0]
      rw [if_pos (by omega), if_pos (by omega), if_pos (by omega), w64s (n := l.length) (by omega) (by omega) (by omega)]
      have e : rd l (i : Int) = l[i] := by simp [rd, List.getD_eq_getElem?_getD, hi]
      have hx := h1 _ (List.getElem_mem hi)
      rw [List.drop_eq_getElem_cons hi, List.sum_cons] at hsum
      have hd2 := h.drop (i + 1)
      rw [e, w64 (n := s + l[i]) (by omega) (by omega)]
      have := ih k (i + 1) (s + l[i]) (by omega) (by omega) (by omega) (by omega)
      simpa using this
  exact key l.length k 0 0 (by omega) hk (by simp) (by omega)
theorem k_small {l : List S42} {ks : List Int} (h : kOk l ks = true) : Small ks := by
  refine ⟨100, fun x hx => ?_, by have := k_len h; omega, by have := k_len h; omega⟩
  obtain ⟨i, hi, rfl⟩ := List.mem_iff_getElem.1 hx
  have hq := k_at h i hi
  have hf := flOk_iff.1 hq.1
  have e : ks.getD i 0 = ks[i] := by simp [List.getD_eq_getElem?_getD, hi]
  rw [e] at hq
  omega
def strength (l : List S42) (ks : List Int) : Int := if kOk l ks = true ∧ ks.sum ≠ 0 then dot S42.f0 l ks / ks.sum else -1
theorem strength_impl (l : List S42) (ks : List Int) (k : Nat) (hl : l.length ≤ 1000000000) (hks : ks.length ≤ 1000000000) (hk : l.length + 2 * ks.length + 8 < k) : impl_StrengthOf.f k l ks = some (strength l ks) := by
  obtain ⟨k, rfl⟩ : ∃ m, k = m + 1 := ⟨k - 1, by omega⟩
  simp only [impl_StrengthOf.f, k_impl l ks (k + 1) hl hks (by omega), Option.bind_some, strength, impl_StrengthOf.j0]
  by_cases h : kOk l ks = true
  · have hlen := k_len h
    have hs := k_small h
    rw [if_pos h, sumI_impl ks hs (k + 1) (by omega)]
    simp only [Option.bind_some]
    by_cases h0 : ks.sum = 0
    · rw [if_pos (by simp [h0]), if_neg (c := kOk l ks = true ∧ ks.sum ≠ 0) (fun hh => hh.2 h0)]
    · rw [if_neg (by simp [h0]), if_pos (c := kOk l ks = true ∧ _) ⟨h, h0⟩]
      have hsum := hs.sum
      have L := loop_fold (fun k i c => impl_StrengthOf.l0 k l ks c ks ks.length i) ks.length ks.length (by omega) (fun i c => 0 ≤ c ∧ c ≤ 50000 * (i : Int)) (fun c i => c + (l.getD i z42).f0 * ks.getD i 0) (fun c => some (c / ks.sum))
        (fun k i c hB hi hc => by
          have hq := k_at h i hi
          have hf := flOk_iff.1 hq.1
          simp only [impl_StrengthOf.l0, rdIFlour, rd_nat]
          rw [if_pos (by omega), if_pos (by omega), if_pos (by omega), if_pos (by omega)]
          have hm := mul_small (a := (l.getD i z42).f0) (b := ks.getD i 0) (by omega) (by omega) (by omega) (by omega)
          rw [w64 (n := (l.getD i z42).f0 * ks.getD i 0) (by omega) (by omega), w64 (by omega) (by omega)])
        (fun i c hi hc => by
          have hq := k_at h i hi
          have hf := flOk_iff.1 hq.1
          have hm := mul_small (a := (l.getD i z42).f0) (b := ks.getD i 0) (by omega) (by omega) (by omega) (by omega)
          omega)
        (fun k c hB hc => by
          simp only [impl_StrengthOf.l0]
          rw [if_neg (by omega), sumI_impl ks hs k hB]
          simp only [Option.bind_some]
          rw [if_neg h0, Int.tdiv_eq_ediv_of_nonneg hc.1]
          have d1 : 0 ≤ c / ks.sum := Int.ediv_nonneg hc.1 hsum.1
          have d2 : c / ks.sum ≤ c := Int.ediv_le_self _ hc.1
          rw [w64 (by omega) (by omega)]) k 0 ⟨by omega, by omega⟩ (by omega)
      exact L.1
  · rw [if_neg h, if_pos trivial, if_neg (c := kOk l ks = true ∧ _) (fun hh => h hh.1)]
/-- Two neighbours change places. -/
def swp (xs : List Int) (j : Nat) : List Int := (xs.set j (xs.getD (j - 1) 0)).set (j - 1) (xs.getD j 0)
theorem swp_len (xs : List Int) (j : Nat) : (swp xs j).length = xs.length := by simp [swp]
theorem swp_get (xs : List Int) (j : Nat) (h0 : 0 < j) (hj : j < xs.length) (a : Nat) : (swp xs j).getD a 0 = if a = j - 1 then xs.getD j 0 else if a = j then xs.getD (j - 1) 0 else xs.getD a 0 := by
  unfold swp
  simp only [List.getD_eq_getElem?_getD, List.getElem?_set, List.length_set]
  by_cases e : a = j - 1
  · subst e
    rw [if_pos rfl, if_pos rfl, if_pos (by omega)]
    rfl
  · rw [if_neg (fun h => e h.symm), if_neg e]
    by_cases e2 : a = j
    · subst e2
      rw [if_pos rfl, if_pos rfl, if_pos hj]
      rfl
    · rw [if_neg (fun h => e2 h.symm), if_neg e2]
theorem swp_perm (xs : List Int) (j : Nat) (h0 : 0 < j) (hj : j < xs.length) : (swp xs j).Perm xs := by
  obtain ⟨i, rfl⟩ : ∃ i, j = i + 1 := ⟨j - 1, by omega⟩
  have e1 : xs.getD (i + 1) 0 = xs[i + 1] := by simp [List.getD_eq_getElem?_getD, hj]
  have e0 : xs.getD i 0 = xs[i]'(by omega) := by simp [List.getD_eq_getElem?_getD, show i < xs.length by omega]
  have hx : xs = xs.take i ++ xs[i]'(by omega) :: xs[i + 1] :: xs.drop (i + 2) := by
    conv => lhs; rw [← List.take_append_drop i xs, List.drop_eq_getElem_cons (by omega), List.drop_eq_getElem_cons hj]
  have hs : swp xs (i + 1) = xs.take i ++ xs[i + 1] :: xs[i]'(by omega) :: xs.drop (i + 2) := by
    apply List.ext_getElem
    · rw [swp_len]
      simp
      omega
    · intro a h1 h2
      have g := swp_get xs (i + 1) (by omega) hj a
      rw [List.getD_eq_getElem?_getD, List.getElem?_eq_getElem h1, Option.getD_some] at g
      rw [g]
      simp only [Nat.add_sub_cancel]
      have hl : (xs.take i).length = i := by simp; omega
      by_cases ea : a < i
      · rw [if_neg (by omega), if_neg (by omega), List.getElem_append_left (by omega), List.getElem_take]
        simp [List.getD_eq_getElem?_getD, show a < xs.length by omega]
      · rw [List.getElem_append_right (by omega)]
        by_cases e3 : a = i
        · subst e3
          simp [hl, List.getD_eq_getElem?_getD, hj]
        · by_cases e4 : a = i + 1
          · subst e4
            simp [hl, List.getD_eq_getElem?_getD, show i < xs.length by omega]
          · rw [if_neg e3, if_neg e4]
            obtain ⟨b, rfl⟩ : ∃ b, a = i + 2 + b := ⟨a - (i + 2), by omega⟩
            rw [swp_len] at h1
            simp [hl, show i + 2 + b - i = b + 1 + 1 by omega, List.getD_eq_getElem?_getD, h1]
  rw [hs]
  conv => rhs; rw [hx]
  exact List.Perm.append_left _ (List.Perm.swap _ _ _)
/-- In order by a key, and by themselves where the keys agree. -/
def Lex (key : Int → Int) (x y : Int) : Prop := key x < key y ∨ (key x = key y ∧ x < y)
def UptoL (key : Int → Int) (xs : List Int) (i : Nat) : Prop := ∀ a b : Nat, a < b → b < i → Lex key (xs.getD a 0) (xs.getD b 0)
def NearL (key : Int → Int) (xs : List Int) (i j : Nat) : Prop := ∀ a b : Nat, a < b → b ≤ i → b ≠ j → Lex key (xs.getD a 0) (xs.getD b 0)
def TopL (xs : List Int) (i j : Nat) : Prop := ∀ a : Nat, a ≤ i → a ≠ j → xs.getD a 0 < xs.getD j 0
def RestL (xs : List Int) (n i : Nat) : Prop := ∀ a b : Nat, a < b → i ≤ b → b < n → xs.getD a 0 < xs.getD b 0
/-- Insertion sort by neighbours' swaps of ascending numbers: stable, of any two loops that do it. -/
theorem insertion_st (L0 : Nat → List Int → Int → Option (List Int)) (L1 : Nat → List Int → Int → Int → Option (List Int)) (key : Int → Int) (n : Nat) (V : List Int → Prop)
    (h0 : ∀ k xs (i : Nat), i < n → xs.length = n → V xs → L0 (k + 1) xs i = L1 k xs i i)
    (hend : ∀ k xs, xs.length = n → V xs → L0 (k + 1) xs n = some xs)
    (h1 : ∀ k xs (i j : Nat), 0 < j → j ≤ i → i < n → xs.length = n → V xs → L1 (k + 1) xs i j = if key (xs.getD j 0) < key (xs.getD (j - 1) 0) then L1 k (swp xs j) i ((j - 1 : Nat) : Int) else L0 k xs ((i + 1 : Nat) : Int))
    (h1z : ∀ k xs (i : Nat), i < n → xs.length = n → V xs → L1 (k + 1) xs i 0 = L0 k xs ((i + 1 : Nat) : Int))
    (hV : ∀ xs ys, V xs → ys.Perm xs → V ys) :
    ∀ (d k i : Nat) (xs : List Int), i + d = n → d * (n + 3) + 1 < k → xs.length = n → V xs → UptoL key xs i → RestL xs n i → ∃ ys, L0 k xs i = some ys ∧ ys.Perm xs ∧ UptoL key ys n := by
  have inner : ∀ (j k i : Nat) (xs : List Int), j ≤ i → i < n → j + 1 < k → xs.length = n → V xs → NearL key xs i j → TopL xs i j → RestL xs n (i + 1) → ∃ ys k', k - j - 1 ≤ k' ∧ L1 k xs i j = L0 k' ys ((i + 1 : Nat) : Int) ∧ ys.Perm xs ∧ UptoL key ys (i + 1) ∧ RestL ys n (i + 1) := by
    intro j
    induction j with
    | zero =>
      intro k i xs hji hi hk hl hv hn ht hr
      obtain ⟨k, rfl⟩ : ∃ m, k = m + 1 := ⟨k - 1, by omega⟩
      exact ⟨xs, k, by omega, h1z k xs i hi hl hv, List.Perm.refl _, fun a b hab hb => hn a b hab (by omega) (by omega), hr⟩
    | succ j ih =>
      intro k i xs hji hi hk hl hv hn ht hr
      obtain ⟨k, rfl⟩ : ∃ m, k = m + 1 := ⟨k - 1, by omega⟩
      rw [h1 k xs i (j + 1) (by omega) hji hi hl hv, Nat.add_sub_cancel]
      by_cases c : key (xs.getD (j + 1) 0) < key (xs.getD j 0)
      · rw [if_pos c]
        have hp := swp_perm xs (j + 1) (by omega) (by omega)
        have hg := fun a => swp_get xs (j + 1) (by omega) (by omega) a
        simp only [Nat.add_sub_cancel] at hg
        obtain ⟨ys, k', hk', e, p, u, r⟩ := ih k i (swp xs (j + 1)) (by omega) hi (by omega) (by rw [swp_len, hl]) (hV _ _ hv hp) (fun a b hab hb hbj => by
          rw [hg a, hg b]
          by_cases eb : b = j + 1
          · subst eb
            rw [if_neg (c := j + 1 = j) (by omega), if_pos (c := j + 1 = j + 1) rfl]
            by_cases ea : a = j
            · rw [if_pos ea]
              exact .inl c
            · rw [if_neg ea, if_neg (c := a = j + 1) (by omega)]
              exact hn a j (by omega) (by omega) (by omega)
          · rw [if_neg (c := b = j) hbj, if_neg (c := b = j + 1) eb]
            by_cases ea : a = j
            · rw [if_pos ea]
              exact hn (j + 1) b (by omega) hb eb
            · rw [if_neg ea]
              by_cases ea2 : a = j + 1
              · rw [if_pos ea2]
                exact hn j b (by omega) hb eb
              · rw [if_neg ea2]
                exact hn a b hab hb eb) (fun a ha haj => by
          rw [hg a, hg j, if_pos (c := j = j) rfl, if_neg haj]
          by_cases ea : a = j + 1
          · rw [if_pos ea]
            exact ht j (by omega) (by omega)
          · rw [if_neg ea]
            exact ht a ha ea) (fun a b hab hb hbn => by
          rw [hg a, hg b, if_neg (c := b = j) (by omega), if_neg (c := b = j + 1) (by omega)]
          by_cases ea : a = j
          · rw [if_pos ea]
            exact hr (j + 1) b (by omega) hb hbn
          · rw [if_neg ea]
            by_cases ea2 : a = j + 1
            · rw [if_pos ea2]
              exact hr j b (by omega) hb hbn
            · rw [if_neg ea2]
              exact hr a b hab hb hbn)
        exact ⟨ys, k', by omega, e, p.trans hp, u, r⟩
      · rw [if_neg c]
        refine ⟨xs, k, by omega, rfl, List.Perm.refl _, fun a b hab hb => ?_, hr⟩
        by_cases eb : b = j + 1
        · subst eb
          have hj := ht j (by omega) (by omega)
          by_cases ea : a = j
          · subst ea
            unfold Lex
            omega
          · have := hn a j (by omega) (by omega) (by omega)
            unfold Lex at this ⊢
            omega
        · exact hn a b hab (by omega) eb
  intro d
  induction d with
  | zero =>
    intro k i xs hi hk hl hv hu hr
    obtain ⟨k, rfl⟩ : ∃ m, k = m + 1 := ⟨k - 1, by omega⟩
    have : i = n := by omega
    subst this
    exact ⟨xs, hend k xs hl hv, List.Perm.refl _, hu⟩
  | succ d ih =>
    intro k i xs hi hk hl hv hu hr
    have hmul : (d + 1) * (n + 3) = d * (n + 3) + (n + 3) := Nat.succ_mul _ _
    obtain ⟨k, rfl⟩ : ∃ m, k = m + 1 := ⟨k - 1, by omega⟩
    rw [h0 k xs i (by omega) hl hv]
    obtain ⟨ys, k', hk', e, p, u, r⟩ := inner i k i xs (Nat.le_refl _) (by omega) (by omega) hl hv (fun a b hab hb hbi => hu a b hab (by omega)) (fun a ha hai => hr a i (by omega) (by omega) (by omega)) (fun a b hab hb hbn => hr a b hab (by omega) hbn)
    obtain ⟨zs, e2, p2, u2⟩ := ih k' (i + 1) ys (by omega) (by omega) (by rw [p.length_eq, hl]) (hV _ _ hv p) u r
    rw [e]
    exact ⟨zs, e2, p2.trans p, u2⟩
theorem uptoL_pairwise (key : Int → Int) (xs : List Int) (h : UptoL key xs xs.length) : xs.Pairwise (Lex key) := by
  rw [List.pairwise_iff_getElem]
  intro i j hi hj hij
  have := h i j hij hj
  simpa [List.getD_eq_getElem?_getD, hi, hj] using this
theorem indices_ok (n k : Nat) (hn : n ≤ 1000000) (hk : n + 1 < k) : impl_indices.f k n = some ((List.range n).map fun i : Nat => (i : Int)) := by
  unfold impl_indices.f
  have h := (loop_fold (fun k i xs => impl_indices.l0 k xs n i) n 0 (by omega) (fun i xs => xs.length = i) (fun xs i => xs ++ [(i : Int)]) (fun xs => some xs)
    (fun k i s _ hi hp => by
      simp only [impl_indices.l0]
      rw [if_pos (by omega), if_pos (by omega)])
    (fun i s _ hp => by simp [hp])
    (fun k s _ hp => by
      simp only [impl_indices.l0]
      rw [if_neg (by omega)]) k [] rfl (by omega)).1
  rw [h]
  have key : ∀ (is : List Nat) (acc : List Int), is.foldl (fun (xs : List Int) (i : Nat) => xs ++ [(i : Int)]) acc = acc ++ is.map (fun i : Nat => (i : Int)) := by
    intro is
    induction is with
    | nil => intro acc; simp
    | cons i is ih => intro acc; simp [ih]
  rw [key]
  rfl
set_option maxRecDepth 100000 in
theorem len_small (n k : Nat) (hn : n ≤ 12) (hk : 0 < k) : ∃ v, bits_Len.f k (IntKind.u64.wrap (n : Int)) = some v := by
  obtain ⟨k, rfl⟩ : ∃ m, k = m + 1 := ⟨k - 1, by omega⟩
  have e : IntKind.u64.wrap (n : Int) = (n : Int) := by
    match n, hn with
    | 0, _ => rfl
    | 1, _ => rfl
    | 2, _ => rfl
    | 3, _ => rfl
    | 4, _ => rfl
    | 5, _ => rfl
    | 6, _ => rfl
    | 7, _ => rfl
    | 8, _ => rfl
    | 9, _ => rfl
    | 10, _ => rfl
    | 11, _ => rfl
    | 12, _ => rfl
  rw [e]
  unfold bits_Len.f bits_Len64.f
  rw [if_neg (by omega)]
  rw [bits_Len64.j0]
  rw [if_neg (by omega), if_neg (by omega), if_pos (by omega), if_pos (by omega)]
  exact ⟨_, rfl⟩
/-- The key the flours are sorted by. -/
def flKey (l : List S42) (x : Int) : Int := - (l.getD x.toNat z42).f0
theorem strong_sort (l : List S42) (hl : l.length ≤ 12) (hok : ∀ f ∈ l, flOk f = true) (k : Nat) (hk : l.length * (l.length + 3) + 30 < k) :
    ∃ ys, slices_SortFunc_int_int.f k ((List.range l.length).map fun i : Nat => (i : Int)) l = some ys ∧ ys.Perm ((List.range l.length).map fun i : Nat => (i : Int)) ∧ UptoL (flKey l) ys l.length := by
  unfold slices_SortFunc_int_int.f
  have hlen : ((List.range l.length).map fun i : Nat => (i : Int)).length = l.length := by simp
  obtain ⟨v, hv⟩ := len_small l.length k hl (by omega)
  rw [hlen, hv]
  simp only [Option.bind_some]
  obtain ⟨k, rfl⟩ : ∃ m, k = m + 1 + 1 := ⟨k - 2, by omega⟩
  simp only [slices_pdqsortCmpFunc_int.f, slices_pdqsortCmpFunc_int.l0]
  rw [w64 (n := (l.length : Int) - 0) (by omega) (by omega), if_pos (by omega)]
  unfold slices_insertionSortCmpFunc_int.f
  rw [w64 (n := 0 + 1) (by omega) (by omega)]
  by_cases h0 : l.length = 0
  · obtain ⟨k, rfl⟩ : ∃ m, k = m + 1 := ⟨k - 1, by omega⟩
    refine ⟨_, ?_, List.Perm.refl _, fun a b _ hb => by omega⟩
    simp only [slices_insertionSortCmpFunc_int.l0]
    rw [if_neg (by omega)]
    rfl
  · have rdm : ∀ (xs : List Int) (j : Nat), xs.length = l.length → j < l.length → (∀ x ∈ xs, 0 ≤ x ∧ x < (l.length : Int)) → 0 ≤ xs.getD j 0 ∧ xs.getD j 0 < (l.length : Int) := by
      intro xs j hxl hj hV
      exact hV _ (by simp [List.getD_eq_getElem?_getD, show j < xs.length by omega])
    have h := insertion_st (fun k xs i => slices_insertionSortCmpFunc_int.l0 k xs 0 l.length i l) (fun k xs i j => slices_insertionSortCmpFunc_int.l1 k xs 0 l.length i j l) (flKey l) l.length (fun xs => ∀ x ∈ xs, 0 ≤ x ∧ x < (l.length : Int))
      (fun k xs i hi hxl hV => by
        simp only [slices_insertionSortCmpFunc_int.l0]
        rw [if_pos (by omega)])
      (fun k xs hxl hV => by
        simp only [slices_insertionSortCmpFunc_int.l0]
        rw [if_neg (by omega)])
      (fun k xs i j hj hji hi hxl hV => by
        have a1 := rdm xs j hxl (by omega) hV
        have a0 := rdm xs (j - 1) hxl (by omega) hV
        have ej : wrap64 ((j : Int) - 1) = ((j - 1 : Nat) : Int) := by rw [w64 (by omega) (by omega)]; omega
        simp only [slices_insertionSortCmpFunc_int.l1, ej]
        rw [if_pos (by omega), if_pos (by omega), if_pos (by omega), if_pos (by omega), if_pos (by omega), rd_nat, rd_nat]
        simp only [impl_StrongestFor_1.f]
        rw [if_pos a0.1, if_pos a0.2, if_pos a1.1, if_pos a1.2]
        simp only [Option.bind_some]
        obtain ⟨p, hp⟩ : ∃ p : Nat, xs.getD j 0 = (p : Int) := ⟨(xs.getD j 0).toNat, by omega⟩
        obtain ⟨q, hq⟩ : ∃ q : Nat, xs.getD (j - 1) 0 = (q : Int) := ⟨(xs.getD (j - 1) 0).toNat, by omega⟩
        have hpl : p < l.length := by omega
        have hql : q < l.length := by omega
        have fp := flOk_iff.1 (hok (l.getD p z42) (by simp [List.getD_eq_getElem?_getD, hpl]))
        have fq := flOk_iff.1 (hok (l.getD q z42) (by simp [List.getD_eq_getElem?_getD, hql]))
        have hc : (wrap64 ((rd_T42 l (xs.getD (j - 1) 0)).f0 - (rd_T42 l (xs.getD j 0)).f0) < 0) ↔ flKey l (xs.getD j 0) < flKey l (xs.getD (j - 1) 0) := by
          rw [hp, hq, rdIFlour, rdIFlour, w64 (by omega) (by omega)]
          unfold flKey
          rw [Int.toNat_natCast, Int.toNat_natCast]
          omega
        by_cases c : flKey l (xs.getD j 0) < flKey l (xs.getD (j - 1) 0)
        · rw [if_pos (hc.2 c), if_pos c, Int.toNat_natCast, Int.toNat_natCast]
          rfl
        · rw [if_neg (fun h => c (hc.1 h)), if_neg c, w64 (by omega) (by omega)]
          rfl)
      (fun k xs i hi hxl hV => by
        simp only [slices_insertionSortCmpFunc_int.l1]
        rw [if_neg (by omega), w64 (by omega) (by omega)]
        rfl)
      (fun xs ys hV hp x hx => hV x (hp.mem_iff.1 hx))
    have e2 : (l.length - 1) * (l.length + 3) ≤ l.length * (l.length + 3) := Nat.mul_le_mul_right _ (by omega)
    have hget : ∀ a : Nat, a < l.length → ((List.range l.length).map fun i : Nat => (i : Int)).getD a 0 = (a : Int) := by
      intro a ha
      simp [List.getD_eq_getElem?_getD, ha]
    obtain ⟨ys, e, p, u⟩ := h (l.length - 1) k 1 ((List.range l.length).map fun i : Nat => (i : Int)) (by omega) (by omega) hlen (fun x hx => by
      obtain ⟨i, hi, rfl⟩ := List.mem_map.1 hx
      have := List.mem_range.1 hi
      omega) (fun a b hab hb => by omega) (fun a b hab hb hbn => by
      rw [hget a (by omega), hget b hbn]
      omega)
    have e' : slices_insertionSortCmpFunc_int.l0 k ((List.range l.length).map fun i : Nat => (i : Int)) 0 l.length (0 + 1) l = some ys := e
    exact ⟨ys, by rw [e']; rfl, p, u⟩
def fillStep (l : List S42) (s : List Int × Int) (x : Nat) : List Int × Int := (s.1.set x (min s.2 (l.getD x z42).f2), s.2 - min s.2 (l.getD x z42).f2)
def ansF (l : List S42) (s : List Int × Int) : Int := if s.2 > 0 then -1 else strength l s.1
theorem mnF (a b : Int) : mn a b = min a b := by unfold mn; omega
theorem strong_walk (l : List S42) (hl : l.length ≤ 5) (hok : ∀ f ∈ l, flOk f = true) (ys : List Int) (hy : ys.length = l.length) (hv : ∀ x ∈ ys, 0 ≤ x ∧ x < (l.length : Int)) (left : Int) (hleft : 0 ≤ left ∧ left ≤ 500) (k : Nat) (hk : 100 < k) :
    impl_StrongestFor.l0 k (List.replicate l.length 0) left ys l.length 0 l = some (ansF l ((ys.map Int.toNat).foldl (fillStep l) (List.replicate l.length 0, left))) := by
  have L := (loop_fold (fun k i (s : List Int × Int) => impl_StrongestFor.l0 k s.1 s.2 ys l.length i l) l.length 60 (by omega) (fun _ s => s.1.length = l.length ∧ 0 ≤ s.2 ∧ s.2 ≤ 500) (fun s i => fillStep l s (ys.getD i 0).toNat) (fun s => some (ansF l s))
    (fun k i s _ hi hp => by
      have hm : ys.getD i 0 ∈ ys := by simp [List.getD_eq_getElem?_getD, show i < ys.length by omega]
      have hb := hv _ hm
      obtain ⟨q, hq⟩ : ∃ q : Nat, ys.getD i 0 = (q : Int) := ⟨(ys.getD i 0).toNat, by omega⟩
      have hql : q < l.length := by omega
      have hf := flOk_iff.1 (hok (l.getD q z42) (by simp [List.getD_eq_getElem?_getD, hql]))
      rw [impl_StrongestFor.l0]
      rw [if_pos (by omega), if_pos (by omega), if_pos (by omega), rd_nat, hq, if_pos (by omega), if_pos (by omega), if_pos (by omega)]
      simp only [Option.bind_some, rdIFlour, Int.toNat_natCast, mnF, rd_nat]
      have e2 : (s.1.set q (min s.2 (l.getD q z42).f2)).getD q 0 = min s.2 (l.getD q z42).f2 := by
        simp [List.getD_eq_getElem?_getD, show q < s.1.length by omega]
      rw [e2, w64 (n := s.2 - min s.2 (l.getD q z42).f2) (by omega) (by omega)]
      rfl)
    (fun i s hi hp => by
      have hm : ys.getD i 0 ∈ ys := by simp [List.getD_eq_getElem?_getD, show i < ys.length by omega]
      have hb := hv _ hm
      obtain ⟨q, hq⟩ : ∃ q : Nat, (ys.getD i 0).toNat = q := ⟨_, rfl⟩
      have hql : q < l.length := by omega
      rw [hq]
      have hf := flOk_iff.1 (hok (l.getD q z42) (by simp [List.getD_eq_getElem?_getD, hql]))
      unfold fillStep
      refine ⟨by simp [hp.1], ?_⟩
      dsimp only
      omega)
    (fun k s hB hp => by
      rw [impl_StrongestFor.l0]
      rw [if_neg (by omega)]
      unfold ansF
      by_cases c : s.2 > 0
      · rw [if_pos c, if_pos c]
      · rw [if_neg c, if_neg c, strength_impl l s.1 k (by omega) (by omega) (by omega)]
        rfl) k (List.replicate l.length 0, left) ⟨by simp, hleft⟩ (by omega)).1
  have e := foldl_range_getD' ys 0 (fun (s : List Int × Int) x => fillStep l s x.toNat) (List.replicate l.length 0, left)
  rw [hy] at e
  rw [e] at L
  rw [List.foldl_map]
  exact L
theorem sum_perm {M N : List Nat} (f : Nat → Int) (h : M.Perm N) : (M.map f).sum = (N.map f).sum := by
  induction h with
  | nil => rfl
  | cons x _ ih => simp only [List.map_cons, List.sum_cons, ih]
  | swap x y l => simp only [List.map_cons, List.sum_cons]; omega
  | trans _ _ i1 i2 => exact i1.trans i2
theorem fold_sum (f : Nat → Int) : ∀ (L : List Nat) (c : Int), L.foldl (fun c i => c + f i) c = c + (L.map f).sum := by
  intro L
  induction L with
  | nil => intro c; simp
  | cons x L ih => intro c; rw [List.foldl_cons, ih, List.map_cons, List.sum_cons]; omega
theorem sum_getD (ks : List Int) : ((List.range ks.length).map fun i => ks.getD i 0).sum = ks.sum := by
  have := map_range_getD ks 0 (id : Int → Int)
  rw [List.map_id] at this
  have e : (List.range ks.length).map (fun i => ks.getD i 0) = ks := this
  rw [e]
theorem sum_le {M : List Nat} {f g : Nat → Int} (h : ∀ x ∈ M, f x ≤ g x) : (M.map f).sum ≤ (M.map g).sum := by
  induction M with
  | nil => simp
  | cons x M ih =>
    simp only [List.map_cons, List.sum_cons]
    have := h x List.mem_cons_self
    have := ih (fun y hy => h y (List.mem_cons_of_mem _ hy))
    omega
theorem sum_nn {M : List Nat} {f : Nat → Int} (h : ∀ x ∈ M, 0 ≤ f x) : 0 ≤ (M.map f).sum := by
  induction M with
  | nil => simp
  | cons x M ih =>
    simp only [List.map_cons, List.sum_cons]
    have := h x List.mem_cons_self
    have := ih (fun y hy => h y (List.mem_cons_of_mem _ hy))
    omega
/-- What is got by filling in this order, each place as far as it goes. -/
def gre (F S : Nat → Int) : List Nat → Int → Int
  | [], _ => 0
  | x :: M, left => F x * min left (S x) + gre F S M (left - min left (S x))
/-- What is left then. -/
def remF (S : Nat → Int) : List Nat → Int → Int
  | [], left => left
  | x :: M, left => remF S M (left - min left (S x))
theorem gre_lip (F S : Nat → Int) (s : Int) (hs : 0 ≤ s) : ∀ (M : List Nat) (a b : Int), 0 ≤ b → b ≤ a → (∀ x ∈ M, 0 ≤ S x) → (∀ x ∈ M, F x ≤ s) → gre F S M a ≤ gre F S M b + s * (a - b) := by
  intro M
  induction M with
  | nil =>
    intro a b h0 h1 _ _
    have := Int.mul_nonneg hs (show 0 ≤ a - b by omega)
    simp only [gre]
    omega
  | cons x M ih =>
    intro a b h0 h1 hS hF
    have hx := hS x List.mem_cons_self
    have hf := hF x List.mem_cons_self
    obtain ⟨p, hp⟩ : ∃ p, p = min a (S x) := ⟨_, rfl⟩
    obtain ⟨q, hq⟩ : ∃ q, q = min b (S x) := ⟨_, rfl⟩
    have hpq : q ≤ p ∧ p - q ≤ a - b ∧ q ≤ b := by omega
    have i1 := ih (a - p) (b - q) (by omega) (by omega) (fun y hy => hS y (List.mem_cons_of_mem _ hy)) (fun y hy => hF y (List.mem_cons_of_mem _ hy))
    simp only [gre]
    rw [← hp, ← hq]
    have e1 : F x * p = F x * q + F x * (p - q) := by rw [← Int.mul_add]; congr 1; omega
    have e2 : F x * (p - q) ≤ s * (p - q) := Int.mul_le_mul_of_nonneg_right hf (by omega)
    have e3 : s * (a - p - (b - q)) = s * (a - b) - s * (p - q) := by rw [← Int.mul_sub]; congr 1; omega
    omega
/-- No other way of filling gets more than the one that takes the greatest first. -/
theorem gre_opt (F S x : Nat → Int) : ∀ (M : List Nat) (left : Int), M.Pairwise (fun a b => F b ≤ F a) → (∀ y ∈ M, 0 ≤ F y ∧ 0 ≤ x y ∧ x y ≤ S y) → (M.map x).sum ≤ left → (M.map fun y => F y * x y).sum ≤ gre F S M left := by
  intro M
  induction M with
  | nil => intro left _ _ _; simp [gre]
  | cons y M ih =>
    intro left hp hM hsum
    obtain ⟨hp1, hp2⟩ := List.pairwise_cons.1 hp
    obtain ⟨f0, x0, x1⟩ := hM y List.mem_cons_self
    have hM2 : ∀ z ∈ M, 0 ≤ F z ∧ 0 ≤ x z ∧ x z ≤ S z := fun z hz => hM z (List.mem_cons_of_mem _ hz)
    simp only [List.map_cons, List.sum_cons] at hsum ⊢
    have hnn := sum_nn (f := x) (fun z hz => (hM2 z hz).2.1)
    have i1 := ih (left - x y) hp2 hM2 (by omega)
    obtain ⟨g, hg⟩ : ∃ g, g = min left (S y) := ⟨_, rfl⟩
    have i2 := gre_lip F S (F y) f0 M (left - x y) (left - g) (by omega) (by omega) (fun z hz => by have := hM2 z hz; omega) hp1
    simp only [gre]
    rw [← hg]
    have e1 : F y * (left - x y - (left - g)) = F y * g - F y * x y := by rw [← Int.mul_sub]; congr 1; omega
    omega
theorem gre_one (S : Nat → Int) : ∀ (M : List Nat) (left : Int), gre (fun _ => 1) S M left + remF S M left = left := by
  intro M
  induction M with
  | nil => intro left; simp [gre, remF]
  | cons x M ih => intro left; simp only [gre, remF]; have := ih (left - min left (S x)); omega
theorem rem_zero (S : Nat → Int) : ∀ (M : List Nat) (left : Int), 0 ≤ left → (∀ x ∈ M, 0 ≤ S x) → left ≤ (M.map S).sum → remF S M left = 0 := by
  intro M
  induction M with
  | nil => intro left h0 _ h1; simp at h1; simp only [remF]; omega
  | cons x M ih =>
    intro left h0 hS h1
    have := hS x List.mem_cons_self
    simp only [List.map_cons, List.sum_cons] at h1
    simp only [remF]
    exact ih _ (by omega) (fun y hy => hS y (List.mem_cons_of_mem _ hy)) (by
      have := sum_nn (f := S) (M := M) (fun y hy => hS y (List.mem_cons_of_mem _ hy))
      omega)
theorem fill_facts (l : List S42) : ∀ (M : List Nat) (ks : List Int) (left : Int), M.Nodup → (∀ x ∈ M, x < ks.length) → 0 ≤ left → (∀ x ∈ M, 0 ≤ (l.getD x z42).f2) →
    (M.foldl (fillStep l) (ks, left)).1.length = ks.length ∧ (M.foldl (fillStep l) (ks, left)).2 = remF (fun x => (l.getD x z42).f2) M left ∧ (∀ y, y ∉ M → (M.foldl (fillStep l) (ks, left)).1.getD y 0 = ks.getD y 0) ∧ (∀ x ∈ M, 0 ≤ (M.foldl (fillStep l) (ks, left)).1.getD x 0 ∧ (M.foldl (fillStep l) (ks, left)).1.getD x 0 ≤ (l.getD x z42).f2) ∧ ∀ F : Nat → Int, (M.map fun x => F x * (M.foldl (fillStep l) (ks, left)).1.getD x 0).sum = gre F (fun x => (l.getD x z42).f2) M left := by
  intro M
  induction M with
  | nil => intro ks left _ _ _ _; exact ⟨rfl, rfl, fun _ _ => rfl, fun x hx => absurd hx (by simp), fun F => rfl⟩
  | cons x M ih =>
    intro ks left hn hlt h0 hS
    obtain ⟨hx, hn2⟩ := List.nodup_cons.1 hn
    have hs := hS x List.mem_cons_self
    have hxl := hlt x List.mem_cons_self
    rw [List.foldl_cons]
    have ef : fillStep l (ks, left) x = (ks.set x (min left (l.getD x z42).f2), left - min left (l.getD x z42).f2) := rfl
    rw [ef]
    obtain ⟨a1, a2, a3, a4, a5⟩ := ih (ks.set x (min left (l.getD x z42).f2)) (left - min left (l.getD x z42).f2) hn2 (fun y hy => by rw [List.length_set]; exact hlt y (List.mem_cons_of_mem _ hy)) (by omega) (fun y hy => hS y (List.mem_cons_of_mem _ hy))
    have ex : (M.foldl (fillStep l) (ks.set x (min left (l.getD x z42).f2), left - min left (l.getD x z42).f2)).1.getD x 0 = min left (l.getD x z42).f2 := by
      rw [a3 x hx]
      simp [List.getD_eq_getElem?_getD, hxl]
    refine ⟨by rw [a1, List.length_set], a2, fun y hy => ?_, fun y hy => ?_, fun F => ?_⟩
    · rw [a3 y (fun h => hy (List.mem_cons_of_mem _ h))]
      have : ¬ x = y := fun e => hy (by rw [e]; exact List.mem_cons_self)
      simp [List.getD_eq_getElem?_getD, List.getElem?_set, this]
    · rcases List.mem_cons.1 hy with rfl | hy
      · rw [ex]
        omega
      · exact a4 y hy
    · rw [List.map_cons, List.sum_cons, a5 F, ex]
      rfl
theorem strong_impl (l : List S42) (total : Int) (hok : floursOk l = true) (ht : 1 ≤ total ∧ total ≤ 500) (k : Nat) (hk : 1100 < k) : ∃ M : List Nat, M.Perm (List.range l.length) ∧ M.Pairwise (fun a b => (l.getD b z42).f0 ≤ (l.getD a z42).f0) ∧ impl_StrongestFor.f k l total = some (ansF l (M.foldl (fillStep l) (List.replicate l.length 0, total))) := by
  obtain ⟨k, rfl⟩ : ∃ m, k = m + 1 := ⟨k - 1, by omega⟩
  have h := hok
  unfold impl_StrongestFor.f
  rw [flours_impl]
  simp only [Option.bind_some, in_impl]
  rw [if_pos h, impl_StrongestFor.j0, decide_eq_true ht]
  simp only [Bool.not_true, Bool.false_eq_true, if_false]
  obtain ⟨⟨h1, h5⟩, hok⟩ := floursOk_iff.1 h
  have hb : l.length * (l.length + 3) ≤ 5 * 8 := Nat.mul_le_mul h5 (by omega)
  rw [indices_ok l.length k (by omega) (by omega)]
  simp only [Option.bind_some, Int.toNat_natCast]
  rw [if_pos (by omega), if_pos (by omega)]
  obtain ⟨ys, e, p, u⟩ := strong_sort l (by omega) hok k (by omega)
  rw [e]
  simp only [Option.bind_some]
  have hy : ys.length = l.length := by rw [p.length_eq]; simp
  have hv : ∀ x ∈ ys, 0 ≤ x ∧ x < (l.length : Int) := by
    intro x hx
    obtain ⟨i, hi, rfl⟩ := List.mem_map.1 (p.mem_iff.1 hx)
    have := List.mem_range.1 hi
    omega
  have pm : (ys.map Int.toNat).Perm (List.range l.length) := by
    have := p.map Int.toNat
    rw [List.map_map] at this
    have e2 : (List.range l.length).map (Int.toNat ∘ fun i : Nat => (i : Int)) = List.range l.length := by
      have : (Int.toNat ∘ fun i : Nat => (i : Int)) = id := by
        funext i
        simp
      rw [this, List.map_id]
    rw [e2] at this
    exact this
  refine ⟨ys.map Int.toNat, pm, ?_, ?_⟩
  · rw [List.pairwise_map]
    have up := uptoL_pairwise (flKey l) ys (by rw [hy]; exact u)
    refine List.Pairwise.imp (fun {a b} h1 => ?_) up
    unfold Lex flKey at h1
    omega
  · have := strong_walk l h5 hok ys hy hv total (by omega) k (by omega)
    simp only [List.length_map, List.length_range] at this ⊢
    exact this
theorem dot_sum (g : S42 → Int) (l : List S42) (ks : List Int) : dot g l ks = ((List.range ks.length).map fun i => g (l.getD i z42) * ks.getD i 0).sum := by
  unfold dot
  rw [fold_sum]
  omega
/-- The strongest blend is at least as strong as any of the same weight. -/
theorem strong_ge (l : List S42) (ks : List Int) (h : kOk l ks = true) (ht : 1 ≤ ks.sum ∧ ks.sum ≤ 500) (k : Nat) (hk : 1100 < k) : ∃ v, impl_StrongestFor.f k l ks.sum = some v ∧ strength l ks ≤ v := by
  obtain ⟨hok, hlen, hks⟩ := kOk_iff.1 h
  obtain ⟨M, pm, pw, e⟩ := strong_impl l ks.sum hok ht k hk
  refine ⟨_, e, ?_⟩
  have hmem : ∀ x, x ∈ M ↔ x < l.length := fun x => by rw [pm.mem_iff, List.mem_range]
  have hfl : ∀ x, x < l.length → flOk (l.getD x z42) = true := fun x hx => (floursOk_iff.1 hok).2 _ (by simp [List.getD_eq_getElem?_getD, hx])
  have hb : ∀ x ∈ M, 0 ≤ (l.getD x z42).f2 := fun x hx => (flOk_iff.1 (hfl x ((hmem x).1 hx))).2.2.1
  obtain ⟨a1, a2, _, a4, a5⟩ := fill_facts l M (List.replicate l.length 0) ks.sum (pm.nodup_iff.2 List.nodup_range) (fun x hx => by rw [List.length_replicate]; exact (hmem x).1 hx) (by omega) hb
  have sx : (M.map fun i => ks.getD i 0).sum = ks.sum := by rw [sum_perm _ pm, ← hlen, sum_getD]
  have hr : remF (fun x => (l.getD x z42).f2) M ks.sum = 0 := rem_zero _ M ks.sum (by omega) hb (by
    have := sum_le (M := M) (f := fun i => ks.getD i 0) (g := fun x => (l.getD x z42).f2) (fun x hx => (hks x (by rw [hlen]; exact (hmem x).1 hx)).2)
    omega)
  rw [hr] at a2
  generalize M.foldl (fillStep l) (List.replicate l.length 0, ks.sum) = s at a1 a2 a4 a5 ⊢
  obtain ⟨g, rest⟩ := s
  dsimp only at a1 a2 a4 a5
  subst a2
  unfold ansF
  rw [if_neg (by dsimp only; omega)]
  dsimp only
  have hg : g.length = l.length := by rw [a1]; simp
  have one := a5 (fun _ => 1)
  have e1 : gre (fun _ => 1) (fun x => (l.getD x z42).f2) M ks.sum = ks.sum := by
    have := gre_one (fun x => (l.getD x z42).f2) M ks.sum
    omega
  simp only [Int.one_mul] at one
  rw [e1, sum_perm _ pm, ← hg, sum_getD] at one
  have gok : kOk l g = true := kOk_iff.2 ⟨hok, hg, fun i hi => a4 i ((hmem i).2 (by omega))⟩
  unfold strength
  rw [if_pos ⟨h, by omega⟩, if_pos ⟨gok, by omega⟩, one]
  refine Int.ediv_le_ediv (by omega) ?_
  rw [dot_sum, dot_sum, hlen, hg, ← sum_perm _ pm, ← sum_perm _ pm, a5]
  exact gre_opt (fun x => (l.getD x z42).f0) (fun x => (l.getD x z42).f2) (fun x => ks.getD x 0) M ks.sum pw (fun y hy => by
    have := hks y (by rw [hlen]; exact (hmem y).1 hy)
    have := (flOk_iff.1 (hfl y ((hmem y).1 hy))).1.1
    omega) (by omega)
/-- The amounts of two flours: n of flour i, the rest of flour j. -/
def kil (m i j : Nat) (total n : Int) : List Int := ((List.replicate m (0 : Int)).set i n).set j (total - n)
theorem kil_len (m i j : Nat) (total n : Int) : (kil m i j total n).length = m := by simp [kil]
/-- What is kept of the best so far: the flours, the amount, the cost. -/
structure Best where
  a : Int
  b : Int
  c : Int
  best : Int
def tryOne (l : List S42) (total least : Int) (i j : Nat) (s : Best) (n : Nat) : Best :=
  if strength l (kil l.length i j total n) < least then s
  else if s.best < 0 then ⟨i, j, n, cost l (kil l.length i j total n)⟩
  else if cost l (kil l.length i j total n) < s.best then ⟨i, j, n, cost l (kil l.length i j total n)⟩ else s
def tryPair (l : List S42) (total least : Int) (i : Nat) (s : Best) (j : Nat) : Best := (List.range' 0 (total.toNat + 1)).foldl (tryOne l total least i j) s
def tryFirst (l : List S42) (total least : Int) (s : Best) (i : Nat) : Best := (List.range' (i + 1) (l.length - (i + 1))).foldl (tryPair l total least i) s
def tryAll (l : List S42) (total least : Int) : Best := (List.range' 0 l.length).foldl (tryFirst l total least) ⟨0, 0, 0, -1⟩
def cheap (l : List S42) (total least : Int) : Int × Int × Int × Bool :=
  if floursOk l = true ∧ (1 ≤ total ∧ total ≤ 100) ∧ 50 ≤ least ∧ least ≤ 500 then ((tryAll l total least).a, (tryAll l total least).b, (tryAll l total least).c, decide ((tryAll l total least).best ≥ 0)) else (0, 0, 0, false)
theorem sum_const (c : Nat) : ∀ (d i : Nat), ((List.range' i d).map (fun _ => c)).sum = c * d
  | 0, _ => by simp
  | d + 1, i => by
    rw [List.range'_succ, List.map_cons, List.sum_cons, sum_const c d (i + 1), Nat.mul_succ]
    omega
theorem strength_cost {l : List S42} {ks : List Int} {least : Int} (h50 : 50 ≤ least) (h : ¬ strength l ks < least) : kOk l ks = true := by
  apply Classical.byContradiction
  intro hn
  apply h
  unfold strength
  rw [if_neg (fun hh => hn hh.1)]
  omega
theorem dot_nonneg {l : List S42} {ks : List Int} (h : kOk l ks = true) : 0 ≤ dot S42.f1 l ks := by
  unfold dot
  have key : ∀ (is : List Nat) (c : Int), (∀ i ∈ is, i < ks.length) → 0 ≤ c → 0 ≤ is.foldl (fun c i => c + (l.getD i z42).f1 * ks.getD i 0) c := by
    intro is
    induction is with
    | nil => intro c _ h; exact h
    | cons i is ih =>
      intro c hi h0
      rw [List.foldl_cons]
      have hq := k_at h i (hi i List.mem_cons_self)
      have hf := flOk_iff.1 hq.1
      have hm := mul_small (a := (l.getD i z42).f1) (b := ks.getD i 0) (by omega) (by omega) (by omega) (by omega)
      exact ih _ (fun j hj => hi j (List.mem_cons_of_mem _ hj)) (by omega)
  exact key _ 0 (fun i hi => List.mem_range.1 hi) (by omega)
theorem cost_neg {l : List S42} {ks : List Int} : cost l ks ≥ 0 ↔ kOk l ks = true := by
  unfold cost
  by_cases h : kOk l ks = true
  · rw [if_pos h]
    exact ⟨fun _ => h, fun _ => dot_nonneg h⟩
  · rw [if_neg h]
    exact ⟨fun hh => by omega, fun hh => absurd hh h⟩
/-- What one search over two flours costs in rounds. -/
def cJ (total : Int) : Nat := total.toNat + 3
def cI (total : Int) (n i : Nat) : Nat := 2 + cJ total * (n - (i + 1))
def cAll (total : Int) (n : Nat) : Nat := ((List.range' 0 n).map (cI total n)).sum
theorem set_kil (l : List S42) (total : Int) (i j : Nat) (n : Int) : ((List.replicate ((l.length : Int) : Int).toNat (0 : Int)).set ((i : Int)).toNat n).set ((j : Int)).toNat (total - n) = kil l.length i j total n := by
  simp [kil]
section
variable (l : List S42) (total least : Int) (hl : l.length ≤ 5) (ht : 1 ≤ total ∧ total ≤ 100)
include hl ht
theorem pair_impl (h50 : 50 ≤ least ∧ least ≤ 500) (i j k : Nat) (s : Best) (hi : i < l.length) (hj : j < l.length) (hB : 40 < k) :
    impl_CheapestTwo.l2 (k + 1 + (total.toNat + 1)) l total least s.a s.b s.c s.best i j 0 l.length i = impl_CheapestTwo.l1 k l total least (tryPair l total least i s j).a (tryPair l total least i s j).b (tryPair l total least i s j).c (tryPair l total least i s j).best i ((j : Int) + 1) l.length i := by
  have L := seg (fun k n (s : Best) => impl_CheapestTwo.l2 k l total least s.a s.b s.c s.best i j n l.length i) (fun k s => impl_CheapestTwo.l1 k l total least s.a s.b s.c s.best i ((j : Int) + 1) l.length i) (total.toNat + 1) 40 (fun _ => 1) (fun _ _ => True) (tryOne l total least i j)
    (fun k n s hk hn _ => by
      have hN : wrap64 ((n : Int) + 1) = (n : Int) + 1 := w64 (by omega) (by omega)
      have hT : wrap64 (total - (n : Int)) = total - (n : Int) := w64 (by omega) (by omega)
      simp only [impl_CheapestTwo.l2, Option.bind_some, hN, hT]
      rw [if_pos (by omega), if_pos (by omega), if_pos (by rw [Int.toNat_natCast]; omega), if_pos (by omega), if_pos (by rw [List.length_replicate]; omega), if_pos (by omega), if_pos (by rw [List.length_replicate]; omega), set_kil l total i j n]
      rw [cost_impl l _ k (by omega) (by rw [kil_len]; omega) (by rw [kil_len]; omega)]
      simp only [Option.bind_some, tryOne]
      by_cases h0 : cost l (kil l.length i j total n) ≥ 0
      · rw [if_pos h0, strength_impl l _ k (by omega) (by rw [kil_len]; omega) (by rw [kil_len]; omega)]
        simp only [Option.bind_some]
        by_cases h1 : strength l (kil l.length i j total n) < least
        · rw [if_neg (by omega), if_pos h1]
        · rw [if_pos (by omega), if_neg h1]
          by_cases h2 : s.best < 0
          · rw [if_pos h2, if_pos h2]
          · rw [if_neg h2, if_neg h2]
            by_cases h3 : cost l (kil l.length i j total n) < s.best
            · rw [if_pos h3, if_pos h3]
            · rw [if_neg h3, if_neg h3]
      · have h1 : strength l (kil l.length i j total n) < least := by
          apply Classical.byContradiction
          intro hn
          exact h0 (cost_neg.2 (strength_cost h50.1 hn))
        rw [if_neg h0, if_pos h1])
    (fun _ _ _ _ => trivial)
    (fun k s hk _ => by
      simp only [impl_CheapestTwo.l2]
      rw [if_neg (by omega), w64 (n := (j : Int) + 1) (by omega) (by omega)])
    (total.toNat + 1) 0 k s (by omega) hB trivial
  rw [sum_const, Nat.one_mul] at L
  exact L.1
theorem first_impl (h50 : 50 ≤ least ∧ least ≤ 500) (i k : Nat) (s : Best) (hi : i < l.length) (hB : 40 < k) :
    impl_CheapestTwo.l1 (k + 1 + cJ total * (l.length - (i + 1))) l total least s.a s.b s.c s.best i ((i + 1 : Nat) : Int) l.length i = impl_CheapestTwo.l0 k l total least (tryFirst l total least s i).a (tryFirst l total least s i).b (tryFirst l total least s i).c (tryFirst l total least s i).best l.length ((i : Int) + 1) := by
  have L := seg (fun k j (s : Best) => impl_CheapestTwo.l1 k l total least s.a s.b s.c s.best i j l.length i) (fun k s => impl_CheapestTwo.l0 k l total least s.a s.b s.c s.best l.length ((i : Int) + 1)) l.length 40 (fun _ => cJ total) (fun _ _ => True) (tryPair l total least i)
    (fun k j s hk hj _ => by
      have e : k + cJ total = (k + 1 + (total.toNat + 1)) + 1 := by unfold cJ; omega
      rw [e]
      generalize hK : k + 1 + (total.toNat + 1) = K
      simp only [impl_CheapestTwo.l1]
      rw [if_pos (by omega), ← hK]
      exact pair_impl l total least hl ht h50 i j k s hi hj hk)
    (fun _ _ _ _ => trivial)
    (fun k s hk _ => by
      simp only [impl_CheapestTwo.l1]
      rw [if_neg (by omega), w64 (n := (i : Int) + 1) (by omega) (by omega)])
    (l.length - (i + 1)) (i + 1) k s (by omega) hB trivial
  rw [sum_const] at L
  exact L.1
theorem all_impl (h50 : 50 ≤ least ∧ least ≤ 500) (k : Nat) (s : Best) (hB : 40 < k) :
    impl_CheapestTwo.l0 (k + 1 + cAll total l.length) l total least s.a s.b s.c s.best l.length 0 = some (((List.range' 0 l.length).foldl (tryFirst l total least) s).a, ((List.range' 0 l.length).foldl (tryFirst l total least) s).b, ((List.range' 0 l.length).foldl (tryFirst l total least) s).c, decide (((List.range' 0 l.length).foldl (tryFirst l total least) s).best ≥ 0)) := by
  have L := seg (fun k i (s : Best) => impl_CheapestTwo.l0 k l total least s.a s.b s.c s.best l.length i) (fun _ s => some (s.a, s.b, s.c, decide (s.best ≥ 0))) l.length 40 (cI total l.length) (fun _ _ => True) (tryFirst l total least)
    (fun k i s hk hi _ => by
      have e : k + cI total l.length i = (k + 1 + cJ total * (l.length - (i + 1))) + 1 := by unfold cI; omega
      rw [e]
      generalize hK : k + 1 + cJ total * (l.length - (i + 1)) = K
      simp only [impl_CheapestTwo.l0]
      rw [if_pos (by omega), w64 (n := (i : Int) + 1) (by omega) (by omega), ← hK]
      exact first_impl l total least hl ht h50 i k s hi hk)
    (fun _ _ _ _ => trivial)
    (fun k s hk _ => by
      simp only [impl_CheapestTwo.l0]
      rw [if_neg (by omega)])
    l.length 0 k s (by omega) hB trivial
  exact L.1
end
theorem cheap_impl (l : List S42) (total least : Int) (k : Nat) (hl : l.length ≤ 1000000000) (hk : l.length + cAll total l.length + 60 < k) : impl_CheapestTwo.f k l total least = some (cheap l total least) := by
  obtain ⟨k, rfl⟩ : ∃ m, k = (m + 1 + cAll total l.length) + 1 := ⟨k - cAll total l.length - 2, by omega⟩
  simp only [impl_CheapestTwo.f, flours_impl, in_impl, Option.bind_some, impl_CheapestTwo.j0]
  by_cases h : floursOk l = true
  · rw [if_pos h]
    have hl5 := (floursOk_iff.1 h).1
    by_cases h1 : 1 ≤ total ∧ total ≤ 100
    · rw [decide_eq_true h1, if_pos rfl]
      by_cases h2 : 50 ≤ least ∧ least ≤ 500
      · rw [decide_eq_true h2, if_neg (by simp), all_impl l total least hl5.2 h1 h2 k ⟨0, 0, 0, -1⟩ (by omega)]
        unfold cheap
        rw [if_pos ⟨h, h1, h2⟩]
        rfl
      · rw [decide_eq_false h2, if_pos (by simp)]
        unfold cheap
        rw [if_neg (fun hh => h2 hh.2.2)]
    · rw [decide_eq_false h1, if_neg (by simp), if_pos trivial]
      unfold cheap
      rw [if_neg (fun hh => h1 hh.2.1)]
  · rw [if_neg h, if_pos trivial]
    unfold cheap
    rw [if_neg (fun hh => h hh.1)]
theorem fold_keep {σ α : Type} (f : σ → α → σ) (P : σ → Prop) : ∀ (L : List α) (s : σ), (∀ s, ∀ x ∈ L, P s → P (f s x)) → P s → P (L.foldl f s) := by
  intro L
  induction L with
  | nil => intro s _ h; exact h
  | cons x L ih => intro s hf h; exact ih (f s x) (fun s y hy => hf s y (List.mem_cons_of_mem _ hy)) (hf s x List.mem_cons_self h)
theorem fold_cov {σ α : Type} (f : σ → α → σ) (Q : σ → Prop) (y : α) : ∀ (L : List α) (s : σ), y ∈ L → (∀ s, Q (f s y)) → (∀ s x, Q s → Q (f s x)) → Q (L.foldl f s) := by
  intro L
  induction L with
  | nil => intro s h; exact absurd h (by simp)
  | cons x L ih =>
    intro s hy h1 h2
    rw [List.foldl_cons]
    rcases List.mem_cons.1 hy with rfl | hy
    · exact fold_keep f Q L _ (fun s x _ h => h2 s x h) (h1 s)
    · exact ih _ hy h1 h2
/-- What is kept is one that was tried. -/
def heldB (l : List S42) (total least : Int) (s : Best) : Prop := s.best < 0 ∨ ∃ i j n : Nat, i < j ∧ j < l.length ∧ n ≤ total.toNat ∧ s.a = i ∧ s.b = j ∧ s.c = n ∧ ¬ strength l (kil l.length i j total n) < least ∧ s.best = cost l (kil l.length i j total n)
/-- This one has been tried. -/
def triedB (l : List S42) (total least : Int) (i j n : Nat) (s : Best) : Prop := ¬ strength l (kil l.length i j total n) < least → 0 ≤ s.best ∧ s.best ≤ cost l (kil l.length i j total n)
theorem cost_ok {l : List S42} {total least : Int} (h50 : 50 ≤ least) {i j n : Nat} (h : ¬ strength l (kil l.length i j total n) < least) : 0 ≤ cost l (kil l.length i j total n) := cost_neg.2 (strength_cost h50 h)
theorem one_held {l : List S42} {total least : Int} {i j n : Nat} (hi : i < j) (hj : j < l.length) (hn : n ≤ total.toNat) {s : Best} (h : heldB l total least s) : heldB l total least (tryOne l total least i j s n) := by
  unfold tryOne
  by_cases c : strength l (kil l.length i j total n) < least
  · rw [if_pos c]; exact h
  · rw [if_neg c]
    have hnew : heldB l total least ⟨i, j, n, cost l (kil l.length i j total n)⟩ := .inr ⟨i, j, n, hi, hj, hn, rfl, rfl, rfl, c, rfl⟩
    by_cases c2 : s.best < 0
    · rw [if_pos c2]; exact hnew
    · rw [if_neg c2]
      by_cases c3 : cost l (kil l.length i j total n) < s.best
      · rw [if_pos c3]; exact hnew
      · rw [if_neg c3]; exact h
theorem one_keep {l : List S42} {total least : Int} (h50 : 50 ≤ least) {a b m : Nat} (i j n : Nat) {s : Best} (h : triedB l total least a b m s) : triedB l total least a b m (tryOne l total least i j s n) := by
  intro hs
  have h := h hs
  unfold tryOne
  by_cases c : strength l (kil l.length i j total n) < least
  · rw [if_pos c]; exact h
  · rw [if_neg c, if_neg (by omega)]
    by_cases c3 : cost l (kil l.length i j total n) < s.best
    · rw [if_pos c3]
      have := cost_ok h50 c
      dsimp only
      omega
    · rw [if_neg c3]; exact h
theorem one_cov {l : List S42} {total least : Int} (h50 : 50 ≤ least) (i j n : Nat) (s : Best) : triedB l total least i j n (tryOne l total least i j s n) := by
  intro hs
  have := cost_ok h50 hs
  unfold tryOne
  rw [if_neg hs]
  by_cases c2 : s.best < 0
  · rw [if_pos c2]; dsimp only; omega
  · rw [if_neg c2]
    by_cases c3 : cost l (kil l.length i j total n) < s.best
    · rw [if_pos c3]; dsimp only; omega
    · rw [if_neg c3]; omega
theorem all_held (l : List S42) (total least : Int) : heldB l total least (tryAll l total least) := by
  unfold tryAll
  refine fold_keep _ (heldB l total least) _ _ (fun s i hi h => ?_) (.inl (by decide))
  unfold tryFirst
  refine fold_keep _ (heldB l total least) _ _ (fun s j hj h => ?_) h
  unfold tryPair
  refine fold_keep _ (heldB l total least) _ _ (fun s n hn h => ?_) h
  have h1 := List.mem_range'_1.1 hi
  have h2 := List.mem_range'_1.1 hj
  have h3 := List.mem_range'_1.1 hn
  exact one_held (by omega) (by omega) (by omega) h
theorem all_tried (l : List S42) (total least : Int) (h50 : 50 ≤ least) (i j n : Nat) (hi : i < j) (hj : j < l.length) (hn : n ≤ total.toNat) : triedB l total least i j n (tryAll l total least) := by
  have k1 : ∀ a b s, triedB l total least i j n s → triedB l total least i j n (tryPair l total least a s b) := fun a b s h => by
    unfold tryPair
    exact fold_keep _ (triedB l total least i j n) _ _ (fun s m _ h => one_keep h50 a b m h) h
  have k2 : ∀ a s, triedB l total least i j n s → triedB l total least i j n (tryFirst l total least s a) := fun a s h => by
    unfold tryFirst
    exact fold_keep _ (triedB l total least i j n) _ _ (fun s b _ h => k1 a b s h) h
  unfold tryAll
  refine fold_cov _ (triedB l total least i j n) i _ _ (List.mem_range'_1.2 (by omega)) (fun s => ?_) (fun s a h => k2 a s h)
  unfold tryFirst
  refine fold_cov _ (triedB l total least i j n) j _ _ (List.mem_range'_1.2 (by omega)) (fun s => ?_) (fun s b h => k1 i b s h)
  unfold tryPair
  exact fold_cov _ (triedB l total least i j n) n _ _ (List.mem_range'_1.2 (by omega)) (fun s => one_cov h50 i j n s) (fun s m h => one_keep h50 i j m h)
/-- What is answered: two flours in order, strong enough, and no other amount of them is both strong enough and cheaper. -/
theorem cheap_facts (l : List S42) (total least : Int) (hok : floursOk l = true) (ht : 1 ≤ total ∧ total ≤ 100) (hl : 50 ≤ least ∧ least ≤ 500) :
    (∃ a b c : Int, cheap l total least = (a, b, c, false)) ∨ ∃ i j n : Nat, cheap l total least = ((i : Int), (j : Int), (n : Int), true) ∧ i < j ∧ j < l.length ∧ n ≤ total.toNat ∧ ¬ strength l (kil l.length i j total n) < least ∧ ∀ m : Nat, m ≤ total.toNat → ¬ strength l (kil l.length i j total m) < least → cost l (kil l.length i j total n) ≤ cost l (kil l.length i j total m) := by
  unfold cheap
  rw [if_pos ⟨hok, ht, hl⟩]
  have h1 := all_held l total least
  have h2 := all_tried l total least hl.1
  generalize tryAll l total least = s at h1 h2
  rcases h1 with h1 | ⟨i, j, n, hi, hj, hn, ea, eb, ec, hs, e⟩
  · exact .inl ⟨s.a, s.b, s.c, by rw [decide_eq_false (by omega)]⟩
  · refine .inr ⟨i, j, n, ?_, hi, hj, hn, hs, fun m hm hs2 => ?_⟩
    · have := cost_ok hl.1 hs
      rw [ea, eb, ec, decide_eq_true (by omega)]
    · have := (h2 i j m hi hj hm hs2).2
      omega
theorem and255 (x : Int) : 0 ≤ Go.bits .and .i64 x 255 ∧ Go.bits .and .i64 x 255 ≤ 255 := by
  have h2 : ((BitVec.ofInt 64 255).toNat : Nat) = 255 := rfl
  have h1 : ∀ a : Nat, a &&& 255 ≤ 255 := fun a => Nat.and_le_right
  have h3 := h1 (BitVec.ofInt 64 x).toNat
  have : Go.bits .and .i64 x 255 = (((BitVec.ofInt 64 x).toNat &&& 255 : Nat) : Int) := by
    have h5 : (BitVec.ofInt 64 x &&& BitVec.ofInt 64 255).toNat = (BitVec.ofInt 64 x).toNat &&& 255 := by rw [BitVec.toNat_and, h2]
    show Go.IntKind.i64.wrap ((BitVec.ofInt 64 x &&& BitVec.ofInt 64 255).toNat : Int) = _
    rw [h5, Go.IntKind.wrap_i64]
    omega
  rw [this]
  omega
theorem byte_ok (l : List Int) (i h : Int) (hi : 0 ≤ i) (hl : l.length ≤ 9223372036854775807) : ∃ x i' h', spec_l01Byte.f l i h = some (x, i', h') ∧ 0 ≤ x ∧ x ≤ 255 ∧ 0 ≤ i' := by
  unfold spec_l01Byte.f
  by_cases h1 : i < (l.length : Int)
  · rw [if_pos h1, if_pos hi]
    refine ⟨_, _, _, rfl, (and255 _).1, (and255 _).2, ?_⟩
    rw [w64 (by omega) (by omega)]
    omega
  · rw [if_neg h1]
    exact ⟨_, _, _, rfl, (and255 _).1, (and255 _).2, hi⟩
theorem below_ok (l : List Int) (i h n : Int) (hi : 0 ≤ i) (hl : l.length ≤ 9223372036854775807) : ∃ x i' h', spec_l01Below.f l i h n = some (x, i', h') ∧ 0 ≤ x ∧ (0 < n → x < n) ∧ (n ≤ 0 → x = 0) ∧ 0 ≤ i' := by
  unfold spec_l01Below.f
  by_cases h1 : n ≤ 0
  · rw [if_pos h1]
    exact ⟨_, _, _, rfl, Int.le_refl _, fun h => by omega, fun _ => rfl, hi⟩
  · rw [if_neg h1]
    have hn : n ≠ 0 := by omega
    by_cases h2 : n ≤ 256
    · rw [if_pos h2]
      obtain ⟨x, i1, g1, e1, a1, b1, c1⟩ := byte_ok l i h hi hl
      rw [e1]
      simp only [Option.bind_some]
      rw [if_neg hn]
      refine ⟨_, _, _, rfl, Int.tmod_nonneg _ a1, fun h => ?_, fun h => by omega, c1⟩
      exact Int.tmod_lt_of_pos _ h
    · rw [if_neg h2]
      obtain ⟨x1, i1, g1, e1, a1, b1, c1⟩ := byte_ok l i h hi hl
      rw [e1]
      simp only [Option.bind_some]
      obtain ⟨x2, i2, g2, e2, a2, b2, c2⟩ := byte_ok l i1 g1 c1 hl
      rw [e2]
      simp only [Option.bind_some]
      obtain ⟨x3, i3, g3, e3, a3, b3, c3⟩ := byte_ok l i2 g2 c2 hl
      rw [e3]
      simp only [Option.bind_some]
      obtain ⟨x4, i4, g4, e4, a4, b4, c4⟩ := byte_ok l i3 g3 c3 hl
      rw [e4]
      simp only [Option.bind_some]
      rw [if_neg hn]
      refine ⟨_, _, _, rfl, Int.tmod_nonneg _ ?_, fun h => Int.tmod_lt_of_pos _ h, fun h => by omega, c4⟩
      unfold wrap64
      omega
theorem new_ok (l : List Int) (k : Nat) (hk : l.length < k) (hl : l.length ≤ 9223372036854775807) : ∃ h, spec_l01New.f k l = some (l, 0, h) := by
  have key : ∀ (d k : Nat) (h : Int) (i : Nat), i ≤ l.length → l.length - i = d → d < k → ∃ h', spec_l01New.l0 k l h i = some (l, 0, h') := by
    intro d
    induction d with
    | zero =>
      intro k h i hi hd hk
      obtain ⟨k, rfl⟩ : ∃ m, k = m + 1 := ⟨k - 1, by omega⟩
      simp only [spec_l01New.l0]
      rw [if_neg (by omega)]
      exact ⟨_, rfl⟩
    | succ d ih =>
      intro k h i hi hd hk
      obtain ⟨k, rfl⟩ : ∃ m, k = m + 1 := ⟨k - 1, by omega⟩
      simp only [spec_l01New.l0]
      rw [if_pos (by omega)]
      by_cases h4 : (i : Int) < 4000
      · rw [if_pos h4, if_pos (by omega), w64s (n := l.length) (by omega) (by omega) hl]
        exact ih k _ (i + 1) (by omega) (by omega) (by omega)
      · rw [if_neg h4]
        exact ⟨_, rfl⟩
  exact key l.length k _ 0 (by omega) (by omega) hk
theorem at_ok (l : List Int) (i : Int) (hi : 0 ≤ i) (hi2 : i ≤ 1000) (hl : l.length ≤ 9223372036854775807) (hw : ∀ x ∈ l, (Lit.int .u8 x).wf = true) : ∃ v, laws_at.f l i = some v ∧ 0 ≤ v ∧ v ≤ 255 := by
  unfold laws_at.f
  by_cases h : (l.length : Int) = 0
  · rw [if_pos h]
    exact ⟨0, rfl, by omega, by omega⟩
  · rw [if_neg h]
    have e : wrap64 (wrap64 (i * 5) + 1) = i * 5 + 1 := by unfold wrap64; omega
    rw [e]
    have h1 : 0 ≤ Int.tmod (i * 5 + 1) (l.length : Int) := Int.tmod_nonneg _ (by omega)
    have h2 : Int.tmod (i * 5 + 1) (l.length : Int) < (l.length : Int) := Int.tmod_lt_of_pos _ (by omega)
    rw [if_pos h1, if_pos h2]
    generalize Int.tmod (i * 5 + 1) (l.length : Int) = j at h1 h2
    have hj : j.toNat < l.length := by omega
    have hr : rd l j = l[j.toNat] := by simp [rd, List.getD_eq_getElem?_getD, hj]
    have hb := hw _ (List.getElem_mem hj)
    simp only [Lit.wf, IntKind.min, IntKind.max, IntKind.signed, IntKind.bits, Bool.and_eq_true, decide_eq_true_eq] at hb
    rw [hr]
    generalize l[j.toNat] = v at hb
    refine ⟨_, rfl, ?_, ?_⟩ <;> (rw [w64 (by simp at hb; omega) (by simp at hb; omega)]; simp at hb; omega)
theorem big_eq (l : List Int) : laws_big.f l = some (decide ((l.length : Int) > 1048576)) := rfl
theorem dot_snoc (g : S42 → Int) (l : List S42) (ks : List Int) (n : Int) : dot g l (ks ++ [n]) = dot g l ks + g (l.getD ks.length z42) * n := by
  rw [dot_sum, dot_sum, List.length_append, List.length_singleton, List.range_succ, List.map_append, List.sum_append]
  have e1 : (List.range ks.length).map (fun i => g (l.getD i z42) * (ks ++ [n]).getD i 0) = (List.range ks.length).map (fun i => g (l.getD i z42) * ks.getD i 0) := by
    apply List.map_congr_left
    intro i hi
    have := List.mem_range.1 hi
    simp [List.getD_eq_getElem?_getD, List.getElem?_append_left this]
  rw [e1]
  simp [List.getD_eq_getElem?_getD]
/-- Drawn flours. -/
def Flo (l : List S42) : Prop := 1 ≤ l.length ∧ l.length ≤ 4 ∧ ∀ f ∈ l, flOk f = true
theorem Flo.ok {l : List S42} (h : Flo l) : floursOk l = true := floursOk_iff.2 ⟨⟨h.1, by have := h.2.1; omega⟩, h.2.2⟩
theorem Flo.at {l : List S42} (h : Flo l) {i : Nat} (hi : i < l.length) : (50 ≤ (l.getD i z42).f0 ∧ (l.getD i z42).f0 ≤ 500) ∧ (1 ≤ (l.getD i z42).f1 ∧ (l.getD i z42).f1 ≤ 100) ∧ 0 ≤ (l.getD i z42).f2 ∧ (l.getD i z42).f2 ≤ 100 :=
  flOk_iff.1 (h.2.2 _ (by simp [List.getD_eq_getElem?_getD, hi]))
/-- What holds of the amounts drawn so far. -/
structure Inv (l : List S42) (i : Nat) (ks : List Int) (low high sum cst : Int) : Prop where
  len : ks.length = i
  bd : ∀ j, j < i → 0 ≤ ks.getD j 0 ∧ ks.getD j 0 ≤ (l.getD j z42).f2
  hs : sum = ks.sum
  hc : cst = dot S42.f1 l ks
  h1 : low * sum ≤ dot S42.f0 l ks
  h2 : dot S42.f0 l ks ≤ high * sum
  b1 : 0 ≤ sum ∧ sum ≤ 100 * (i : Int)
  b2 : 0 ≤ cst ∧ cst ≤ 50000 * (i : Int)
  b3 : 0 ≤ dot S42.f0 l ks
  b4 : 0 ≤ low ∧ 0 ≤ high
theorem inv_zero (l : List S42) : Inv l 0 [] 500 0 0 0 := ⟨rfl, fun j hj => by omega, rfl, rfl, by simp [dot], by simp [dot], by omega, by omega, by simp [dot], by omega⟩
theorem inv_step {l : List S42} (hf : Flo l) {i : Nat} (hi : i < l.length) {ks : List Int} {low high sum cst n : Int} (h : Inv l i ks low high sum cst) (hn : 0 ≤ n ∧ n ≤ (l.getD i z42).f2) (low' high' : Int) (hl : (n = 0 ∧ low' = low ∧ high' = high) ∨ low' = min low (l.getD i z42).f0 ∧ high' = max high (l.getD i z42).f0) : Inv l (i + 1) (ks ++ [n]) low' high' (sum + n) (cst + n * (l.getD i z42).f1) := by
  obtain ⟨len, bd, hs, hc, h1, h2, b1, b2, b3, b4⟩ := h
  obtain ⟨⟨p0, p1⟩, ⟨q0, q1⟩, s0, s1⟩ := hf.at hi
  have d0 := dot_snoc S42.f0 l ks n
  have d1 := dot_snoc S42.f1 l ks n
  rw [len] at d0 d1
  have hbd : ∀ j, j < i + 1 → 0 ≤ (ks ++ [n]).getD j 0 ∧ (ks ++ [n]).getD j 0 ≤ (l.getD j z42).f2 := by
    intro j hj
    by_cases e : j = i
    · subst e
      have : (ks ++ [n]).getD j 0 = n := by rw [← len]; simp [List.getD_eq_getElem?_getD]
      rw [this]
      exact hn
    · have : (ks ++ [n]).getD j 0 = ks.getD j 0 := by
        simp [List.getD_eq_getElem?_getD, List.getElem?_append_left (show j < ks.length by omega)]
      rw [this]
      exact bd j (by omega)
  clear bd
  generalize (l.getD i z42) = f at *
  have m0 := mul_small (a := f.f0) (b := n) (by omega) p1 hn.1 (by omega)
  have m1 := mul_small (a := f.f1) (b := n) (by omega) (by omega) hn.1 (by omega)
  have mc : n * f.f1 = f.f1 * n := Int.mul_comm _ _
  have hlow : low' * (sum + n) ≤ dot S42.f0 l ks + f.f0 * n := by
    rw [Int.mul_add]
    rcases hl with ⟨rfl, rfl, rfl⟩ | ⟨rfl, rfl⟩
    · simp only [Int.mul_zero, Int.add_zero]; exact h1
    · have a1 : min low f.f0 * sum ≤ low * sum := Int.mul_le_mul_of_nonneg_right (by omega) b1.1
      have a2 : min low f.f0 * n ≤ f.f0 * n := Int.mul_le_mul_of_nonneg_right (by omega) hn.1
      omega
  have hhigh : dot S42.f0 l ks + f.f0 * n ≤ high' * (sum + n) := by
    rw [Int.mul_add]
    rcases hl with ⟨rfl, rfl, rfl⟩ | ⟨rfl, rfl⟩
    · simp only [Int.mul_zero, Int.add_zero]; exact h2
    · have a1 : high * sum ≤ max high f.f0 * sum := Int.mul_le_mul_of_nonneg_right (by omega) b1.1
      have a2 : f.f0 * n ≤ max high f.f0 * n := Int.mul_le_mul_of_nonneg_right (by omega) hn.1
      omega
  exact ⟨by simp [len], hbd, by rw [List.sum_append, ← hs]; simp, by rw [d1, ← hc, mc], by rw [d0]; exact hlow, by rw [d0]; exact hhigh, by omega, by rw [mc]; omega, by rw [d0]; omega, by omega⟩
theorem inv_ok {l : List S42} (hf : Flo l) {ks : List Int} {low high sum cst : Int} (h : Inv l l.length ks low high sum cst) : kOk l ks = true := kOk_iff.2 ⟨hf.ok, h.len, fun i hi => h.bd i (by have := h.len; omega)⟩
/-- A blend's strength lies between its flours'. -/
theorem inv_strength {l : List S42} (hf : Flo l) {ks : List Int} {low high sum cst : Int} (h : Inv l l.length ks low high sum cst) : (sum = 0 ∧ strength l ks = -1) ∨ (0 < sum ∧ 0 ≤ strength l ks ∧ low ≤ strength l ks ∧ strength l ks ≤ high) := by
  have hk := inv_ok hf h
  obtain ⟨len, bd, hs, hc, h1, h2, b1, b2, b3, b4⟩ := h
  unfold strength
  by_cases c : sum = 0
  · left
    rw [if_neg (fun hh => hh.2 (by omega))]
    exact ⟨c, rfl⟩
  · right
    rw [if_pos ⟨hk, by omega⟩, ← hs]
    have hp : 0 < sum := by omega
    exact ⟨hp, Int.ediv_nonneg b3 (by omega), (Int.le_ediv_iff_mul_le hp).2 h1, Int.ediv_le_of_le_mul hp h2⟩
theorem inv_cost {l : List S42} (hf : Flo l) {ks : List Int} {low high sum cst : Int} (h : Inv l l.length ks low high sum cst) : cost l ks = cst := by
  unfold cost
  rw [if_pos (inv_ok hf h), h.hc]
theorem flours_loop (code : List Int) (hc : code.length ≤ 9223372036854775807) (n : Nat) (hn : n ≤ 4) : ∀ (d k i : Nat) (out : List S42) (ci h : Int), i + d = n → d < k → out.length = i → (∀ f ∈ out, flOk f = true) → 0 ≤ ci → ∃ vs ci' h', spec_l27List.l0 k out n i code ci h = some (vs, ci', h') ∧ vs.length = n ∧ ∀ f ∈ vs, flOk f = true := by
  intro d
  induction d with
  | zero =>
    intro k i out ci h hd hk ho hv hci
    obtain ⟨k, rfl⟩ : ∃ m, k = m + 1 := ⟨k - 1, by omega⟩
    simp only [spec_l27List.l0]
    rw [if_neg (by omega)]
    exact ⟨out, ci, h, rfl, by omega, hv⟩
  | succ d ih =>
    intro k i out ci h hd hk ho hv hci
    obtain ⟨k, rfl⟩ : ∃ m, k = m + 1 := ⟨k - 1, by omega⟩
    obtain ⟨x, i1, g1, e1, x0, x1, _, c1⟩ := below_ok code ci h 50 hci hc
    obtain ⟨y, i2, g2, e2, y0, y1, _, c2⟩ := below_ok code i1 g1 20 c1 hc
    obtain ⟨z, i3, g3, e3, z0, z1, _, c3⟩ := below_ok code i2 g2 30 c2 hc
    have x1 := x1 (by omega)
    have y1 := y1 (by omega)
    have z1 := z1 (by omega)
    simp only [spec_l27List.l0]
    rw [if_pos (by omega), e1, Option.bind_some, e2, Option.bind_some, e3, Option.bind_some, if_pos (by omega)]
    rw [w64 (n := 5 * x) (by omega) (by omega), w64 (n := 100 + 5 * x) (by omega) (by omega), w64 (n := 1 + y) (by omega) (by omega), w64 (n := (i : Int) + 1) (by omega) (by omega)]
    have := ih k (i + 1) (out ++ [⟨100 + 5 * x, 1 + y, z⟩]) i3 g3 (by omega) (by omega) (by simp; omega) (fun f hf => by
      rcases List.mem_append.1 hf with hf | hf
      · exact hv f hf
      · rw [List.mem_singleton.1 hf]
        exact flOk_iff.2 ⟨⟨by dsimp only; omega, by dsimp only; omega⟩, ⟨by dsimp only; omega, by dsimp only; omega⟩, by dsimp only; omega, by dsimp only; omega⟩) c3
    exact this
theorem drawFlours_ok (code : List Int) (k : Nat) (hk : code.length + 100 < k) (hc : code.length ≤ 9223372036854775807) : ∃ vs, spec_DrawFlours.f k code = some vs ∧ Flo vs := by
  unfold spec_DrawFlours.f spec_l27List.f
  obtain ⟨h, e⟩ := new_ok code k (by omega) hc
  rw [e, Option.bind_some]
  obtain ⟨x, i1, g1, e1, x0, x1, _, c1⟩ := below_ok code 0 h 4 (by omega) hc
  have x1 := x1 (by omega)
  rw [e1, Option.bind_some]
  obtain ⟨x, rfl⟩ : ∃ j : Nat, x = j := ⟨x.toNat, by omega⟩
  have ex : wrap64 (1 + (x : Int)) = ((x + 1 : Nat) : Int) := by rw [w64 (by omega) (by omega)]; omega
  dsimp only
  rw [ex]
  obtain ⟨vs, c', h', e2, l1, l2⟩ := flours_loop code hc (x + 1) (by omega) (x + 1) k 0 [] i1 g1 (by omega) (by omega) rfl (by simp) c1
  have e2' : spec_l27List.l0 k [] ((x + 1 : Nat) : Int) 0 code i1 g1 = some (vs, c', h') := e2
  rw [e2', Option.bind_some]
  exact ⟨vs, rfl, by omega, by omega, l2⟩
theorem cAll_le (t : Int) (n : Nat) (hn : n ≤ 4) (ht : t ≤ 20) : cAll t n ≤ 600 := by
  unfold cAll cI cJ
  have : t.toNat ≤ 20 := by omega
  generalize t.toNat = q at this
  have hc : n = 0 ∨ n = 1 ∨ n = 2 ∨ n = 3 ∨ n = 4 := by omega
  rcases hc with rfl | rfl | rfl | rfl | rfl <;> simp [List.range'] <;> omega




end Go.Proofs.Ytkgpjndlpjjobaa.Lem
