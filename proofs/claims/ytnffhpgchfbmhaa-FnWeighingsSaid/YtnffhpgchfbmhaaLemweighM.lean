/- Plain lemmas on the printed functions: what they compute; conditions stand in each lemma. -/
import Derived.Test.YtnffhpgchfbmhaaQx1
import Derived.Test.YtnffhpgchfbmhaaQx2
import Derived.Test.YtnffhpgchfbmhaaQx3
import Derived.Test.YtnffhpgchfbmhaaQx4
import Derived.Test.YtnffhpgchfbmhaaQx5
import Derived.Test.YtnffhpgchfbmhaaQx6
import Derived.Test.YtnffhpgchfbmhaaQx7
import Derived.Test.YtnffhpgchfbmhaaQx8
import Derived.Test.YtnffhpgchfbmhaaQx9
import Derived.Test.YtnffhpgchfbmhaaQx10
import Derived.Test.YtnffhpgchfbmhaaQx11
import Derived.Test.YtnffhpgchfbmhaaQx12
import Derived.Test.YtnffhpgchfbmhaaQx14
import Derived.Test.YtnffhpgchfbmhaaQx15
import Derived.Test.YtnffhpgchfbmhaaQx16
import Derived.Test.YtnffhpgchfbmhaaQx17
import Derived.Test.YtnffhpgchfbmhaaQx21
import Derived.Test.YtnffhpgchfbmhaaQx27
import Derived.Test.YtnffhpgchfbmhaaQx28
import Derived.Test.YtnffhpgchfbmhaaQx29
import Derived.Test.YtnffhpgchfbmhaaQx30
import Derived.Test.YtnffhpgchfbmhaaQx31
import Derived.Test.YtnffhpgchfbmhaaQx32
import Derived.Lib.SlicesCompact
import Derived.Laws.BitsLemmas
namespace Go.Proofs.Ytnffhpgchfbmhaa.Lem
open Go.RowKit Go.Proofs.Ytnffhpgchfbmhaa.Q Go.Proofs.YtnffhpgchfbmhaaW.PrintWords Go.Proofs.YtnffhpgchfbmhaaW.PrintLast Go.Proofs.YtnffhpgchfbmhaaW.PrintMore
set_option linter.unusedVariables false
set_option linter.unusedSimpArgs false
-- LEM
theorem rd_nat (l : List Int) (i : Nat) : rd l (i : Int) = l.getD i 0 := by simp [rd]
theorem wf64 {n : Int} (h : (Lit.int .i64 n).wf = true) : -9223372036854775808 ≤ n ∧ n ≤ 9223372036854775807 := by
  simp only [Lit.wf, IntKind.min, IntKind.max, IntKind.signed, IntKind.bits, Bool.and_eq_true, decide_eq_true_eq, if_true] at h
  omega
theorem w64 {n : Int} (h : -9223372036854775808 ≤ n) (h2 : n ≤ 9223372036854775807) : wrap64 n = n := by
  unfold wrap64
  omega
theorem w64s {i : Int} {n : Nat} (h0 : 0 ≤ i) (h1 : i < (n : Int)) (hn : n ≤ 9223372036854775807) : wrap64 (i + 1) = i + 1 := by
  unfold wrap64
  omega
/-- A loop over places i .. n with a state, without a way out. -/
theorem run_fold {σ R : Type} (L : Nat → Int → σ → Option R) (n : Nat) (hn : n ≤ 9223372036854775807) (step : σ → Nat → σ) (fin : σ → Option R)
    (h1 : ∀ k (i : Nat) s, i < n → L (k + 1) i s = L k (wrap64 ((i : Int) + 1)) (step s i))
    (h2 : ∀ k s, L (k + 1) n s = fin s) :
    ∀ (d : Nat) (k : Nat) (i : Nat) (s : σ), i + d = n → d < k → L k i s = fin ((List.range' i d).foldl step s) := by
  intro d
  induction d with
  | zero =>
    intro k i s hd hk
    obtain ⟨k, rfl⟩ : ∃ m, k = m + 1 := ⟨k - 1, by omega⟩
    have : i = n := by omega
    subst this
    simpa using h2 k s
  | succ d ih =>
    intro k i s hd hk
    obtain ⟨k, rfl⟩ : ∃ m, k = m + 1 := ⟨k - 1, by omega⟩
    rw [h1 k i s (by omega), w64s (n := n) (by omega) (by omega) hn]
    have := ih k (i + 1) (step s i) (by omega) (by omega)
    rw [List.range'_succ, List.foldl_cons]
    simpa using this
/-- A loop over places i .. n with a state and a way out: 'none' of step: out with 'out'. -/
def foldX {σ R : Type} (step : σ → Nat → σ ⊕ R) (fin : σ → Option R) : List Nat → σ → Option R
  | [], s => fin s
  | i :: is, s => match step s i with
    | .inl s' => foldX step fin is s'
    | .inr r => some r
theorem run_foldX {σ R : Type} (L : Nat → Int → σ → Option R) (n : Nat) (hn : n ≤ 9223372036854775807) (step : σ → Nat → σ ⊕ R) (fin : σ → Option R)
    (h1 : ∀ k (i : Nat) s, i < n → L (k + 1) i s = match step s i with | .inl s' => L k (wrap64 ((i : Int) + 1)) s' | .inr r => some r)
    (h2 : ∀ k s, L (k + 1) n s = fin s) :
    ∀ (d : Nat) (k : Nat) (i : Nat) (s : σ), i + d = n → d < k → L k i s = foldX step fin (List.range' i d) s := by
  intro d
  induction d with
  | zero =>
    intro k i s hd hk
    obtain ⟨k, rfl⟩ : ∃ m, k = m + 1 := ⟨k - 1, by omega⟩
    have : i = n := by omega
    subst this
    simpa [foldX] using h2 k s
  | succ d ih =>
    intro k i s hd hk
    obtain ⟨k, rfl⟩ : ∃ m, k = m + 1 := ⟨k - 1, by omega⟩
    rw [h1 k i s (by omega), w64s (n := n) (by omega) (by omega) hn, List.range'_succ]
    simp only [foldX]
    cases hs : step s i with
    | inl s' => simpa using ih k (i + 1) s' (by omega) (by omega)
    | inr r => rfl
/-- A loop that only asks whether all places pass. -/
theorem run_all {R : Type} (L : Nat → Int → Option R) (n : Nat) (hn : n ≤ 9223372036854775807) (p : Nat → Bool) (no : R) (fin : Option R)
    (h1 : ∀ k (i : Nat), i < n → L (k + 1) i = if p i = true then L k (wrap64 ((i : Int) + 1)) else some no)
    (h2 : ∀ k, L (k + 1) n = fin) (k : Nat) (hk : n < k) : L k 0 = if (List.range n).all p then fin else some no := by
  have key : ∀ (d k i : Nat), i + d = n → d < k → L k i = if (List.range' i d).all p then fin else some no := by
    intro d
    induction d with
    | zero =>
      intro k i hd hk
      obtain ⟨k, rfl⟩ : ∃ m, k = m + 1 := ⟨k - 1, by omega⟩
      have : i = n := by omega
      subst this
      simpa using h2 k
    | succ d ih =>
      intro k i hd hk
      obtain ⟨k, rfl⟩ : ∃ m, k = m + 1 := ⟨k - 1, by omega⟩
      rw [h1 k i (by omega), w64s (n := n) (by omega) (by omega) hn, List.range'_succ, List.all_cons]
      by_cases hp : p i = true
      · have := ih k (i + 1) (by omega) (by omega)
        simp only [hp, if_true, Bool.true_and]
        simpa using this
      · simp [hp]
  have := key n k 0 (by omega) hk
  rw [List.range_eq_range']
  simpa using this
theorem all_range_getD {α : Type} (l : List α) (d : α) (p : α → Bool) : (List.range l.length).all (fun i => p (l.getD i d)) = l.all p := by
  rw [Bool.eq_iff_iff, List.all_eq_true, List.all_eq_true]
  constructor
  · intro h x hx
    obtain ⟨i, hi, rfl⟩ := List.mem_iff_getElem.1 hx
    have := h i (List.mem_range.2 hi)
    simpa [List.getD_eq_getElem?_getD, hi] using this
  · intro h i hi
    have hi' := List.mem_range.1 hi
    have := h l[i] (List.getElem_mem hi')
    simpa [List.getD_eq_getElem?_getD, hi'] using this
theorem foldl_range_getD {α σ : Type} (l : List α) (d : α) (f : σ → α → σ) (s : σ) : (List.range' 0 l.length).foldl (fun s i => f s (l.getD i d)) s = l.foldl f s := by
  have : l = (List.range' 0 l.length).map (fun i => l.getD i d) := by
    apply List.ext_getElem
    · simp
    · intro i h1 h2
      simp [List.getD_eq_getElem?_getD, h1]
  conv => rhs; rw [this, List.foldl_map]
/-- A loop that fills a row place by place. -/
theorem copy_loop {α : Type} (L : Nat → List α → Int → Option (List α)) (n : Nat) (hn : n ≤ 9223372036854775807) (v : Nat → α)
    (h1 : ∀ k (i : Nat) xs, i < n → xs.length = n → L (k + 1) xs i = L k (xs.set i (v i)) (wrap64 ((i : Int) + 1)))
    (h2 : ∀ k xs, xs.length = n → L (k + 1) xs n = some xs) (xs0 : List α) (hx : xs0.length = n) (k : Nat) (hk : n < k) : L k xs0 0 = some ((List.range n).map v) := by
  have key : ∀ (d k i : Nat) (xs : List α), i + d = n → d < k → xs.length = n → (∀ j, j < i → xs[j]? = some (v j)) → L k xs i = some ((List.range n).map v) := by
    intro d
    induction d with
    | zero =>
      intro k i xs hd hk hl hj
      obtain ⟨k, rfl⟩ : ∃ m, k = m + 1 := ⟨k - 1, by omega⟩
      have : i = n := by omega
      subst this
      rw [h2 k xs hl]
      congr 1
      apply List.ext_getElem?
      intro j
      by_cases h : j < i
      · rw [hj j h]
        simp [h]
      · rw [List.getElem?_eq_none (by omega), List.getElem?_eq_none (by simp; omega)]
    | succ d ih =>
      intro k i xs hd hk hl hj
      obtain ⟨k, rfl⟩ : ∃ m, k = m + 1 := ⟨k - 1, by omega⟩
      rw [h1 k i xs (by omega) hl, w64s (n := n) (by omega) (by omega) hn]
      have := ih k (i + 1) (xs.set i (v i)) (by omega) (by omega) (by simpa using hl) (fun j hj2 => by
        rw [List.getElem?_set]
        by_cases e : i = j
        · subst e
          simp; omega
        · rw [if_neg e]
          exact hj j (by omega))
      simpa using this
  exact key n k 0 xs0 (by omega) hk hx (fun j hj => by omega)
theorem map_range_getD {α β : Type} (l : List α) (d : α) (f : α → β) : (List.range l.length).map (fun i => f (l.getD i d)) = l.map f := by
  apply List.ext_getElem
  · simp
  · intro i h1 h2
    simp at h1
    simp [List.getD_eq_getElem?_getD, h1]
/-- A loop over the places 0 .. n with a state, what it calls wanting more than B rounds, and what holds of the state at each place. -/
theorem loop_fold {σ R : Type} (L : Nat → Int → σ → Option R) (n B : Nat) (hn : n ≤ 9223372036854775807) (P : Nat → σ → Prop) (step : σ → Nat → σ) (fin : σ → Option R)
    (h1 : ∀ k (i : Nat) s, B < k → i < n → P i s → L (k + 1) i s = L k (wrap64 ((i : Int) + 1)) (step s i))
    (hP : ∀ (i : Nat) s, i < n → P i s → P (i + 1) (step s i))
    (h2 : ∀ k s, B < k → P n s → L (k + 1) n s = fin s) (k : Nat) (s : σ) (h0 : P 0 s) (hk : n + B + 1 < k) :
    L k 0 s = fin ((List.range n).foldl step s) ∧ P n ((List.range n).foldl step s) := by
  have key : ∀ (d k i : Nat) (s : σ), i + d = n → d + B + 1 < k → P i s → L k i s = fin ((List.range' i d).foldl step s) ∧ P n ((List.range' i d).foldl step s) := by
    intro d
    induction d with
    | zero =>
      intro k i s hd hk hp
      obtain ⟨k, rfl⟩ : ∃ m, k = m + 1 := ⟨k - 1, by omega⟩
      have : i = n := by omega
      subst this
      exact ⟨by simpa using h2 k s (by omega) hp, by simpa using hp⟩
    | succ d ih =>
      intro k i s hd hk hp
      obtain ⟨k, rfl⟩ : ∃ m, k = m + 1 := ⟨k - 1, by omega⟩
      rw [h1 k i s (by omega) (by omega) hp, w64s (n := n) (by omega) (by omega) hn]
      have := ih k (i + 1) (step s i) (by omega) (by omega) (hP i s (by omega) hp)
      rw [List.range'_succ, List.foldl_cons]
      simpa using this
  have := key n k 0 s (by omega) (by omega) h0
  rw [List.range_eq_range']
  simpa using this
/-- The same without anything to hold of the state. -/
theorem loop_fold' {σ R : Type} (L : Nat → Int → σ → Option R) (n B : Nat) (hn : n ≤ 9223372036854775807) (step : σ → Nat → σ) (fin : σ → Option R)
    (h1 : ∀ k (i : Nat) s, B < k → i < n → L (k + 1) i s = L k (wrap64 ((i : Int) + 1)) (step s i))
    (h2 : ∀ k s, B < k → L (k + 1) n s = fin s) (k : Nat) (s : σ) (hk : n + B + 1 < k) :
    L k 0 s = fin ((List.range n).foldl step s) :=
  (loop_fold L n B hn (fun _ _ => True) step fin (fun k i s a b _ => h1 k i s a b) (fun _ _ _ _ => trivial) (fun k s a _ => h2 k s a) k s trivial hk).1
theorem foldl_range_getD' {α σ : Type} (l : List α) (d : α) (f : σ → α → σ) (s : σ) : (List.range l.length).foldl (fun s i => f s (l.getD i d)) s = l.foldl f s := by
  rw [List.range_eq_range']
  exact foldl_range_getD l d f s
/-- A loop with a way out. -/
theorem loop_foldX {σ R : Type} (L : Nat → Int → σ → Option R) (n B : Nat) (hn : n ≤ 9223372036854775807) (P : Nat → σ → Prop) (step : σ → Nat → σ ⊕ R) (fin : σ → Option R)
    (h1 : ∀ k (i : Nat) s, B < k → i < n → P i s → L (k + 1) i s = match step s i with | .inl s' => L k (wrap64 ((i : Int) + 1)) s' | .inr r => some r)
    (hP : ∀ (i : Nat) s s', i < n → P i s → step s i = .inl s' → P (i + 1) s')
    (h2 : ∀ k s, B < k → P n s → L (k + 1) n s = fin s) (k : Nat) (s : σ) (h0 : P 0 s) (hk : n + B + 1 < k) :
    L k 0 s = foldX step fin (List.range n) s := by
  have key : ∀ (d k i : Nat) (s : σ), i + d = n → d + B + 1 < k → P i s → L k i s = foldX step fin (List.range' i d) s := by
    intro d
    induction d with
    | zero =>
      intro k i s hd hk hp
      obtain ⟨k, rfl⟩ : ∃ m, k = m + 1 := ⟨k - 1, by omega⟩
      have : i = n := by omega
      subst this
      simpa [foldX] using h2 k s (by omega) hp
    | succ d ih =>
      intro k i s hd hk hp
      obtain ⟨k, rfl⟩ : ∃ m, k = m + 1 := ⟨k - 1, by omega⟩
      rw [h1 k i s (by omega) (by omega) hp, w64s (n := n) (by omega) (by omega) hn, List.range'_succ]
      simp only [foldX]
      cases hs : step s i with
      | inl s' => simpa using ih k (i + 1) s' (by omega) (by omega) (hP i s s' (by omega) hp hs)
      | inr r => rfl
  have := key n k 0 s (by omega) (by omega) h0
  rw [List.range_eq_range']
  simpa using this
/-- A loop that only asks whether all places pass. -/
theorem loop_all {R : Type} (L : Nat → Int → Option R) (n B : Nat) (hn : n ≤ 9223372036854775807) (p : Nat → Bool) (no : R) (fin : Option R)
    (h1 : ∀ k (i : Nat), B < k → i < n → L (k + 1) i = if p i = true then L k (wrap64 ((i : Int) + 1)) else some no)
    (h2 : ∀ k, B < k → L (k + 1) n = fin) (k : Nat) (hk : n + B + 1 < k) : L k 0 = if (List.range n).all p then fin else some no := by
  have key : ∀ (d k i : Nat), i + d = n → d + B + 1 < k → L k i = if (List.range' i d).all p then fin else some no := by
    intro d
    induction d with
    | zero =>
      intro k i hd hk
      obtain ⟨k, rfl⟩ : ∃ m, k = m + 1 := ⟨k - 1, by omega⟩
      have : i = n := by omega
      subst this
      simpa using h2 k (by omega)
    | succ d ih =>
      intro k i hd hk
      obtain ⟨k, rfl⟩ : ∃ m, k = m + 1 := ⟨k - 1, by omega⟩
      rw [h1 k i (by omega) (by omega), w64s (n := n) (by omega) (by omega) hn, List.range'_succ, List.all_cons]
      by_cases hp : p i = true
      · have := ih k (i + 1) (by omega) (by omega)
        simp only [hp, if_true, Bool.true_and]
        simpa using this
      · simp [hp]
  have := key n k 0 (by omega) hk
  rw [List.range_eq_range']
  simpa using this
/-- A loop from place i to n inside of a greater text: what it costs, and where it goes on. -/
theorem seg {σ R : Type} (L : Nat → Int → σ → Option R) (L' : Nat → σ → Option R) (n B : Nat) (C : Nat → Nat) (P : Nat → σ → Prop) (step : σ → Nat → σ)
    (h1 : ∀ k (i : Nat) s, B < k → i < n → P i s → L (k + C i) i s = L k ((i : Int) + 1) (step s i))
    (hP : ∀ (i : Nat) s, i < n → P i s → P (i + 1) (step s i))
    (h2 : ∀ k s, B < k → P n s → L (k + 1) n s = L' k s) :
    ∀ (d i k : Nat) (s : σ), i + d = n → B < k → P i s → L (k + 1 + ((List.range' i d).map C).sum) i s = L' k ((List.range' i d).foldl step s) ∧ P n ((List.range' i d).foldl step s) := by
  intro d
  induction d with
  | zero =>
    intro i k s hd hk hp
    have : i = n := by omega
    subst this
    exact ⟨by simpa using h2 k s hk hp, by simpa using hp⟩
  | succ d ih =>
    intro i k s hd hk hp
    rw [List.range'_succ, List.map_cons, List.sum_cons, List.foldl_cons]
    have e : k + 1 + (C i + ((List.range' (i + 1) d).map C).sum) = (k + 1 + ((List.range' (i + 1) d).map C).sum) + C i := by omega
    rw [e, h1 _ i s (by omega) (by omega) hp]
    have := ih (i + 1) k (step s i) (by omega) hk (hP i s (by omega) hp)
    simpa using this
theorem in_spec (a b c : Int) : spec_l01In.f a b c = some (decide (b ≤ a ∧ a ≤ c)) := by
  unfold spec_l01In.f
  by_cases h : b ≤ a <;> simp [h]
theorem in_impl (a b c : Int) : impl_in.f a b c = some (decide (b ≤ a ∧ a ≤ c)) := by
  unfold impl_in.f
  by_cases h : b ≤ a <;> simp [h]
theorem sum_bounds {M : Int} : ∀ (l : List Int), (∀ x ∈ l, 0 ≤ x ∧ x ≤ M) → 0 ≤ l.sum ∧ l.sum ≤ l.length * M
  | [], _ => by simp
  | a :: l, h => by
    have := sum_bounds l (fun x hx => h x (List.mem_cons_of_mem _ hx))
    have ha := h a List.mem_cons_self
    rw [List.sum_cons, List.length_cons]
    have e : ((l.length + 1 : Nat) : Int) * M = l.length * M + M := by
      rw [Int.natCast_add, Int.add_mul]
      simp
    omega
/-- Small sums: a list whose numbers are from 0 to M, and whose length times M is small. -/
def Small (l : List Int) : Prop := ∃ M : Int, (∀ x ∈ l, 0 ≤ x ∧ x ≤ M) ∧ l.length * M ≤ 4611686018427387904 ∧ l.length ≤ 4611686018427387904
theorem Small.drop {l : List Int} (h : Small l) (i : Nat) : 0 ≤ (l.drop i).sum ∧ (l.drop i).sum ≤ l.sum := by
  obtain ⟨M, h1, h2, h3⟩ := h
  have e : l.sum = (l.take i).sum + (l.drop i).sum := by rw [← List.sum_append, List.take_append_drop]
  have a := sum_bounds (M := M) (l.take i) (fun x hx => h1 x (List.mem_of_mem_take hx))
  have b := sum_bounds (M := M) (l.drop i) (fun x hx => h1 x (List.mem_of_mem_drop hx))
  omega
theorem Small.sum {l : List Int} (h : Small l) : 0 ≤ l.sum ∧ l.sum ≤ 4611686018427387904 := by
  obtain ⟨M, h1, h2, h3⟩ := h
  have := sum_bounds l h1
  omega
theorem sumS_spec (l : List Int) (h : Small l) (k : Nat) (hk : l.length < k) : spec_l02Sum.f k l = some l.sum := by
  obtain ⟨M, h1, h2, h3⟩ := id h
  unfold spec_l02Sum.f
  have hs := h.sum
  have key : ∀ (d k i : Nat) (s : Int), i + d = l.length → d < k → s + (l.drop i).sum = l.sum → 0 ≤ s → spec_l02Sum.l0 k l s i = some l.sum := by
    intro d
    induction d with
    | zero =>
      intro k i s hd hk hsum h0
      obtain ⟨k, rfl⟩ : ∃ m, k = m + 1 := ⟨k - 1, by omega⟩
      simp only [spec_l02Sum.l0]
      rw [if_neg (by omega)]
      rw [List.drop_eq_nil_of_le (by omega)] at hsum
      simp at hsum
      rw [hsum]
    | succ d ih =>
      intro k i s hd hk hsum h0
      obtain ⟨k, rfl⟩ : ∃ m, k = m + 1 := ⟨k - 1, by omega⟩
      have hi : i < l.length := by omega
      simp only [spec_l02Sum.l0]
      rw [if_pos (by omega), if_pos (by omega), w64s (n := l.length) (by omega) (by omega) (by omega)]
      have e : rd l (i : Int) = l[i] := by simp [rd, List.getD_eq_getElem?_getD, hi]
      have hx := h1 _ (List.getElem_mem hi)
      rw [List.drop_eq_getElem_cons hi, List.sum_cons] at hsum
      have hd2 := h.drop (i + 1)
      rw [e, w64 (n := s + l[i]) (by omega) (by omega)]
      have := ih k (i + 1) (s + l[i]) (by omega) (by omega) (by omega) (by omega)
      simpa using this
  exact key l.length k 0 0 (by omega) hk (by simp) (by omega)
theorem sumI_impl (l : List Int) (h : Small l) (k : Nat) (hk : l.length < k) : impl_sum.f k l = some l.sum := by
  obtain ⟨M, h1, h2, h3⟩ := id h
  unfold impl_sum.f
  have hs := h.sum
  have key : ∀ (d k i : Nat) (s : Int), i + d = l.length → d < k → s + (l.drop i).sum = l.sum → 0 ≤ s → impl_sum.l0 k s l l.length i = some l.sum := by
    intro d
    induction d with
    | zero =>
      intro k i s hd hk hsum h0
      obtain ⟨k, rfl⟩ : ∃ m, k = m + 1 := ⟨k - 1, by omega⟩
      simp only [impl_sum.l0]
      rw [if_neg (by omega)]
      rw [List.drop_eq_nil_of_le (by omega)] at hsum
      simp at hsum
      rw [hsum]
    | succ d ih =>
      intro k i s hd hk hsum h0
      obtain ⟨k, rfl⟩ : ∃ m, k = m + 1 := ⟨k - 1, by omega⟩
      have hi : i < l.length := by omega
      simp only [impl_sum.l0]
      rw [if_pos (by omega), if_pos (by omega), if_pos (by omega), w64s (n := l.length) (by omega) (by omega) (by omega)]
      have e : rd l (i : Int) = l[i] := by simp [rd, List.getD_eq_getElem?_getD, hi]
      have hx := h1 _ (List.getElem_mem hi)
      rw [List.drop_eq_getElem_cons hi, List.sum_cons] at hsum
      have hd2 := h.drop (i + 1)
      rw [e, w64 (n := s + l[i]) (by omega) (by omega)]
      have := ih k (i + 1) (s + l[i]) (by omega) (by omega) (by omega) (by omega)
      simpa using this
  exact key l.length k 0 0 (by omega) hk (by simp) (by omega)
def dOk (a b c : Int) : Bool := decide ((300 ≤ a ∧ a ≤ 1200) ∧ (0 ≤ b ∧ b ≤ 50) ∧ 0 ≤ c ∧ c ≤ 500)
theorem dOk_iff {a b c : Int} : dOk a b c = true ↔ (300 ≤ a ∧ a ≤ 1200) ∧ (0 ≤ b ∧ b ≤ 50) ∧ 0 ≤ c ∧ c ≤ 500 := by simp [dOk]
theorem dough_spec (a b c : Int) : spec_DoughOk.f a b c = some (dOk a b c) := by
  simp only [spec_DoughOk.f, in_spec, Option.bind_some, dOk]
  by_cases h : 300 ≤ a ∧ a ≤ 1200 <;> by_cases h2 : 0 ≤ b ∧ b ≤ 50 <;> simp [h, h2]
theorem dough_impl (a b c : Int) : impl_DoughOk.f a b c = some (dOk a b c) := by
  simp only [impl_DoughOk.f, in_impl, Option.bind_some, dOk]
  by_cases h : 300 ≤ a ∧ a ≤ 1200 <;> by_cases h2 : 0 ≤ b ∧ b ≤ 50 <;> simp [h, h2]
def part (f p : Int) : Int := (f * p + 500) / 1000
theorem part_ok {f p : Int} (h0 : 0 ≤ f) (h1 : f ≤ 1000000) (h2 : 0 ≤ p) (h3 : p ≤ 2000) : 0 ≤ f * p ∧ f * p ≤ 2000000000 ∧ 0 ≤ part f p ∧ part f p ≤ 2000001 := by
  have a1 : 0 ≤ f * p := Int.mul_nonneg h0 h2
  have a2 : f * p ≤ 1000000 * 2000 := Int.mul_le_mul h1 h3 h2 (by omega)
  unfold part
  omega
theorem part_spec {f p : Int} (h0 : 0 ≤ f) (h1 : f ≤ 1000000) (h2 : 0 ≤ p) (h3 : p ≤ 2000) : spec_PartOf.f f p = some (part f p) := by
  obtain ⟨a1, a2, a3, a4⟩ := part_ok h0 h1 h2 h3
  simp only [spec_PartOf.f, in_spec, Option.bind_some]
  rw [decide_eq_true (show 0 ≤ f ∧ f ≤ 1000000 from ⟨h0, h1⟩), decide_eq_true (show 0 ≤ p ∧ p ≤ 2000 from ⟨h2, h3⟩), if_pos rfl, if_pos rfl, w64 (n := f * p) (by omega) (by omega), w64 (n := f * p + 500) (by omega) (by omega), Int.tdiv_eq_ediv_of_nonneg (by omega), w64 (by omega) (by omega)]
  rfl
theorem part_impl {f p : Int} (h0 : 0 ≤ f) (h1 : f ≤ 1000000) (h2 : 0 ≤ p) (h3 : p ≤ 2000) : impl_PartOf.f f p = some (part f p) := by
  obtain ⟨a1, a2, a3, a4⟩ := part_ok h0 h1 h2 h3
  simp only [impl_PartOf.f, in_impl, Option.bind_some]
  rw [decide_eq_true (show 0 ≤ f ∧ f ≤ 1000000 from ⟨h0, h1⟩), decide_eq_true (show 0 ≤ p ∧ p ≤ 2000 from ⟨h2, h3⟩), if_pos rfl, if_pos rfl, w64 (n := f * p) (by omega) (by omega), w64 (n := f * p + 500) (by omega) (by omega), Int.tdiv_eq_ediv_of_nonneg (by omega), w64 (by omega) (by omega)]
  rfl
def amounts (a b c f : Int) : List Int := if dOk a b c = true ∧ 0 ≤ f ∧ f ≤ 1000000 then [f, part f a, part f b, part f c] else []
theorem amounts_spec (a b c f : Int) (k : Nat) (hk : 0 < k) : spec_Amounts.f k a b c f = some (amounts a b c f) := by
  obtain ⟨k, rfl⟩ : ∃ m, k = m + 1 := ⟨k - 1, by omega⟩
  simp only [spec_Amounts.f, dough_spec, in_spec, Option.bind_some, spec_Amounts.j0, amounts]
  by_cases h : dOk a b c = true
  · by_cases h2 : 0 ≤ f ∧ f ≤ 1000000
    · obtain ⟨⟨x1, x2⟩, ⟨y1, y2⟩, z1, z2⟩ := dOk_iff.1 h
      rw [if_pos h, decide_eq_true h2, if_neg (by simp), part_spec h2.1 h2.2 (by omega) (by omega), part_spec h2.1 h2.2 (by omega) (by omega), part_spec h2.1 h2.2 (by omega) (by omega), if_pos (c := dOk a b c = true ∧ _) ⟨h, h2⟩]
      rfl
    · rw [if_pos h, decide_eq_false h2, if_pos (by simp), if_neg (c := dOk a b c = true ∧ _) (fun hh => h2 hh.2)]
  · rw [if_neg h, if_pos trivial, if_neg (c := dOk a b c = true ∧ _) (fun hh => h hh.1)]
theorem amounts_impl (a b c f : Int) (k : Nat) (hk : 0 < k) : impl_Amounts.f k a b c f = some (amounts a b c f) := by
  obtain ⟨k, rfl⟩ : ∃ m, k = m + 1 := ⟨k - 1, by omega⟩
  simp only [impl_Amounts.f, dough_impl, in_impl, Option.bind_some, impl_Amounts.j0, amounts]
  by_cases h : dOk a b c = true
  · by_cases h2 : 0 ≤ f ∧ f ≤ 1000000
    · obtain ⟨⟨x1, x2⟩, ⟨y1, y2⟩, z1, z2⟩ := dOk_iff.1 h
      rw [if_pos h, decide_eq_true h2, if_neg (by simp), part_impl h2.1 h2.2 (by omega) (by omega), part_impl h2.1 h2.2 (by omega) (by omega), part_impl h2.1 h2.2 (by omega) (by omega), if_pos (c := dOk a b c = true ∧ _) ⟨h, h2⟩]
      rfl
    · rw [if_pos h, decide_eq_false h2, if_pos (by simp), if_neg (c := dOk a b c = true ∧ _) (fun hh => h2 hh.2)]
  · rw [if_neg h, if_pos trivial, if_neg (c := dOk a b c = true ∧ _) (fun hh => h hh.1)]
theorem four_small {f p q r : Int} (h : 0 ≤ f ∧ f ≤ 3000000) (hp : 0 ≤ p ∧ p ≤ 3000000) (hq : 0 ≤ q ∧ q ≤ 3000000) (hr : 0 ≤ r ∧ r ≤ 3000000) : Small [f, p, q, r] := by
  refine ⟨3000000, fun x hx => ?_, by simp, by simp⟩
  simp only [List.mem_cons, List.not_mem_nil, or_false] at hx
  rcases hx with rfl | rfl | rfl | rfl <;> assumption
theorem amounts_small (a b c f : Int) : Small (amounts a b c f) ∧ (amounts a b c f).length ≤ 4 := by
  unfold amounts
  split
  · rename_i h
    obtain ⟨⟨x1, x2⟩, ⟨y1, y2⟩, z1, z2⟩ := dOk_iff.1 h.1
    have p1 := part_ok h.2.1 h.2.2 (show 0 ≤ a by omega) (by omega)
    have p2 := part_ok h.2.1 h.2.2 (show 0 ≤ b by omega) (by omega)
    have p3 := part_ok h.2.1 h.2.2 (show 0 ≤ c by omega) (by omega)
    exact ⟨four_small (by omega) (by omega) (by omega) (by omega), by simp⟩
  · exact ⟨⟨0, fun x hx => by simp at hx, by simp, by simp⟩, by simp⟩
def weight (a b c f : Int) : Int := if amounts a b c f = [] then -1 else (amounts a b c f).sum
theorem weight_spec (a b c f : Int) (k : Nat) (hk : 10 < k) : spec_DoughWeight.f k a b c f = some (weight a b c f) := by
  obtain ⟨hs, hl⟩ := amounts_small a b c f
  simp only [spec_DoughWeight.f, amounts_spec a b c f k (by omega), Option.bind_some, weight]
  by_cases h : amounts a b c f = []
  · rw [if_pos h, if_pos (by rw [h]; rfl)]
  · have := List.length_pos_iff.2 h
    rw [if_neg h, if_neg (by omega), sumS_spec _ hs k (by omega)]
    rfl
theorem weight_impl (a b c f : Int) (k : Nat) (hk : 10 < k) : impl_DoughWeight.f k a b c f = some (weight a b c f) := by
  obtain ⟨hs, hl⟩ := amounts_small a b c f
  simp only [impl_DoughWeight.f, amounts_impl a b c f k (by omega), Option.bind_some, weight]
  by_cases h : amounts a b c f = []
  · rw [if_pos h, if_pos h]
  · rw [if_neg h, if_neg h, sumI_impl _ hs k (by omega)]
/-- Which of the three parts the difference is. -/
def which (p q r d : Int) : Int := if d = 0 then 0 else if d = p then 1 else if d = q then 2 else if d = r then 3 else 4
theorem index_spec (f p q r d : Int) (hd : d ≠ 0) (k : Nat) (hk : 10 < k) : spec_l30Part.l0 k [f, p, q, r] d 1 = some (which p q r d) := by
  obtain ⟨k, rfl⟩ : ∃ m, k = m + 1 + 1 + 1 + 1 := ⟨k - 4, by omega⟩
  have e1 : rd [f, p, q, r] 1 = p := rfl
  have e2 : rd [f, p, q, r] 2 = q := rfl
  have e3 : rd [f, p, q, r] 3 = r := rfl
  have u1 : wrap64 (1 + 1) = 2 := (w64 (by omega) (by omega)).trans (by omega)
  have u2 : wrap64 (2 + 1) = 3 := (w64 (by omega) (by omega)).trans (by omega)
  have u3 : wrap64 (3 + 1) = 4 := (w64 (by omega) (by omega)).trans (by omega)
  unfold which
  rw [if_neg hd]
  rw [spec_l30Part.l0, if_pos (by omega), if_pos (by omega), if_pos (by simp), e1, u1]
  have last : spec_l30Part.l0 (k + 1) [f, p, q, r] d 4 = some 4 := by rw [spec_l30Part.l0, if_neg (by omega)]
  have three : spec_l30Part.l0 (k + 1 + 1) [f, p, q, r] d 3 = some (if d = r then 3 else 4) := by
    rw [spec_l30Part.l0, if_pos (by omega), if_pos (by omega), if_pos (by simp), e3, u3, last]
    by_cases h : r = 0
    · rw [if_pos h, if_neg (by omega)]
    · rw [if_neg h]
      by_cases h2 : d = r <;> simp [h2]
  have two : spec_l30Part.l0 (k + 1 + 1 + 1) [f, p, q, r] d 2 = some (if d = q then 2 else if d = r then 3 else 4) := by
    rw [spec_l30Part.l0, if_pos (by omega), if_pos (by omega), if_pos (by simp), e2, u2, three]
    by_cases h : q = 0
    · rw [if_pos h, if_neg (c := d = q) (by omega)]
    · rw [if_neg h]
      by_cases h2 : d = q <;> simp [h2]
  rw [two]
  by_cases h : p = 0
  · rw [if_pos h, if_neg (c := d = p) (by omega)]
  · rw [if_neg h]
    by_cases h2 : d = p <;> simp [h2]
theorem index_impl (p q r d : Int) (hd : d ≠ 0) (k : Nat) (hk : 10 < k) : ∃ t, slices_Index_int_int.f k [p, q, r] d = some t ∧ (if t ≥ 0 then wrap64 (t + 1) else 4) = which p q r d := by
  obtain ⟨k, rfl⟩ : ∃ m, k = m + 1 + 1 + 1 + 1 := ⟨k - 4, by omega⟩
  have e0 : rd [p, q, r] 0 = p := rfl
  have e1 : rd [p, q, r] 1 = q := rfl
  have e2 : rd [p, q, r] 2 = r := rfl
  have u0 : wrap64 (0 + 1) = 1 := (w64 (by omega) (by omega)).trans (by omega)
  have u1 : wrap64 (1 + 1) = 2 := (w64 (by omega) (by omega)).trans (by omega)
  have u2 : wrap64 (2 + 1) = 3 := (w64 (by omega) (by omega)).trans (by omega)
  have el : (([p, q, r] : List Int).length : Int) = 3 := rfl
  unfold which slices_Index_int_int.f
  rw [if_neg hd, el]
  simp only [slices_Index_int_int.l0, el, e0, e1, e2, u0, u1, u2]
  rw [if_pos (by omega), if_pos (by omega), if_pos (by omega)]
  by_cases h : d = p
  · rw [if_pos h, if_pos h]
    exact ⟨_, rfl, by rw [if_pos (by omega)]; exact u0⟩
  rw [if_neg h, if_neg h, if_pos (by omega), if_pos (by omega), if_pos (by omega)]
  by_cases h : d = q
  · rw [if_pos h, if_pos h]
    exact ⟨_, rfl, by rw [if_pos (by omega)]; exact u1⟩
  rw [if_neg h, if_neg h, if_pos (by omega), if_pos (by omega), if_pos (by omega)]
  by_cases h : d = r
  · rw [if_pos h, if_pos h]
    exact ⟨_, rfl, by rw [if_pos (by omega)]; exact u2⟩
  rw [if_neg h, if_neg h, if_neg (by omega)]
  exact ⟨_, rfl, by simp⟩
def partNo (a b c f w s : Int) : Int := if dOk a b c = true ∧ (0 ≤ f ∧ f ≤ 1000000) ∧ 0 ≤ w ∧ w ≤ 5000000 then which (part f a) (part f b) (part f c) ((w - (amounts a b c f).sum) * s) else -1
theorem partNo_spec (a b c f w s : Int) (hs : s = 1 ∨ s = -1) (k : Nat) (hk : 20 < k) : spec_l30Part.f k a b c f w s = some (partNo a b c f w s) := by
  obtain ⟨k, rfl⟩ : ∃ m, k = m + 1 := ⟨k - 1, by omega⟩
  obtain ⟨hsm, hl⟩ := amounts_small a b c f
  simp only [spec_l30Part.f, amounts_spec a b c f (k + 1) (by omega), in_spec, Option.bind_some, partNo]
  by_cases h : dOk a b c = true ∧ 0 ≤ f ∧ f ≤ 1000000
  · have ea : amounts a b c f = [f, part f a, part f b, part f c] := if_pos h
    rw [if_neg (by rw [ea]; simp)]
    by_cases h2 : 0 ≤ w ∧ w ≤ 5000000
    · rw [decide_eq_true h2, spec_l30Part.j0, if_neg (by simp), sumS_spec _ hsm k (by omega), if_pos (c := dOk a b c = true ∧ _) ⟨h.1, h.2, h2⟩]
      simp only [Option.bind_some]
      obtain ⟨⟨x1, x2⟩, ⟨y1, y2⟩, z1, z2⟩ := dOk_iff.1 h.1
      have p1 := part_ok h.2.1 h.2.2 (show 0 ≤ a by omega) (by omega)
      have p2 := part_ok h.2.1 h.2.2 (show 0 ≤ b by omega) (by omega)
      have p3 := part_ok h.2.1 h.2.2 (show 0 ≤ c by omega) (by omega)
      have es : (amounts a b c f).sum = f + part f a + part f b + part f c := by
        rw [ea]
        simp only [List.sum_cons, List.sum_nil]
        omega
      rw [w64 (n := w - (amounts a b c f).sum) (by omega) (by omega)]
      have ed : wrap64 ((w - (amounts a b c f).sum) * s) = (w - (amounts a b c f).sum) * s := by
        rcases hs with rfl | rfl
        · rw [w64 (by omega) (by omega)]
        · rw [w64 (by omega) (by omega)]
      rw [ed]
      generalize (w - (amounts a b c f).sum) * s = d
      by_cases hd : d = 0
      · rw [if_pos hd]
        unfold which
        rw [if_pos hd]
      · rw [if_neg hd, ea]
        exact index_spec _ _ _ _ d hd k (by omega)
    · rw [decide_eq_false h2, spec_l30Part.j0, if_pos (by simp), if_neg (c := dOk a b c = true ∧ _) (fun hh => h2 hh.2.2)]
  · have ea : amounts a b c f = [] := if_neg h
    rw [if_pos (by rw [ea]; rfl), spec_l30Part.j0, if_pos rfl, if_neg (c := dOk a b c = true ∧ _) (fun hh => h ⟨hh.1, hh.2.1⟩)]
theorem weigh_impl (a b c f w : Int) : impl_weighOk.f a b c f w = some (decide (dOk a b c = true ∧ (0 ≤ f ∧ f ≤ 1000000) ∧ 0 ≤ w ∧ w ≤ 5000000)) := by
  simp only [impl_weighOk.f, dough_impl, in_impl, Option.bind_some]
  by_cases h : dOk a b c = true <;> by_cases h2 : 0 ≤ f ∧ f ≤ 1000000 <;> simp [h, h2]
theorem partOf_impl (a b c f w s : Int) (h : dOk a b c = true ∧ (0 ≤ f ∧ f ≤ 1000000) ∧ 0 ≤ w ∧ w ≤ 5000000) (k : Nat) (hk : 20 < k) : impl_partOf.f k a b c f ((w - (amounts a b c f).sum) * s) = some (partNo a b c f w s) := by
  have ea : amounts a b c f = [f, part f a, part f b, part f c] := if_pos ⟨h.1, h.2.1⟩
  unfold impl_partOf.f partNo
  rw [if_pos (c := dOk a b c = true ∧ _) h]
  generalize (w - (amounts a b c f).sum) * s = d
  by_cases hd : d = 0
  · rw [if_pos hd]
    unfold which
    rw [if_pos hd]
  · rw [if_neg hd, amounts_impl a b c f k (by omega)]
    simp only [Option.bind_some]
    rw [ea, if_pos (by simp)]
    obtain ⟨t, et, ht⟩ := index_impl (part f a) (part f b) (part f c) d hd k (by omega)
    have ed : ([f, part f a, part f b, part f c] : List Int).drop 1 = [part f a, part f b, part f c] := rfl
    rw [ed, et]
    simp only [Option.bind_some]
    rw [← ht]
    split <;> rfl
theorem sum_ok (a b c f : Int) (h : dOk a b c = true ∧ 0 ≤ f ∧ f ≤ 1000000) : 0 ≤ (amounts a b c f).sum ∧ (amounts a b c f).sum ≤ 10000000 ∧ weight a b c f = (amounts a b c f).sum := by
  obtain ⟨⟨x1, x2⟩, ⟨y1, y2⟩, z1, z2⟩ := dOk_iff.1 h.1
  have p1 := part_ok h.2.1 h.2.2 (show 0 ≤ a by omega) (by omega)
  have p2 := part_ok h.2.1 h.2.2 (show 0 ≤ b by omega) (by omega)
  have p3 := part_ok h.2.1 h.2.2 (show 0 ≤ c by omega) (by omega)
  have ea : amounts a b c f = [f, part f a, part f b, part f c] := if_pos h
  unfold weight
  rw [ea]
  simp only [List.sum_cons, List.sum_nil]
  rw [if_neg (by simp)]
  omega
theorem missing_impl (a b c f w : Int) (k : Nat) (hk : 20 < k) : impl_MissingPart.f k a b c f w = some (partNo a b c f w (-1)) := by
  simp only [impl_MissingPart.f, weigh_impl, Option.bind_some]
  by_cases h : dOk a b c = true ∧ (0 ≤ f ∧ f ≤ 1000000) ∧ 0 ≤ w ∧ w ≤ 5000000
  · obtain ⟨s1, s2, s3⟩ := sum_ok a b c f ⟨h.1, h.2.1⟩
    rw [decide_eq_true h, if_pos rfl, weight_impl a b c f k (by omega)]
    simp only [Option.bind_some]
    have e : wrap64 (weight a b c f - w) = (w - (amounts a b c f).sum) * (-1) := by
      rw [s3, w64 (by omega) (by omega)]
      omega
    rw [e, partOf_impl a b c f w (-1) h k hk]
    rfl
  · rw [decide_eq_false h, if_neg (by simp)]
    unfold partNo
    rw [if_neg h]
theorem twice_impl (a b c f w : Int) (k : Nat) (hk : 20 < k) : impl_TwiceIn.f k a b c f w = some (partNo a b c f w 1) := by
  simp only [impl_TwiceIn.f, weigh_impl, Option.bind_some]
  by_cases h : dOk a b c = true ∧ (0 ≤ f ∧ f ≤ 1000000) ∧ 0 ≤ w ∧ w ≤ 5000000
  · obtain ⟨s1, s2, s3⟩ := sum_ok a b c f ⟨h.1, h.2.1⟩
    rw [decide_eq_true h, if_pos rfl, weight_impl a b c f k (by omega)]
    simp only [Option.bind_some]
    have e : wrap64 (w - weight a b c f) = (w - (amounts a b c f).sum) * 1 := by
      rw [s3, w64 (by omega) (by omega)]
      omega
    rw [e, partOf_impl a b c f w 1 h k hk]
    rfl
  · rw [decide_eq_false h, if_neg (by simp)]
    unfold partNo
    rw [if_neg h]
/-- Two neighbours change places. -/
def swp (xs : List Int) (j : Nat) : List Int := (xs.set j (xs.getD (j - 1) 0)).set (j - 1) (xs.getD j 0)
theorem swp_len (xs : List Int) (j : Nat) : (swp xs j).length = xs.length := by simp [swp]
theorem swp_get (xs : List Int) (j : Nat) (h0 : 0 < j) (hj : j < xs.length) (a : Nat) : (swp xs j).getD a 0 = if a = j - 1 then xs.getD j 0 else if a = j then xs.getD (j - 1) 0 else xs.getD a 0 := by
  unfold swp
  simp only [List.getD_eq_getElem?_getD, List.getElem?_set, List.length_set]
  by_cases e : a = j - 1
  · subst e
    rw [if_pos rfl, if_pos rfl, if_pos (by omega)]
    rfl
  · rw [if_neg (fun h => e h.symm), if_neg e]
    by_cases e2 : a = j
    · subst e2
      rw [if_pos rfl, if_pos rfl, if_pos hj]
      rfl
    · rw [if_neg (fun h => e2 h.symm), if_neg e2]
theorem swp_perm (xs : List Int) (j : Nat) (h0 : 0 < j) (hj : j < xs.length) : (swp xs j).Perm xs := by
  obtain ⟨i, rfl⟩ : ∃ i, j = i + 1 := ⟨j - 1, by omega⟩
  have e1 : xs.getD (i + 1) 0 = xs[i + 1] := by simp [List.getD_eq_getElem?_getD, hj]
  have e0 : xs.getD i 0 = xs[i]'(by omega) := by simp [List.getD_eq_getElem?_getD, show i < xs.length by omega]
  have hx : xs = xs.take i ++ xs[i]'(by omega) :: xs[i + 1] :: xs.drop (i + 2) := by
    conv => lhs; rw [← List.take_append_drop i xs, List.drop_eq_getElem_cons (by omega), List.drop_eq_getElem_cons hj]
  have hs : swp xs (i + 1) = xs.take i ++ xs[i + 1] :: xs[i]'(by omega) :: xs.drop (i + 2) := by
    apply List.ext_getElem
    · rw [swp_len]
      simp
      omega
    · intro a h1 h2
      have g := swp_get xs (i + 1) (by omega) hj a
      rw [List.getD_eq_getElem?_getD, List.getElem?_eq_getElem h1, Option.getD_some] at g
      rw [g]
      simp only [Nat.add_sub_cancel]
      have hl : (xs.take i).length = i := by simp; omega
      by_cases ea : a < i
      · rw [if_neg (by omega), if_neg (by omega), List.getElem_append_left (by omega), List.getElem_take]
        simp [List.getD_eq_getElem?_getD, show a < xs.length by omega]
      · rw [List.getElem_append_right (by omega)]
        by_cases e3 : a = i
        · subst e3
          simp [hl, List.getD_eq_getElem?_getD, hj]
        · by_cases e4 : a = i + 1
          · subst e4
            simp [hl, List.getD_eq_getElem?_getD, show i < xs.length by omega]
          · rw [if_neg e3, if_neg e4]
            obtain ⟨b, rfl⟩ : ∃ b, a = i + 2 + b := ⟨a - (i + 2), by omega⟩
            rw [swp_len] at h1
            simp [hl, show i + 2 + b - i = b + 1 + 1 by omega, List.getD_eq_getElem?_getD, h1]
  rw [hs]
  conv => rhs; rw [hx]
  exact List.Perm.append_left _ (List.Perm.swap _ _ _)
/-- The first i + 1 places are in order, but for place j's to those before it. -/
def Near (key : Int → Int) (xs : List Int) (i j : Nat) : Prop := ∀ a b : Nat, a < b → b ≤ i → b ≠ j → key (xs.getD a 0) ≤ key (xs.getD b 0)
def Upto (key : Int → Int) (xs : List Int) (i : Nat) : Prop := ∀ a b : Nat, a < b → b < i → key (xs.getD a 0) ≤ key (xs.getD b 0)
/-- Insertion sort by neighbours' swaps, of any two loops that do it. -/
theorem insertion (L0 : Nat → List Int → Int → Option (List Int)) (L1 : Nat → List Int → Int → Int → Option (List Int)) (key : Int → Int) (n : Nat) (V : List Int → Prop)
    (h0 : ∀ k xs (i : Nat), i < n → xs.length = n → V xs → L0 (k + 1) xs i = L1 k xs i i)
    (hend : ∀ k xs, xs.length = n → V xs → L0 (k + 1) xs n = some xs)
    (h1 : ∀ k xs (i j : Nat), 0 < j → j ≤ i → i < n → xs.length = n → V xs → L1 (k + 1) xs i j = if key (xs.getD j 0) < key (xs.getD (j - 1) 0) then L1 k (swp xs j) i ((j - 1 : Nat) : Int) else L0 k xs ((i + 1 : Nat) : Int))
    (h1z : ∀ k xs (i : Nat), i < n → xs.length = n → V xs → L1 (k + 1) xs i 0 = L0 k xs ((i + 1 : Nat) : Int))
    (hV : ∀ xs ys, V xs → ys.Perm xs → V ys) :
    ∀ (d k i : Nat) (xs : List Int), i + d = n → d * (n + 3) + 1 < k → xs.length = n → V xs → Upto key xs i → ∃ ys, L0 k xs i = some ys ∧ ys.Perm xs ∧ Upto key ys n := by
  have inner : ∀ (j k i : Nat) (xs : List Int), j ≤ i → i < n → j + 1 < k → xs.length = n → V xs → Near key xs i j → ∃ ys k', k - j - 1 ≤ k' ∧ L1 k xs i j = L0 k' ys ((i + 1 : Nat) : Int) ∧ ys.Perm xs ∧ Upto key ys (i + 1) := by
    intro j
    induction j with
    | zero =>
      intro k i xs hji hi hk hl hv hn
      obtain ⟨k, rfl⟩ : ∃ m, k = m + 1 := ⟨k - 1, by omega⟩
      exact ⟨xs, k, by omega, h1z k xs i hi hl hv, List.Perm.refl _, fun a b hab hb => hn a b hab (by omega) (by omega)⟩
    | succ j ih =>
      intro k i xs hji hi hk hl hv hn
      obtain ⟨k, rfl⟩ : ∃ m, k = m + 1 := ⟨k - 1, by omega⟩
      rw [h1 k xs i (j + 1) (by omega) hji hi hl hv, Nat.add_sub_cancel]
      by_cases c : key (xs.getD (j + 1) 0) < key (xs.getD j 0)
      · rw [if_pos c]
        have hp := swp_perm xs (j + 1) (by omega) (by omega)
        obtain ⟨ys, k', hk', e, p, u⟩ := ih k i (swp xs (j + 1)) (by omega) hi (by omega) (by rw [swp_len, hl]) (hV _ _ hv hp) (fun a b hab hb hbj => by
          rw [swp_get xs (j + 1) (by omega) (by omega) a, swp_get xs (j + 1) (by omega) (by omega) b, Nat.add_sub_cancel]
          by_cases eb : b = j + 1
          · subst eb
            rw [if_neg (c := j + 1 = j) (by omega), if_pos (c := j + 1 = j + 1) rfl]
            by_cases ea : a = j
            · rw [if_pos ea]
              omega
            · rw [if_neg ea, if_neg (c := a = j + 1) (by omega)]
              exact hn a j (by omega) (by omega) (by omega)
          · rw [if_neg (c := b = j) hbj, if_neg (c := b = j + 1) eb]
            by_cases ea : a = j
            · rw [if_pos ea]
              exact hn (j + 1) b (by omega) hb eb
            · rw [if_neg ea]
              by_cases ea2 : a = j + 1
              · rw [if_pos ea2]
                exact hn j b (by omega) hb eb
              · rw [if_neg ea2]
                exact hn a b hab hb eb)
        exact ⟨ys, k', by omega, e, p.trans hp, u⟩
      · rw [if_neg c]
        refine ⟨xs, k, by omega, rfl, List.Perm.refl _, fun a b hab hb => ?_⟩
        by_cases eb : b = j + 1
        · subst eb
          by_cases ea : a = j
          · subst ea
            omega
          · have := hn a j (by omega) (by omega) (by omega)
            omega
        · exact hn a b hab (by omega) eb
  intro d
  induction d with
  | zero =>
    intro k i xs hi hk hl hv hu
    obtain ⟨k, rfl⟩ : ∃ m, k = m + 1 := ⟨k - 1, by omega⟩
    have : i = n := by omega
    subst this
    exact ⟨xs, hend k xs hl hv, List.Perm.refl _, hu⟩
  | succ d ih =>
    intro k i xs hi hk hl hv hu
    have hmul : (d + 1) * (n + 3) = d * (n + 3) + (n + 3) := Nat.succ_mul _ _
    obtain ⟨k, rfl⟩ : ∃ m, k = m + 1 := ⟨k - 1, by omega⟩
    rw [h0 k xs i (by omega) hl hv]
    obtain ⟨ys, k', hk', e, p, u⟩ := inner i k i xs (Nat.le_refl _) (by omega) (by omega) hl hv (fun a b hab hb hbi => hu a b hab (by omega))
    obtain ⟨zs, e2, p2, u2⟩ := ih k' (i + 1) ys (by omega) (by omega) (by rw [p.length_eq, hl]) (hV _ _ hv p) u
    rw [e]
    exact ⟨zs, e2, p2.trans p, u2⟩
set_option maxRecDepth 100000 in
theorem len_three (k : Nat) (hk : 0 < k) : ∃ v, bits_Len.f k (IntKind.u64.wrap ((3 : Nat) : Int)) = some v := by
  obtain ⟨k, rfl⟩ : ∃ m, k = m + 1 := ⟨k - 1, by omega⟩
  have e : IntKind.u64.wrap ((3 : Nat) : Int) = 3 := rfl
  rw [e]
  unfold bits_Len.f bits_Len64.f
  rw [if_neg (by omega)]
  rw [bits_Len64.j0]
  rw [if_neg (by omega), if_neg (by omega), if_pos (by omega), if_pos (by omega)]
  exact ⟨_, rfl⟩
theorem less_ok (a b : Int) : cmp_Less_int.f a b = some (decide (a < b)) := by
  unfold cmp_Less_int.f cmp_isNaN_int.f
  simp
theorem sort_three (xs : List Int) (hx : xs.length = 3) (k : Nat) (hk : 60 < k) : ∃ ys, slices_Sort_int_int.f k xs = some ys ∧ ys.Perm xs ∧ Upto id ys 3 := by
  unfold slices_Sort_int_int.f
  obtain ⟨v, hv⟩ := len_three k (by omega)
  rw [hx, hv]
  simp only [Option.bind_some]
  obtain ⟨k, rfl⟩ : ∃ m, k = m + 1 + 1 := ⟨k - 2, by omega⟩
  simp only [slices_pdqsortOrdered_int.f, slices_pdqsortOrdered_int.l0]
  rw [w64 (n := ((3 : Nat) : Int) - 0) (by omega) (by omega), if_pos (by omega)]
  unfold slices_insertionSortOrdered_int.f
  rw [w64 (n := 0 + 1) (by omega) (by omega)]
  have h := insertion (fun k xs i => slices_insertionSortOrdered_int.l0 k xs 0 ((3 : Nat) : Int) i) (fun k xs i j => slices_insertionSortOrdered_int.l1 k xs 0 ((3 : Nat) : Int) i j) id 3 (fun _ => True)
    (fun k xs i hi hxl hV => by
      simp only [slices_insertionSortOrdered_int.l0]
      rw [if_pos (by omega)])
    (fun k xs hxl hV => by
      simp only [slices_insertionSortOrdered_int.l0]
      rw [if_neg (by omega)])
    (fun k xs i j hj hji hi hxl hV => by
      have ej : wrap64 ((j : Int) - 1) = ((j - 1 : Nat) : Int) := by rw [w64 (by omega) (by omega)]; omega
      simp only [slices_insertionSortOrdered_int.l1, ej]
      rw [if_pos (by omega), if_pos (by omega), if_pos (by omega), if_pos (by omega), if_pos (by omega), rd_nat, rd_nat, less_ok]
      simp only [Option.bind_some, id]
      by_cases c : xs.getD j 0 < xs.getD (j - 1) 0
      · rw [decide_eq_true c, if_pos rfl, if_pos c, Int.toNat_natCast, Int.toNat_natCast]
        rfl
      · rw [decide_eq_false c, if_neg (by simp), if_neg c, w64 (by omega) (by omega)]
        rfl)
    (fun k xs i hi hxl hV => by
      simp only [slices_insertionSortOrdered_int.l1]
      rw [if_neg (by omega), w64 (by omega) (by omega)]
      rfl)
    (fun _ _ _ _ => trivial)
  obtain ⟨ys, e, p, u⟩ := h 2 k 1 xs (by omega) (by omega) hx trivial (fun a b hab hb => by omega)
  have e' : slices_insertionSortOrdered_int.l0 k xs 0 ((3 : Nat) : Int) (0 + 1) = some ys := e
  exact ⟨ys, by rw [e']; rfl, p, u⟩
theorem compact_three (x y z : Int) : (Go.Lib.compact [x, y, z]).length = 3 ↔ x ≠ y ∧ y ≠ z := by
  have h0 : Go.Lib.compactUpTo (#[x, y, z] : Array Int) 0 = [] := rfl
  have e : Go.Lib.compact [x, y, z] = Go.Lib.compactUpTo (#[x, y, z] : Array Int) (0 + 1 + 1 + 1) := rfl
  have k0 : Go.Lib.keeps (#[x, y, z] : Array Int) 0 = true := by simp [Go.Lib.keeps]
  have k1 : Go.Lib.keeps (#[x, y, z] : Array Int) (0 + 1) = decide (y ≠ x) := by simp [Go.Lib.keeps]
  have k2 : Go.Lib.keeps (#[x, y, z] : Array Int) (0 + 1 + 1) = decide (z ≠ y) := by simp [Go.Lib.keeps]
  rw [e, Go.Lib.compactUpTo_succ, Go.Lib.compactUpTo_succ, Go.Lib.compactUpTo_succ, h0, k0, k1, k2]
  by_cases c1 : y = x <;> by_cases c2 : z = y
  · simp [c1, c2]
  · subst c1
    simp [c2]
  · simp [c1, c2, Ne.symm c1]
  · simp only [c1, c2, decide_true, if_true, not_false_eq_true, ne_eq, List.length_append, List.length_cons, List.length_nil, List.nil_append]
    exact ⟨fun _ => ⟨fun h => c1 h.symm, fun h => c2 h.symm⟩, fun _ => trivial⟩
theorem set_three (p q r : Int) (k : Nat) (hk : 60 < k) : ∃ ys, impl_set.f k [p, q, r] = some ys ∧ (ys.length = 3 ↔ p ≠ q ∧ p ≠ r ∧ q ≠ r) := by
  unfold impl_set.f
  simp only [Option.bind_some]
  rw [if_pos (by simp), List.nil_append]
  obtain ⟨ys, e, pm, u⟩ := sort_three [p, q, r] rfl k hk
  rw [e]
  refine ⟨Go.Lib.compact ys, rfl, ?_⟩
  have hl : ys.length = 3 := by rw [pm.length_eq]; rfl
  match ys, hl, pm, u with
  | [x, y, z], _, pm, u =>
    rw [compact_three]
    have h1 := u 0 1 (by omega) (by omega)
    have h2 := u 1 2 (by omega) (by omega)
    simp at h1 h2
    have hn : [x, y, z].Nodup ↔ [p, q, r].Nodup := pm.nodup_iff
    simp only [List.nodup_cons, List.mem_cons, List.not_mem_nil, or_false, not_or, List.nodup_nil, and_true, not_false_eq_true] at hn
    constructor
    · rintro ⟨a, b⟩
      have := hn.1 ⟨⟨a, by omega⟩, b⟩
      exact ⟨this.1.1, this.1.2, this.2⟩
    · rintro ⟨a, b, c⟩
      have := hn.2 ⟨⟨a, b⟩, c⟩
      exact ⟨this.1.1, this.2⟩
theorem zero_in (p q r : Int) (k : Nat) (hk : 10 < k) : slices_Contains_int_int.f k [p, q, r] 0 = some (decide (p = 0 ∨ q = 0 ∨ r = 0)) := by
  obtain ⟨k, rfl⟩ : ∃ m, k = m + 1 + 1 + 1 + 1 := ⟨k - 4, by omega⟩
  unfold slices_Contains_int_int.f slices_Index_int_int.f
  have r0 : rd [p, q, r] 0 = p := rfl
  have r1 : rd [p, q, r] 1 = q := rfl
  have r2 : rd [p, q, r] 2 = r := rfl
  have w0 : wrap64 (0 + 1) = 1 := by unfold wrap64; omega
  have w1 : wrap64 (1 + 1) = 2 := by unfold wrap64; omega
  have w2 : wrap64 (2 + 1) = 3 := by unfold wrap64; omega
  have hl : (([p, q, r] : List Int).length : Int) = 3 := rfl
  simp only [slices_Index_int_int.l0, hl, r0, w0, r1, w1, r2, w2]
  by_cases c1 : 0 = p
  · simp [c1.symm]
  · by_cases c2 : 0 = q
    · simp [c1, c2.symm]
    · by_cases c3 : 0 = r
      · simp [c1, c2, c3.symm]
      · simp [c1, c2, c3, Ne.symm]
def canTell (a b c f : Int) : Bool := decide ((dOk a b c = true ∧ 0 ≤ f ∧ f ≤ 1000000) ∧ (part f a ≠ 0 ∧ part f b ≠ 0 ∧ part f c ≠ 0) ∧ part f a ≠ part f b ∧ part f a ≠ part f c ∧ part f b ≠ part f c)
theorem can_spec (a b c f : Int) (k : Nat) (hk : 10 < k) : spec_CanTell.f k a b c f = some (canTell a b c f) := by
  unfold spec_CanTell.f
  rw [amounts_spec a b c f k (by omega)]
  simp only [Option.bind_some]
  unfold amounts canTell
  by_cases h : dOk a b c = true ∧ 0 ≤ f ∧ f ≤ 1000000
  · rw [if_pos h]
    have hl : (([f, part f a, part f b, part f c] : List Int).length : Int) = 4 := rfl
    have r1 : rd [f, part f a, part f b, part f c] 1 = part f a := rfl
    have r2 : rd [f, part f a, part f b, part f c] 2 = part f b := rfl
    have r3 : rd [f, part f a, part f b, part f c] 3 = part f c := rfl
    rw [hl, r1, r2, r3, if_neg (by omega), if_pos (by omega)]
    generalize part f a = p
    generalize part f b = q
    generalize part f c = r
    by_cases c1 : p = 0
    · simp [c1]
    · rw [if_neg c1, if_pos (by omega)]
      by_cases c2 : q = 0
      · simp [c2]
      · rw [if_neg c2, if_pos (by omega)]
        by_cases c3 : r = 0
        · simp [c3]
        · rw [if_neg c3]
          by_cases c4 : p = q
          · simp [c4]
          · rw [if_neg c4]
            by_cases c5 : p = r
            · simp [c5]
            · rw [if_neg c5]
              by_cases c6 : q = r
              · simp [c6]
              · simp [h, c1, c2, c3, c4, c5, c6]
  · rw [if_neg h]
    have : ¬ ((dOk a b c = true ∧ 0 ≤ f ∧ f ≤ 1000000) ∧ (part f a ≠ 0 ∧ part f b ≠ 0 ∧ part f c ≠ 0) ∧ part f a ≠ part f b ∧ part f a ≠ part f c ∧ part f b ≠ part f c) := fun hh => h hh.1
    rw [decide_eq_false this]
    rfl
theorem can_impl (a b c f : Int) (k : Nat) (hk : 80 < k) : impl_CanTell.f k a b c f = some (canTell a b c f) := by
  obtain ⟨k, rfl⟩ : ∃ m, k = m + 1 := ⟨k - 1, by omega⟩
  unfold impl_CanTell.f
  rw [dough_impl]
  have hin : ∀ x y z : Int, impl_in.f x y z = some (decide (y ≤ x ∧ x ≤ z)) := by
    intro x y z
    unfold impl_in.f
    by_cases h : y ≤ x <;> simp [h]
  simp only [Option.bind_some, hin]
  unfold canTell
  by_cases h1 : dOk a b c = true
  · rw [if_pos h1, impl_CanTell.j0]
    by_cases h2 : 0 ≤ f ∧ f ≤ 1000000
    · rw [decide_eq_true h2, if_neg (by simp), amounts_impl a b c f k (by omega)]
      unfold amounts
      rw [if_pos ⟨h1, h2⟩]
      simp only [Option.bind_some]
      rw [if_pos (by simp)]
      have hd : List.drop 1 [f, part f a, part f b, part f c] = [part f a, part f b, part f c] := rfl
      rw [hd]
      obtain ⟨ys, e, hiff⟩ := set_three (part f a) (part f b) (part f c) k (by omega)
      rw [e, zero_in _ _ _ k (by omega)]
      simp only [Option.bind_some]
      generalize part f a = p at hiff
      generalize part f b = q at hiff
      generalize part f c = r at hiff
      by_cases c1 : ys.length = 3
      · rw [if_pos (by omega)]
        have h3 := hiff.1 c1
        congr 1
        rw [Bool.eq_iff_iff]
        simp [h1, h2, h3]
      · rw [if_neg (by omega)]
        have h3 : ¬ (p ≠ q ∧ p ≠ r ∧ q ≠ r) := fun hh => c1 (hiff.2 hh)
        have : ¬ ((dOk a b c = true ∧ 0 ≤ f ∧ f ≤ 1000000) ∧ (p ≠ 0 ∧ q ≠ 0 ∧ r ≠ 0) ∧ p ≠ q ∧ p ≠ r ∧ q ≠ r) := fun hh => h3 hh.2.2
        rw [decide_eq_false this]
    · rw [decide_eq_false h2, if_pos (by simp)]
      have : ¬ ((dOk a b c = true ∧ 0 ≤ f ∧ f ≤ 1000000) ∧ (part f a ≠ 0 ∧ part f b ≠ 0 ∧ part f c ≠ 0) ∧ part f a ≠ part f b ∧ part f a ≠ part f c ∧ part f b ≠ part f c) := fun hh => h2 hh.1.2
      rw [decide_eq_false this]
  · rw [if_neg h1, impl_CanTell.j0, if_pos rfl]
    have : ¬ ((dOk a b c = true ∧ 0 ≤ f ∧ f ≤ 1000000) ∧ (part f a ≠ 0 ∧ part f b ≠ 0 ∧ part f c ≠ 0) ∧ part f a ≠ part f b ∧ part f a ≠ part f c ∧ part f b ≠ part f c) := fun hh => h1 hh.1.1
    rw [decide_eq_false this]
theorem and255 (x : Int) : 0 ≤ Go.bits .and .i64 x 255 ∧ Go.bits .and .i64 x 255 ≤ 255 := by
  have h2 : ((BitVec.ofInt 64 255).toNat : Nat) = 255 := rfl
  have h1 : ∀ a : Nat, a &&& 255 ≤ 255 := fun a => Nat.and_le_right
  have h3 := h1 (BitVec.ofInt 64 x).toNat
  have : Go.bits .and .i64 x 255 = (((BitVec.ofInt 64 x).toNat &&& 255 : Nat) : Int) := by
    have h5 : (BitVec.ofInt 64 x &&& BitVec.ofInt 64 255).toNat = (BitVec.ofInt 64 x).toNat &&& 255 := by rw [BitVec.toNat_and, h2]
    show Go.IntKind.i64.wrap ((BitVec.ofInt 64 x &&& BitVec.ofInt 64 255).toNat : Int) = _
    rw [h5, Go.IntKind.wrap_i64]
    omega
  rw [this]
  omega
theorem byte_ok (l : List Int) (i h : Int) (hi : 0 ≤ i) (hl : l.length ≤ 9223372036854775807) : ∃ x i' h', spec_l01Byte.f l i h = some (x, i', h') ∧ 0 ≤ x ∧ x ≤ 255 ∧ 0 ≤ i' := by
  unfold spec_l01Byte.f
  by_cases h1 : i < (l.length : Int)
  · rw [if_pos h1, if_pos hi]
    refine ⟨_, _, _, rfl, (and255 _).1, (and255 _).2, ?_⟩
    rw [w64 (by omega) (by omega)]
    omega
  · rw [if_neg h1]
    exact ⟨_, _, _, rfl, (and255 _).1, (and255 _).2, hi⟩
theorem below_ok (l : List Int) (i h n : Int) (hi : 0 ≤ i) (hl : l.length ≤ 9223372036854775807) : ∃ x i' h', spec_l01Below.f l i h n = some (x, i', h') ∧ 0 ≤ x ∧ (0 < n → x < n) ∧ (n ≤ 0 → x = 0) ∧ 0 ≤ i' := by
  unfold spec_l01Below.f
  by_cases h1 : n ≤ 0
  · rw [if_pos h1]
    exact ⟨_, _, _, rfl, Int.le_refl _, fun h => by omega, fun _ => rfl, hi⟩
  · rw [if_neg h1]
    have hn : n ≠ 0 := by omega
    by_cases h2 : n ≤ 256
    · rw [if_pos h2]
      obtain ⟨x, i1, g1, e1, a1, b1, c1⟩ := byte_ok l i h hi hl
      rw [e1]
      simp only [Option.bind_some]
      rw [if_neg hn]
      refine ⟨_, _, _, rfl, Int.tmod_nonneg _ a1, fun h => ?_, fun h => by omega, c1⟩
      exact Int.tmod_lt_of_pos _ h
    · rw [if_neg h2]
      obtain ⟨x1, i1, g1, e1, a1, b1, c1⟩ := byte_ok l i h hi hl
      rw [e1]
      simp only [Option.bind_some]
      obtain ⟨x2, i2, g2, e2, a2, b2, c2⟩ := byte_ok l i1 g1 c1 hl
      rw [e2]
      simp only [Option.bind_some]
      obtain ⟨x3, i3, g3, e3, a3, b3, c3⟩ := byte_ok l i2 g2 c2 hl
      rw [e3]
      simp only [Option.bind_some]
      obtain ⟨x4, i4, g4, e4, a4, b4, c4⟩ := byte_ok l i3 g3 c3 hl
      rw [e4]
      simp only [Option.bind_some]
      rw [if_neg hn]
      refine ⟨_, _, _, rfl, Int.tmod_nonneg _ ?_, fun h => Int.tmod_lt_of_pos _ h, fun h => by omega, c4⟩
      unfold wrap64
      omega
theorem new_ok (l : List Int) (k : Nat) (hk : l.length < k) (hl : l.length ≤ 9223372036854775807) : ∃ h, spec_l01New.f k l = some (l, 0, h) := by
  have key : ∀ (d k : Nat) (h : Int) (i : Nat), i ≤ l.length → l.length - i = d → d < k → ∃ h', spec_l01New.l0 k l h i = some (l, 0, h') := by
    intro d
    induction d with
    | zero =>
      intro k h i hi hd hk
      obtain ⟨k, rfl⟩ : ∃ m, k = m + 1 := ⟨k - 1, by omega⟩
      simp only [spec_l01New.l0]
      rw [if_neg (by omega)]
      exact ⟨_, rfl⟩
    | succ d ih =>
      intro k h i hi hd hk
      obtain ⟨k, rfl⟩ : ∃ m, k = m + 1 := ⟨k - 1, by omega⟩
      simp only [spec_l01New.l0]
      rw [if_pos (by omega)]
      by_cases h4 : (i : Int) < 4000
      · rw [if_pos h4, if_pos (by omega), w64s (n := l.length) (by omega) (by omega) hl]
        exact ih k _ (i + 1) (by omega) (by omega) (by omega)
      · rw [if_neg h4]
        exact ⟨_, rfl⟩
  exact key l.length k _ 0 (by omega) (by omega) hk
theorem at_ok (l : List Int) (i : Int) (hi : 0 ≤ i) (hi2 : i ≤ 1000) (hl : l.length ≤ 9223372036854775807) (hw : ∀ x ∈ l, (Lit.int .u8 x).wf = true) : ∃ v, laws_at.f l i = some v ∧ 0 ≤ v ∧ v ≤ 255 := by
  unfold laws_at.f
  by_cases h : (l.length : Int) = 0
  · rw [if_pos h]
    exact ⟨0, rfl, by omega, by omega⟩
  · rw [if_neg h]
    have e : wrap64 (wrap64 (i * 5) + 1) = i * 5 + 1 := by unfold wrap64; omega
    rw [e]
    have h1 : 0 ≤ Int.tmod (i * 5 + 1) (l.length : Int) := Int.tmod_nonneg _ (by omega)
    have h2 : Int.tmod (i * 5 + 1) (l.length : Int) < (l.length : Int) := Int.tmod_lt_of_pos _ (by omega)
    rw [if_pos h1, if_pos h2]
    generalize Int.tmod (i * 5 + 1) (l.length : Int) = j at h1 h2
    have hj : j.toNat < l.length := by omega
    have hr : rd l j = l[j.toNat] := by simp [rd, List.getD_eq_getElem?_getD, hj]
    have hb := hw _ (List.getElem_mem hj)
    simp only [Lit.wf, IntKind.min, IntKind.max, IntKind.signed, IntKind.bits, Bool.and_eq_true, decide_eq_true_eq] at hb
    rw [hr]
    generalize l[j.toNat] = v at hb
    refine ⟨_, rfl, ?_, ?_⟩ <;> (rw [w64 (by simp at hb; omega) (by simp at hb; omega)]; simp at hb; omega)
theorem big_eq (l : List Int) : laws_big.f l = some (decide ((l.length : Int) > 1048576)) := rfl
theorem part_mono {f g p : Int} (h : f ≤ g) (hp : 0 ≤ p) : part f p ≤ part g p := by
  unfold part
  have : f * p ≤ g * p := Int.mul_le_mul_of_nonneg_right h hp
  omega
theorem weight_eq {a b c f : Int} (hd : dOk a b c = true) (hf : 0 ≤ f ∧ f ≤ 1000000) : weight a b c f = f + part f a + part f b + part f c ∧ amounts a b c f = [f, part f a, part f b, part f c] ∧ (amounts a b c f).sum = f + part f a + part f b + part f c := by
  have ea : amounts a b c f = [f, part f a, part f b, part f c] := if_pos ⟨hd, hf⟩
  have hs := (sum_ok a b c f ⟨hd, hf⟩).2.2
  refine ⟨?_, ea, ?_⟩
  · rw [hs, ea]
    simp only [List.sum_cons, List.sum_nil]
    omega
  · rw [ea]
    simp only [List.sum_cons, List.sum_nil]
    omega
theorem weight_mono {a b c f g : Int} (hd : dOk a b c = true) (hf : 0 ≤ f) (hfg : f < g) (hg : g ≤ 1000000) : weight a b c f < weight a b c g := by
  obtain ⟨⟨x1, x2⟩, ⟨y1, y2⟩, z1, z2⟩ := dOk_iff.1 hd
  rw [(weight_eq hd ⟨hf, by omega⟩).1, (weight_eq hd ⟨by omega, hg⟩).1]
  have h1 := part_mono (p := a) (show f ≤ g by omega) (by omega)
  have h2 := part_mono (p := b) (show f ≤ g by omega) (by omega)
  have h3 := part_mono (p := c) (show f ≤ g by omega) (by omega)
  omega
theorem found_loop (a b c f : Int) (hd : dOk a b c = true) (hf : 0 ≤ f ∧ f ≤ 1000000) : ∀ (d k : Nat) (lo hi : Int), hi - lo ≤ d → 0 ≤ lo → lo ≤ f → f ≤ hi → hi ≤ 1000000 → d + 50 < k → impl_FlourOf.l0 k (weight a b c f) lo hi a b c = some (f, true) := by
  intro d
  induction d with
  | zero =>
    intro k lo hi hd2 h0 h1 h2 h3 hk
    obtain ⟨k, rfl⟩ : ∃ m, k = m + 1 := ⟨k - 1, by omega⟩
    have : lo = f := by omega
    subst this
    rw [impl_FlourOf.l0, if_neg (by omega), weight_impl a b c lo k (by omega)]
    simp
  | succ d ih =>
    intro k lo hi hd2 h0 h1 h2 h3 hk
    obtain ⟨k, rfl⟩ : ∃ m, k = m + 1 := ⟨k - 1, by omega⟩
    rw [impl_FlourOf.l0]
    by_cases hlt : lo < hi
    · have em : wrap64 (Int.tdiv (wrap64 (lo + hi)) 2) = (lo + hi) / 2 := by
        rw [w64 (n := lo + hi) (by omega) (by omega), Int.tdiv_eq_ediv_of_nonneg (by omega), w64 (by omega) (by omega)]
      rw [if_pos hlt, em]
      clear em
      have m1 : lo ≤ (lo + hi) / 2 := by omega
      have m2 : (lo + hi) / 2 < hi := by omega
      generalize (lo + hi) / 2 = m at m1 m2
      rw [weight_impl a b c m k (by omega)]
      simp only [Option.bind_some]
      by_cases hm : weight a b c m ≥ weight a b c f
      · rw [if_pos hm]
        refine ih k lo m (by omega) h0 h1 ?_ (by omega) (by omega)
        by_cases hmf : m < f
        · have := weight_mono hd (show 0 ≤ m by omega) hmf hf.2
          omega
        · omega
      · rw [if_neg hm, w64 (n := m + 1) (by omega) (by omega)]
        refine ih k (m + 1) hi (by omega) (by omega) ?_ h2 h3 (by omega)
        by_cases hmf : f ≤ m
        · by_cases e : f = m
          · subst e
            omega
          · have := weight_mono hd hf.1 (show f < m by omega) (by omega)
            omega
        · omega
    · have : lo = f := by omega
      subst this
      rw [if_neg hlt, weight_impl a b c lo k (by omega)]
      simp
theorem any_loop (a b c w : Int) : ∀ (d k : Nat) (lo hi : Int), hi - lo ≤ d → 0 ≤ lo → lo ≤ hi → hi ≤ 1000000 → d + 50 < k → ∃ g, 0 ≤ g ∧ g ≤ 1000000 ∧ impl_FlourOf.l0 k w lo hi a b c = some (if weight a b c g = w then (g, true) else (0, false)) := by
  intro d
  induction d with
  | zero =>
    intro k lo hi hd2 h0 h1 h2 hk
    obtain ⟨k, rfl⟩ : ∃ m, k = m + 1 := ⟨k - 1, by omega⟩
    refine ⟨lo, h0, by omega, ?_⟩
    rw [impl_FlourOf.l0, if_neg (by omega), weight_impl a b c lo k (by omega)]
    simp only [Option.bind_some]
    split <;> rfl
  | succ d ih =>
    intro k lo hi hd2 h0 h1 h2 hk
    obtain ⟨k, rfl⟩ : ∃ m, k = m + 1 := ⟨k - 1, by omega⟩
    rw [impl_FlourOf.l0]
    by_cases hlt : lo < hi
    · have em : wrap64 (Int.tdiv (wrap64 (lo + hi)) 2) = (lo + hi) / 2 := by
        rw [w64 (n := lo + hi) (by omega) (by omega), Int.tdiv_eq_ediv_of_nonneg (by omega), w64 (by omega) (by omega)]
      rw [if_pos hlt, em]
      clear em
      have m1 : lo ≤ (lo + hi) / 2 := by omega
      have m2 : (lo + hi) / 2 < hi := by omega
      generalize (lo + hi) / 2 = m at m1 m2
      rw [weight_impl a b c m k (by omega)]
      simp only [Option.bind_some]
      by_cases hm : weight a b c m ≥ w
      · rw [if_pos hm]
        exact ih k lo m (by omega) h0 m1 (by omega) (by omega)
      · rw [if_neg hm, w64 (n := m + 1) (by omega) (by omega)]
        exact ih k (m + 1) hi (by omega) (by omega) (by omega) h2 (by omega)
    · refine ⟨lo, h0, by omega, ?_⟩
      rw [if_neg hlt, weight_impl a b c lo k (by omega)]
      simp only [Option.bind_some]
      split <;> rfl
theorem flour_in {a b c w : Int} (hd : dOk a b c = true) (hw : 0 ≤ w ∧ w ≤ 1000000) (k : Nat) : impl_FlourOf.f (k + 1) a b c w = impl_FlourOf.l0 k w 0 1000000 a b c := by
  have hin : ∀ x y z : Int, impl_in.f x y z = some (decide (y ≤ x ∧ x ≤ z)) := by
    intro x y z
    unfold impl_in.f
    by_cases h : y ≤ x <;> simp [h]
  unfold impl_FlourOf.f
  rw [dough_impl, hd]
  simp only [Option.bind_some, hin, if_true]
  rw [decide_eq_true hw, impl_FlourOf.j0, if_neg (by simp)]
theorem flour_found {a b c f : Int} (hd : dOk a b c = true) (hf : 0 ≤ f ∧ f ≤ 1000000) (hw : weight a b c f ≤ 1000000) (k : Nat) (hk : 1000100 < k) : impl_FlourOf.f k a b c (weight a b c f) = some (f, true) := by
  obtain ⟨k, rfl⟩ : ∃ m, k = m + 1 := ⟨k - 1, by omega⟩
  have h0 : 0 ≤ weight a b c f := by
    have := (sum_ok a b c f ⟨hd, hf⟩)
    omega
  rw [flour_in hd ⟨h0, hw⟩]
  exact found_loop a b c f hd hf 1000000 k 0 1000000 (by omega) (by omega) hf.1 hf.2 (by omega) (by omega)
theorem flour_next {a b c f : Int} (hd : dOk a b c = true) (hf : 0 ≤ f ∧ f < 1000000) (hw : weight a b c f + 1 ≤ 1000000) (k : Nat) (hk : 1000100 < k) : ∃ r, impl_FlourOf.f k a b c (weight a b c f + 1) = some r ∧ (r.2 = true → weight a b c (f + 1) = weight a b c f + 1) := by
  obtain ⟨k, rfl⟩ : ∃ m, k = m + 1 := ⟨k - 1, by omega⟩
  have h0 : 0 ≤ weight a b c f := by
    have := (sum_ok a b c f ⟨hd, hf.1, by omega⟩)
    omega
  rw [flour_in hd ⟨by omega, hw⟩]
  obtain ⟨g, g0, g1, e⟩ := any_loop a b c (weight a b c f + 1) 1000000 k 0 1000000 (by omega) (by omega) (by omega) (by omega) (by omega)
  refine ⟨_, e, fun hr => ?_⟩
  by_cases c1 : weight a b c g = weight a b c f + 1
  · have hfg : f < g := by
      apply Classical.byContradiction
      intro hn
      by_cases e : g = f
      · subst e
        omega
      · have := weight_mono hd g0 (show g < f by omega) (by omega)
        omega
    have h1 := weight_mono hd hf.1 (show f < f + 1 by omega) (by omega)
    by_cases e : g = f + 1
    · subst e
      exact c1
    · have := weight_mono hd (show 0 ≤ f + 1 by omega) (show f + 1 < g by omega) g1
      omega
  · rw [if_neg c1] at hr
    exact absurd hr (by simp)
theorem draw_dough (l : List Int) (hl : l.length ≤ 1000000000) (k : Nat) (hk : l.length + 20 < k) : ∃ a b c, spec_DrawDough.f k l = some (a, b, c) ∧ dOk a b c = true ∧ a ≤ 800 ∧ b ≤ 25 ∧ c ≤ 250 := by
  unfold spec_DrawDough.f
  obtain ⟨h, e⟩ := new_ok l k (by omega) (by omega)
  rw [e]
  simp only [Option.bind_some]
  unfold spec_l02Dough.f
  obtain ⟨n1, i1, h1, e1, a1, b1, c1, d1⟩ := below_ok l 0 h 250 (by omega) (by omega)
  rw [e1]
  simp only [Option.bind_some]
  obtain ⟨n2, i2, h2, e2, a2, b2, c2, d2⟩ := below_ok l i1 h1 10 d1 (by omega)
  rw [e2]
  simp only [Option.bind_some]
  obtain ⟨n3, i3, h3, e3, a3, b3, c3, d3⟩ := below_ok l i2 h2 250 d2 (by omega)
  rw [e3]
  simp only [Option.bind_some]
  have q1 := b1 (by omega)
  have q2 := b2 (by omega)
  have q3 := b3 (by omega)
  refine ⟨_, _, _, rfl, ?_, ?_, ?_, ?_⟩
  · rw [w64 (by omega) (by omega), w64 (by omega) (by omega), dOk_iff]
    omega
  · rw [w64 (by omega) (by omega)]
    omega
  · rw [w64 (by omega) (by omega)]
    omega
  · omega
theorem salt_ok : impl_SaltAfter.f 1000 20 = some 20 := by
  have hin : ∀ x y z : Int, impl_in.f x y z = some (decide (y ≤ x ∧ x ≤ z)) := by
    intro x y z
    unfold impl_in.f
    by_cases h : y ≤ x <;> simp [h]
  unfold impl_SaltAfter.f
  simp only [hin, Option.bind_some]
  rw [decide_eq_true (by omega), if_pos rfl, decide_eq_true (by omega), if_pos rfl, if_neg (by omega), w64 (n := 20 * 1000) (by omega) (by omega)]
  have e : Int.tdiv (20 * 1000) 1000 = 20 := by decide
  rw [e, w64 (by omega) (by omega)]

end Go.Proofs.Ytnffhpgchfbmhaa.Lem
