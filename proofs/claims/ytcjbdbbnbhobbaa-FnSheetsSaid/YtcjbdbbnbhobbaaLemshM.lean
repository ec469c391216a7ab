/- Plain lemmas on the printed functions: what they compute; conditions stand in each lemma. -/
import Derived.Test.YtcjbdbbnbhobbaaQx0
import Derived.Test.YtcjbdbbnbhobbaaQx1
import Derived.Test.YtcjbdbbnbhobbaaQx2
import Derived.Test.YtcjbdbbnbhobbaaQx3
import Derived.Test.YtcjbdbbnbhobbaaQx4
import Derived.Test.YtcjbdbbnbhobbaaQx5
import Derived.Test.YtcjbdbbnbhobbaaQx6
import Derived.Test.YtcjbdbbnbhobbaaQx7
import Derived.Test.YtcjbdbbnbhobbaaQx8
import Derived.Test.YtcjbdbbnbhobbaaQx9
import Derived.Test.YtcjbdbbnbhobbaaQx10
import Derived.Test.YtcjbdbbnbhobbaaQx12
import Derived.Test.YtcjbdbbnbhobbaaQx13
import Derived.Test.YtcjbdbbnbhobbaaQx14
import Derived.Test.YtcjbdbbnbhobbaaQx15
import Derived.Test.YtcjbdbbnbhobbaaQx16
import Derived.Test.YtcjbdbbnbhobbaaQx17
import Derived.Test.YtcjbdbbnbhobbaaQx18
import Derived.Test.YtcjbdbbnbhobbaaQx19
import Derived.Test.YtcjbdbbnbhobbaaQx20
import Derived.Test.YtcjbdbbnbhobbaaQx22
import Derived.Test.YtcjbdbbnbhobbaaQx24
import Derived.Test.YtcjbdbbnbhobbaaQx28
import Derived.Test.YtcjbdbbnbhobbaaQx30
import Derived.Test.YtcjbdbbnbhobbaaQx31
import Derived.Laws.BitsLemmas
namespace Go.Proofs.Ytcjbdbbnbhobbaa.Lem
open Go.RowKit Go.Proofs.Ytcjbdbbnbhobbaa.Q Go.Proofs.YtcjbdbbnbhobbaaW.PrintWords Go.Proofs.YtcjbdbbnbhobbaaW.PrintLast Go.Proofs.YtcjbdbbnbhobbaaW.PrintMore
set_option linter.unusedVariables false
set_option linter.unusedSimpArgs false
-- LEM
theorem rd_nat (l : List Int) (i : Nat) : rd l (i : Int) = l.getD i 0 := by simp [rd]
theorem wf64 {n : Int} (h : (Lit.int .i64 n).wf = true) : -9223372036854775808 ≤ n ∧ n ≤ 9223372036854775807 := by
  simp only [Lit.wf, IntKind.min, IntKind.max, IntKind.signed, IntKind.bits, Bool.and_eq_true, decide_eq_true_eq, if_true] at h
  omega
theorem w64 {n : Int} (h : -9223372036854775808 ≤ n) (h2 : n ≤ 9223372036854775807) : wrap64 n = n := by
  unfold wrap64
  omega
theorem w64s {i : Int} {n : Nat} (h0 : 0 ≤ i) (h1 : i < (n : Int)) (hn : n ≤ 9223372036854775807) : wrap64 (i + 1) = i + 1 := by
  unfold wrap64
  omega
/-- A loop over places i .. n with a state, without a way out. -/
theorem run_fold {σ R : Type} (L : Nat → Int → σ → Option R) (n : Nat) (hn : n ≤ 9223372036854775807) (step : σ → Nat → σ) (fin : σ → Option R)
    (h1 : ∀ k (i : Nat) s, i < n → L (k + 1) i s = L k (wrap64 ((i : Int) + 1)) (step s i))
    (h2 : ∀ k s, L (k + 1) n s = fin s) :
    ∀ (d : Nat) (k : Nat) (i : Nat) (s : σ), i + d = n → d < k → L k i s = fin ((List.range' i d).foldl step s) := by
  intro d
  induction d with
  | zero =>
    intro k i s hd hk
    obtain ⟨k, rfl⟩ : ∃ m, k = m + 1 := ⟨k - 1, by omega⟩
    have : i = n := by omega
    subst this
    simpa using h2 k s
  | succ d ih =>
    intro k i s hd hk
    obtain ⟨k, rfl⟩ : ∃ m, k = m + 1 := ⟨k - 1, by omega⟩
    rw [h1 k i s (by omega), w64s (n := n) (by omega) (by omega) hn]
    have := ih k (i + 1) (step s i) (by omega) (by omega)
    rw [List.range'_succ, List.foldl_cons]
    simpa using this
/-- A loop over places i .. n with a state and a way out: 'none' of step: out with 'out'. -/
def foldX {σ R : Type} (step : σ → Nat → σ ⊕ R) (fin : σ → Option R) : List Nat → σ → Option R
  | [], s => fin s
  | i :: is, s => match step s i with
    | .inl s' => foldX step fin is s'
    | .inr r => some r
theorem run_foldX {σ R : Type} (L : Nat → Int → σ → Option R) (n : Nat) (hn : n ≤ 9223372036854775807) (step : σ → Nat → σ ⊕ R) (fin : σ → Option R)
    (h1 : ∀ k (i : Nat) s, i < n → L (k + 1) i s = match step s i with | .inl s' => L k (wrap64 ((i : Int) + 1)) s' | .inr r => some r)
    (h2 : ∀ k s, L (k + 1) n s = fin s) :
    ∀ (d : Nat) (k : Nat) (i : Nat) (s : σ), i + d = n → d < k → L k i s = foldX step fin (List.range' i d) s := by
  intro d
  induction d with
  | zero =>
    intro k i s hd hk
    obtain ⟨k, rfl⟩ : ∃ m, k = m + 1 := ⟨k - 1, by omega⟩
    have : i = n := by omega
    subst this
    simpa [foldX] using h2 k s
  | succ d ih =>
    intro k i s hd hk
    obtain ⟨k, rfl⟩ : ∃ m, k = m + 1 := ⟨k - 1, by omega⟩
    rw [h1 k i s (by omega), w64s (n := n) (by omega) (by omega) hn, List.range'_succ]
    simp only [foldX]
    cases hs : step s i with
    | inl s' => simpa using ih k (i + 1) s' (by omega) (by omega)
    | inr r => rfl
/-- A loop that only asks whether all places pass. -/
theorem run_all {R : Type} (L : Nat → Int → Option R) (n : Nat) (hn : n ≤ 9223372036854775807) (p : Nat → Bool) (no : R) (fin : Option R)
    (h1 : ∀ k (i : Nat), i < n → L (k + 1) i = if p i = true then L k (wrap64 ((i : Int) + 1)) else some no)
    (h2 : ∀ k, L (k + 1) n = fin) (k : Nat) (hk : n < k) : L k 0 = if (List.range n).all p then fin else some no := by
  have key : ∀ (d k i : Nat), i + d = n → d < k → L k i = if (List.range' i d).all p then fin else some no := by
    intro d
    induction d with
    | zero =>
      intro k i hd hk
      obtain ⟨k, rfl⟩ : ∃ m, k = m + 1 := ⟨k - 1, by omega⟩
      have : i = n := by omega
      subst this
      simpa using h2 k
    | succ d ih =>
      intro k i hd hk
      obtain ⟨k, rfl⟩ : ∃ m, k = m + 1 := ⟨k - 1, by omega⟩
      rw [h1 k i (by omega), w64s (n := n) (by omega) (by omega) hn, List.range'_succ, List.all_cons]
      by_cases hp : p i = true
      · have := ih k (i + 1) (by omega) (by omega)
        simp only [hp, if_true, Bool.true_and]
        simpa using this
      · simp [hp]
  have := key n k 0 (by omega) hk
  rw [List.range_eq_range']
  simpa using this
theorem all_range_getD {α : Type} (l : List α) (d : α) (p : α → Bool) : (List.range l.length).all (fun i => p (l.getD i d)) = l.all p := by
  rw [Bool.eq_iff_iff, List.all_eq_true, List.all_eq_true]
  constructor
  · intro h x hx
    obtain ⟨i, hi, rfl⟩ := List.mem_iff_getElem.1 hx
    have := h i (List.mem_range.2 hi)
    simpa [List.getD_eq_getElem?_getD, hi] using this
  · intro h i hi
    have hi' := List.mem_range.1 hi
    have := h l[i] (List.getElem_mem hi')
    simpa [List.getD_eq_getElem?_getD, hi'] using this
theorem foldl_range_getD {α σ : Type} (l : List α) (d : α) (f : σ → α → σ) (s : σ) : (List.range' 0 l.length).foldl (fun s i => f s (l.getD i d)) s = l.foldl f s := by
  have : l = (List.range' 0 l.length).map (fun i => l.getD i d) := by
    apply List.ext_getElem
    · simp
    · intro i h1 h2
      simp [List.getD_eq_getElem?_getD, h1]
  conv => rhs; rw [this, List.foldl_map]
/-- A loop that fills a row place by place. -/
theorem copy_loop {α : Type} (L : Nat → List α → Int → Option (List α)) (n : Nat) (hn : n ≤ 9223372036854775807) (v : Nat → α)
    (h1 : ∀ k (i : Nat) xs, i < n → xs.length = n → L (k + 1) xs i = L k (xs.set i (v i)) (wrap64 ((i : Int) + 1)))
    (h2 : ∀ k xs, xs.length = n → L (k + 1) xs n = some xs) (xs0 : List α) (hx : xs0.length = n) (k : Nat) (hk : n < k) : L k xs0 0 = some ((List.range n).map v) := by
  have key : ∀ (d k i : Nat) (xs : List α), i + d = n → d < k → xs.length = n → (∀ j, j < i → xs[j]? = some (v j)) → L k xs i = some ((List.range n).map v) := by
    intro d
    induction d with
    | zero =>
      intro k i xs hd hk hl hj
      obtain ⟨k, rfl⟩ : ∃ m, k = m + 1 := ⟨k - 1, by omega⟩
      have : i = n := by omega
      subst this
      rw [h2 k xs hl]
      congr 1
      apply List.ext_getElem?
      intro j
      by_cases h : j < i
      · rw [hj j h]
        simp [h]
      · rw [List.getElem?_eq_none (by omega), List.getElem?_eq_none (by simp; omega)]
    | succ d ih =>
      intro k i xs hd hk hl hj
      obtain ⟨k, rfl⟩ : ∃ m, k = m + 1 := ⟨k - 1, by omega⟩
      rw [h1 k i xs (by omega) hl, w64s (n := n) (by omega) (by omega) hn]
      have := ih k (i + 1) (xs.set i (v i)) (by omega) (by omega) (by simpa using hl) (fun j hj2 => by
        rw [List.getElem?_set]
        by_cases e : i = j
        · subst e
          simp; omega
        · rw [if_neg e]
          exact hj j (by omega))
      simpa using this
  exact key n k 0 xs0 (by omega) hk hx (fun j hj => by omega)
theorem map_range_getD {α β : Type} (l : List α) (d : α) (f : α → β) : (List.range l.length).map (fun i => f (l.getD i d)) = l.map f := by
  apply List.ext_getElem
  · simp
  · intro i h1 h2
    simp at h1
    simp [List.getD_eq_getElem?_getD, h1]
/-- A loop over the places 0 .. n with a state, what it calls wanting more than B rounds, and what holds of the state at each place. -/
theorem loop_fold {σ R : Type} (L : Nat → Int → σ → Option R) (n B : Nat) (hn : n ≤ 9223372036854775807) (P : Nat → σ → Prop) (step : σ → Nat → σ) (fin : σ → Option R)
    (h1 : ∀ k (i : Nat) s, B < k → i < n → P i s → L (k + 1) i s = L k (wrap64 ((i : Int) + 1)) (step s i))
    (hP : ∀ (i : Nat) s, i < n → P i s → P (i + 1) (step s i))
    (h2 : ∀ k s, B < k → P n s → L (k + 1) n s = fin s) (k : Nat) (s : σ) (h0 : P 0 s) (hk : n + B + 1 < k) :
    L k 0 s = fin ((List.range n).foldl step s) ∧ P n ((List.range n).foldl step s) := by
  have key : ∀ (d k i : Nat) (s : σ), i + d = n → d + B + 1 < k → P i s → L k i s = fin ((List.range' i d).foldl step s) ∧ P n ((List.range' i d).foldl step s) := by
    intro d
    induction d with
    | zero =>
      intro k i s hd hk hp
      obtain ⟨k, rfl⟩ : ∃ m, k = m + 1 := ⟨k - 1, by omega⟩
      have : i = n := by omega
      subst this
      exact ⟨by simpa using h2 k s (by omega) hp, by simpa using hp⟩
    | succ d ih =>
      intro k i s hd hk hp
      obtain ⟨k, rfl⟩ : ∃ m, k = m + 1 := ⟨k - 1, by omega⟩
      rw [h1 k i s (by omega) (by omega) hp, w64s (n := n) (by omega) (by omega) hn]
      have := ih k (i + 1) (step s i) (by omega) (by omega) (hP i s (by omega) hp)
      rw [List.range'_succ, List.foldl_cons]
      simpa using this
  have := key n k 0 s (by omega) (by omega) h0
  rw [List.range_eq_range']
  simpa using this
/-- The same without anything to hold of the state. -/
theorem loop_fold' {σ R : Type} (L : Nat → Int → σ → Option R) (n B : Nat) (hn : n ≤ 9223372036854775807) (step : σ → Nat → σ) (fin : σ → Option R)
    (h1 : ∀ k (i : Nat) s, B < k → i < n → L (k + 1) i s = L k (wrap64 ((i : Int) + 1)) (step s i))
    (h2 : ∀ k s, B < k → L (k + 1) n s = fin s) (k : Nat) (s : σ) (hk : n + B + 1 < k) :
    L k 0 s = fin ((List.range n).foldl step s) :=
  (loop_fold L n B hn (fun _ _ => True) step fin (fun k i s a b _ => h1 k i s a b) (fun _ _ _ _ => trivial) (fun k s a _ => h2 k s a) k s trivial hk).1
theorem foldl_range_getD' {α σ : Type} (l : List α) (d : α) (f : σ → α → σ) (s : σ) : (List.range l.length).foldl (fun s i => f s (l.getD i d)) s = l.foldl f s := by
  rw [List.range_eq_range']
  exact foldl_range_getD l d f s
/-- A loop with a way out. -/
theorem loop_foldX {σ R : Type} (L : Nat → Int → σ → Option R) (n B : Nat) (hn : n ≤ 9223372036854775807) (P : Nat → σ → Prop) (step : σ → Nat → σ ⊕ R) (fin : σ → Option R)
    (h1 : ∀ k (i : Nat) s, B < k → i < n → P i s → L (k + 1) i s = match step s i with | .inl s' => L k (wrap64 ((i : Int) + 1)) s' | .inr r => some r)
    (hP : ∀ (i : Nat) s s', i < n → P i s → step s i = .inl s' → P (i + 1) s')
    (h2 : ∀ k s, B < k → P n s → L (k + 1) n s = fin s) (k : Nat) (s : σ) (h0 : P 0 s) (hk : n + B + 1 < k) :
    L k 0 s = foldX step fin (List.range n) s := by
  have key : ∀ (d k i : Nat) (s : σ), i + d = n → d + B + 1 < k → P i s → L k i s = foldX step fin (List.range' i d) s := by
    intro d
    induction d with
    | zero =>
      intro k i s hd hk hp
      obtain ⟨k, rfl⟩ : ∃ m, k = m + 1 := ⟨k - 1, by omega⟩
      have : i = n := by omega
      subst this
      simpa [foldX] using h2 k s (by omega) hp
    | succ d ih =>
      intro k i s hd hk hp
      obtain ⟨k, rfl⟩ : ∃ m, k = m + 1 := ⟨k - 1, by omega⟩
      rw [h1 k i s (by omega) (by omega) hp, w64s (n := n) (by omega) (by omega) hn, List.range'_succ]
      simp only [foldX]
      cases hs : step s i with
      | inl s' => simpa using ih k (i + 1) s' (by omega) (by omega) (hP i s s' (by omega) hp hs)
      | inr r => rfl
  have := key n k 0 s (by omega) (by omega) h0
  rw [List.range_eq_range']
  simpa using this
/-- A loop that only asks whether all places pass. -/
theorem loop_all {R : Type} (L : Nat → Int → Option R) (n B : Nat) (hn : n ≤ 9223372036854775807) (p : Nat → Bool) (no : R) (fin : Option R)
    (h1 : ∀ k (i : Nat), B < k → i < n → L (k + 1) i = if p i = true then L k (wrap64 ((i : Int) + 1)) else some no)
    (h2 : ∀ k, B < k → L (k + 1) n = fin) (k : Nat) (hk : n + B + 1 < k) : L k 0 = if (List.range n).all p then fin else some no := by
  have key : ∀ (d k i : Nat), i + d = n → d + B + 1 < k → L k i = if (List.range' i d).all p then fin else some no := by
    intro d
    induction d with
    | zero =>
      intro k i hd hk
      obtain ⟨k, rfl⟩ : ∃ m, k = m + 1 := ⟨k - 1, by omega⟩
      have : i = n := by omega
      subst this
      simpa using h2 k (by omega)
    | succ d ih =>
      intro k i hd hk
      obtain ⟨k, rfl⟩ : ∃ m, k = m + 1 := ⟨k - 1, by omega⟩
      rw [h1 k i (by omega) (by omega), w64s (n := n) (by omega) (by omega) hn, List.range'_succ, List.all_cons]
      by_cases hp : p i = true
      · have := ih k (i + 1) (by omega) (by omega)
        simp only [hp, if_true, Bool.true_and]
        simpa using this
      · simp [hp]
  have := key n k 0 (by omega) hk
  rw [List.range_eq_range']
  simpa using this
/-- A loop from place i to n inside of a greater text: what it costs, and where it goes on. -/
theorem seg {σ R : Type} (L : Nat → Int → σ → Option R) (L' : Nat → σ → Option R) (n B : Nat) (C : Nat → Nat) (P : Nat → σ → Prop) (step : σ → Nat → σ)
    (h1 : ∀ k (i : Nat) s, B < k → i < n → P i s → L (k + C i) i s = L k ((i : Int) + 1) (step s i))
    (hP : ∀ (i : Nat) s, i < n → P i s → P (i + 1) (step s i))
    (h2 : ∀ k s, B < k → P n s → L (k + 1) n s = L' k s) :
    ∀ (d i k : Nat) (s : σ), i + d = n → B < k → P i s → L (k + 1 + ((List.range' i d).map C).sum) i s = L' k ((List.range' i d).foldl step s) ∧ P n ((List.range' i d).foldl step s) := by
  intro d
  induction d with
  | zero =>
    intro i k s hd hk hp
    have : i = n := by omega
    subst this
    exact ⟨by simpa using h2 k s hk hp, by simpa using hp⟩
  | succ d ih =>
    intro i k s hd hk hp
    rw [List.range'_succ, List.map_cons, List.sum_cons, List.foldl_cons]
    have e : k + 1 + (C i + ((List.range' (i + 1) d).map C).sum) = (k + 1 + ((List.range' (i + 1) d).map C).sum) + C i := by omega
    rw [e, h1 _ i s (by omega) (by omega) hp]
    have := ih (i + 1) k (step s i) (by omega) hk (hP i s (by omega) hp)
    simpa using this
theorem eqIntS_self (l : List Int) (k : Nat) (hl : l.length ≤ 9223372036854775807) (hk : l.length < k) : laws_eqIntS.f k l l = some true := by
  unfold laws_eqIntS.f
  rw [if_pos rfl]
  have := run_all (fun k x5 => laws_eqIntS.l0 k l l x5) l.length hl (fun _ => true) false (some true)
    (fun k i hi => by
      simp only [laws_eqIntS.l0]
      rw [if_pos (by omega), if_pos (by omega), if_pos (by omega)])
    (fun k => by
      simp only [laws_eqIntS.l0]
      rw [if_neg (by omega)]) k hk
  rw [this]
  simp
theorem toIntS_ok (l : List Int) (k : Nat) (hl : l.length ≤ 35184372088832) (hk : l.length < k) : laws_toIntS.f k l = some l := by
  unfold laws_toIntS.f
  rw [if_pos (by omega), if_pos (by simpa using hl)]
  have := copy_loop (fun k x3 x4 => laws_toIntS.l0 k l x3 x4) l.length (by omega) (fun i => id (l.getD i 0))
    (fun k i xs hi hx => by
      simp only [laws_toIntS.l0]
      rw [if_pos (by omega), if_pos (by omega), if_pos (by omega), rd_nat]
      simp)
    (fun k xs hx => by
      simp only [laws_toIntS.l0]
      rw [if_neg (by omega)]) (List.replicate l.length 0) (by simp) k hk
  rw [map_range_getD] at this
  simpa using this
theorem in_spec (a b c : Int) : spec_l01In.f a b c = some (decide (b ≤ a ∧ a ≤ c)) := by
  unfold spec_l01In.f
  by_cases h : b ≤ a <;> simp [h]
theorem in_impl (a b c : Int) : impl_in.f a b c = some (decide (b ≤ a ∧ a ≤ c)) := by
  unfold impl_in.f
  by_cases h : b ≤ a <;> simp [h]
def lensOk (l : List Int) (s : Int) : Bool := decide ((1 ≤ s ∧ s ≤ 200) ∧ l.length ≤ 12) && l.all fun x => decide (1 ≤ x ∧ x ≤ s)
theorem lensOk_iff {l : List Int} {s : Int} : lensOk l s = true ↔ ((1 ≤ s ∧ s ≤ 200) ∧ l.length ≤ 12) ∧ ∀ x ∈ l, 1 ≤ x ∧ x ≤ s := by simp [lensOk, List.all_eq_true]
theorem lens_impl (l : List Int) (s : Int) : impl_LengthsOk.f l s = some (lensOk l s) := by
  simp only [impl_LengthsOk.f, in_impl, impl_allIn.f, Option.bind_some, lensOk]
  by_cases h : 1 ≤ s ∧ s ≤ 200
  · rw [decide_eq_true h, if_pos rfl]
    by_cases h2 : (l.length : Int) ≤ 12
    · rw [if_pos h2, decide_eq_true ⟨h, by omega⟩, Bool.true_and]
      simp [Bool.decide_and]
    · rw [if_neg h2, decide_eq_false (by omega), Bool.false_and]
  · rw [decide_eq_false h, if_neg (by simp), decide_eq_false (fun hh => h hh.1), Bool.false_and]
theorem lens_spec (l : List Int) (s : Int) (k : Nat) (hl : l.length ≤ 9223372036854775807) (hk : l.length < k) : spec_LengthsOk.f k l s = some (lensOk l s) := by
  unfold spec_LengthsOk.f
  rw [run_all (fun k x5 => spec_LengthsOk.l0 k l s x5) l.length hl (fun i => decide (1 ≤ l.getD i 0 ∧ l.getD i 0 ≤ s)) false (some (decide ((1 ≤ s ∧ s ≤ 200) ∧ l.length ≤ 12)))
    (fun k i hi => by
      simp only [spec_LengthsOk.l0, in_spec, Option.bind_some, rd_nat]
      rw [if_pos (by omega), if_pos (by omega)])
    (fun k => by
      simp only [spec_LengthsOk.l0, in_spec, Option.bind_some]
      rw [if_neg (by omega)]
      by_cases h : 1 ≤ s ∧ s ≤ 200
      · rw [decide_eq_true h, if_pos rfl]
        congr 1
        rw [decide_eq_decide]
        omega
      · rw [decide_eq_false h, if_neg (by simp), decide_eq_false (fun hh => h hh.1)]) k hk]
  rw [all_range_getD l 0 (fun x => decide (1 ≤ x ∧ x ≤ s))]
  unfold lensOk
  cases l.all (fun x => decide (1 ≤ x ∧ x ≤ s)) <;> simp
theorem sum_bounds {M : Int} : ∀ (l : List Int), (∀ x ∈ l, 0 ≤ x ∧ x ≤ M) → 0 ≤ l.sum ∧ l.sum ≤ l.length * M
  | [], _ => by simp
  | a :: l, h => by
    have := sum_bounds l (fun x hx => h x (List.mem_cons_of_mem _ hx))
    have ha := h a List.mem_cons_self
    rw [List.sum_cons, List.length_cons]
    have e : ((l.length + 1 : Nat) : Int) * M = l.length * M + M := by
      rw [Int.natCast_add, Int.add_mul]
      simp
    omega
/-- Small sums: a list whose numbers are from 0 to M, and whose length times M is small. -/
def Small (l : List Int) : Prop := ∃ M : Int, (∀ x ∈ l, 0 ≤ x ∧ x ≤ M) ∧ l.length * M ≤ 4611686018427387904 ∧ l.length ≤ 4611686018427387904
theorem Small.drop {l : List Int} (h : Small l) (i : Nat) : 0 ≤ (l.drop i).sum ∧ (l.drop i).sum ≤ l.sum := by
  obtain ⟨M, h1, h2, h3⟩ := h
  have e : l.sum = (l.take i).sum + (l.drop i).sum := by rw [← List.sum_append, List.take_append_drop]
  have a := sum_bounds (M := M) (l.take i) (fun x hx => h1 x (List.mem_of_mem_take hx))
  have b := sum_bounds (M := M) (l.drop i) (fun x hx => h1 x (List.mem_of_mem_drop hx))
  omega
theorem Small.sum {l : List Int} (h : Small l) : 0 ≤ l.sum ∧ l.sum ≤ 4611686018427387904 := by
  obtain ⟨M, h1, h2, h3⟩ := h
  have := sum_bounds l h1
  omega
theorem sumS_spec (l : List Int) (h : Small l) (k : Nat) (hk : l.length < k) : spec_l02Sum.f k l = some l.sum := by
  obtain ⟨M, h1, h2, h3⟩ := id h
  unfold spec_l02Sum.f
  have hs := h.sum
  have key : ∀ (d k i : Nat) (s : Int), i + d = l.length → d < k → s + (l.drop i).sum = l.sum → 0 ≤ s → spec_l02Sum.l0 k l s i = some l.sum := by
    intro d
    induction d with
    | zero =>
      intro k i s hd hk hsum h0
      obtain ⟨k, rfl⟩ : ∃ m, k = m + 1 := ⟨k - 1, by omega⟩
      simp only [spec_l02Sum.l0]
      rw [if_neg (by omega)]
      rw [List.drop_eq_nil_of_le (by omega)] at hsum
      simp at hsum
      rw [hsum]
    | succ d ih =>
      intro k i s hd hk hsum h0
      obtain ⟨k, rfl⟩ : ∃ m, k = m + 1 := ⟨k - 1, by omega⟩
      have hi : i < l.length := by omega
      simp only [spec_l02Sum.l0]
      rw [if_pos (by omega), if_pos (by omega), w64s (n := l.length) (by omega) (by omega) (by omega)]
      have e : rd l (i : Int) = l[i] := by simp [rd, List.getD_eq_getElem?_getD, hi]
      have hx := h1 _ (List.getElem_mem hi)
      rw [List.drop_eq_getElem_cons hi, List.sum_cons] at hsum
      have hd2 := h.drop (i + 1)
      rw [e, w64 (n := s + l[i]) (by omega) (by omega)]
      have := ih k (i + 1) (s + l[i]) (by omega) (by omega) (by omega) (by omega)
      simpa using this
  exact key l.length k 0 0 (by omega) hk (by simp) (by omega)
theorem sumI_impl (l : List Int) (h : Small l) (k : Nat) (hk : l.length < k) : impl_sum.f k l = some l.sum := by
  obtain ⟨M, h1, h2, h3⟩ := id h
  unfold impl_sum.f
  have hs := h.sum
  have key : ∀ (d k i : Nat) (s : Int), i + d = l.length → d < k → s + (l.drop i).sum = l.sum → 0 ≤ s → impl_sum.l0 k s l l.length i = some l.sum := by
    intro d
    induction d with
    | zero =>
      intro k i s hd hk hsum h0
      obtain ⟨k, rfl⟩ : ∃ m, k = m + 1 := ⟨k - 1, by omega⟩
      simp only [impl_sum.l0]
      rw [if_neg (by omega)]
      rw [List.drop_eq_nil_of_le (by omega)] at hsum
      simp at hsum
      rw [hsum]
    | succ d ih =>
      intro k i s hd hk hsum h0
      obtain ⟨k, rfl⟩ : ∃ m, k = m + 1 := ⟨k - 1, by omega⟩
      have hi : i < l.length := by omega
      simp only [impl_sum.l0]
      rw [if_pos (by omega), if_pos (by omega), if_pos (by omega), w64s (n := l.length) (by omega) (by omega) (by omega)]
      have e : rd l (i : Int) = l[i] := by simp [rd, List.getD_eq_getElem?_getD, hi]
      have hx := h1 _ (List.getElem_mem hi)
      rw [List.drop_eq_getElem_cons hi, List.sum_cons] at hsum
      have hd2 := h.drop (i + 1)
      rw [e, w64 (n := s + l[i]) (by omega) (by omega)]
      have := ih k (i + 1) (s + l[i]) (by omega) (by omega) (by omega) (by omega)
      simpa using this
  exact key l.length k 0 0 (by omega) hk (by simp) (by omega)
theorem lens_small {l : List Int} {s : Int} (h : lensOk l s = true) : Small l := by
  obtain ⟨⟨h1, h2⟩, h3⟩ := lensOk_iff.1 h
  refine ⟨200, fun x hx => ?_, by omega, by omega⟩
  have := h3 x hx
  omega
theorem mx_eq (a b : Int) : mx a b = max a b := by unfold mx; omega
theorem mn_eq (a b : Int) : mn a b = min a b := by unfold mn; omega
def waste (l : List Int) (s n : Int) : Int := if lensOk l s = true ∧ 0 ≤ n ∧ n ≤ 12 then max (n * s - l.sum) (-1) else -1
theorem mul12 {s n : Int} (h1 : 1 ≤ s ∧ s ≤ 200) (h2 : 0 ≤ n ∧ n ≤ 12) : 0 ≤ n * s ∧ n * s ≤ 2400 := by
  obtain ⟨a, b⟩ := h1
  obtain ⟨c, d⟩ := h2
  refine ⟨Int.mul_nonneg c (by omega), ?_⟩
  have h3 : n * s ≤ n * 200 := Int.mul_le_mul_of_nonneg_left b c
  omega
theorem sum_small {l : List Int} {s : Int} (h : lensOk l s = true) : 0 ≤ l.sum ∧ l.sum ≤ 2400 := by
  obtain ⟨⟨h1, h2⟩, h3⟩ := lensOk_iff.1 h
  have := sum_bounds (M := 200) l (fun x hx => by have := h3 x hx; omega)
  omega
theorem waste_impl (l : List Int) (s n : Int) (k : Nat) (hl : l.length ≤ 9223372036854775807) (hk : l.length < k) : impl_WasteOf.f k l s n = some (waste l s n) := by
  simp only [impl_WasteOf.f, lens_impl, in_impl, Option.bind_some, waste]
  by_cases h : lensOk l s = true
  · by_cases h2 : 0 ≤ n ∧ n ≤ 12
    · have a := mul12 (lensOk_iff.1 h).1.1 h2
      have b := sum_small h
      rw [if_pos h, decide_eq_true h2, if_pos rfl, sumI_impl l (lens_small h) k hk, if_pos ⟨h, h2⟩]
      simp only [Option.bind_some]
      rw [w64 (n := n * s) (by omega) (by omega), w64 (by omega) (by omega), mx_eq]
    · rw [if_pos h, decide_eq_false h2, if_neg (by simp), if_neg (fun hh => h2 hh.2)]
  · rw [if_neg h, if_neg (fun hh => h hh.1)]
theorem waste_spec (l : List Int) (s n : Int) (k : Nat) (hl : l.length ≤ 9223372036854775807) (hk : l.length < k) : spec_WasteOf.f k l s n = some (waste l s n) := by
  simp only [spec_WasteOf.f, lens_spec l s k hl hk, in_spec, Option.bind_some, waste]
  by_cases h : lensOk l s = true
  · by_cases h2 : 0 ≤ n ∧ n ≤ 12
    · have a := mul12 (lensOk_iff.1 h).1.1 h2
      have b := sum_small h
      rw [if_pos h, decide_eq_true h2, if_pos rfl, sumS_spec l (lens_small h) k hk, if_pos ⟨h, h2⟩]
      simp only [Option.bind_some]
      rw [w64 (n := n * s) (by omega) (by omega), w64 (by omega) (by omega), mx_eq, Int.max_comm]
    · rw [if_pos h, decide_eq_false h2, if_neg (by simp), if_neg (fun hh => h2 hh.2)]
  · rw [if_neg h, if_neg (fun hh => h hh.1)]
def longs (s : Int) (l : List Int) : Int := l.foldl (fun c x => if 2 * x > s then c + 1 else c) 0
def least (l : List Int) (s : Int) : Int := if lensOk l s = true then max ((l.sum + s - 1) / s) (longs s l) else -1
theorem wrap64_small_mul {x : Int} (h : -1000 ≤ x) (h2 : x ≤ 1000) : wrap64 (2 * x) = 2 * x := w64 (by omega) (by omega)
theorem count_bound (l : List Int) (p : Int → Prop) [DecidablePred p] : ∀ c : Int, c ≤ l.foldl (fun c x => if p x then c + 1 else c) c ∧ l.foldl (fun c x => if p x then c + 1 else c) c ≤ c + l.length := by
  induction l with
  | nil => intro c; simp
  | cons a l ih =>
    intro c
    simp only [List.foldl_cons, List.length_cons]
    by_cases h : p a
    · have := ih (c + 1)
      simp only [h, if_true]
      omega
    · have := ih c
      simp only [h, if_false]
      omega
theorem least_spec (l : List Int) (s : Int) (k : Nat) (hl : l.length ≤ 1000000000) (hk : 2 * l.length + 2 < k) : spec_LeastStrips.f k l s = some (least l s) := by
  simp only [spec_LeastStrips.f, lens_spec l s k (by omega) (by omega), Option.bind_some, least]
  by_cases h : lensOk l s = true
  · obtain ⟨⟨h1, h2⟩, h3⟩ := lensOk_iff.1 h
    have b := sum_small h
    rw [if_pos h, if_pos h]
    have L := loop_fold (fun k i c => spec_LeastStrips.l0 k l s c i) l.length l.length (by omega) (fun i c => 0 ≤ c ∧ c ≤ i) (fun c i => if 2 * l.getD i 0 > s then c + 1 else c) (fun c => some (max ((l.sum + s - 1) / s) c))
      (fun k i c hB hi hc => by
        have hx := h3 (l.getD i 0) (by simp [List.getD_eq_getElem?_getD, hi])
        simp only [spec_LeastStrips.l0, rd_nat]
        rw [if_pos (by omega), if_pos (by omega), w64 (n := 2 * l.getD i 0) (by omega) (by omega), w64 (n := c + 1) (by omega) (by omega)]
        by_cases hh : 2 * l.getD i 0 > s
        · rw [if_pos hh, if_pos hh]
        · rw [if_neg hh, if_neg hh])
      (fun i c hi hc => by
        split <;> omega)
      (fun k c hB hc => by
        simp only [spec_LeastStrips.l0]
        rw [if_neg (by omega), sumS_spec l (lens_small h) k hB]
        simp only [Option.bind_some]
        rw [if_neg (by omega), w64 (n := l.sum + s) (by omega) (by omega), w64 (n := l.sum + s - 1) (by omega) (by omega), Int.tdiv_eq_ediv_of_nonneg (by omega)]
        have d1 : 0 ≤ (l.sum + s - 1) / s := Int.ediv_nonneg (by omega) (by omega)
        have d2 : (l.sum + s - 1) / s ≤ l.sum + s - 1 := Int.ediv_le_self _ (by omega)
        rw [w64 (n := (l.sum + s - 1) / s) (by omega) (by omega), mx_eq, Int.max_comm]) k 0 ⟨by omega, by omega⟩ (by omega)
    rw [L.1, foldl_range_getD' l 0 (fun c x => if 2 * x > s then c + 1 else c)]
    rfl
  · rw [if_neg h, if_neg h]
theorem least_impl (l : List Int) (s : Int) (k : Nat) (hl : l.length ≤ 1000000000) (hk : 2 * l.length + 2 < k) : impl_LeastStrips.f k l s = some (least l s) := by
  simp only [impl_LeastStrips.f, lens_impl, Option.bind_some, least]
  by_cases h : lensOk l s = true
  · obtain ⟨⟨h1, h2⟩, h3⟩ := lensOk_iff.1 h
    have b := sum_small h
    rw [if_pos h, if_pos h]
    have L := loop_fold (fun k i c => impl_LeastStrips.l0 k l s c l l.length i) l.length l.length (by omega) (fun i c => 0 ≤ c ∧ c ≤ i) (fun c i => if 2 * l.getD i 0 > s then c + 1 else c) (fun c => some (max ((l.sum + s - 1) / s) c))
      (fun k i c hB hi hc => by
        have hx := h3 (l.getD i 0) (by simp [List.getD_eq_getElem?_getD, hi])
        simp only [impl_LeastStrips.l0, rd_nat]
        rw [if_pos (by omega), if_pos (by omega), if_pos (by omega), w64 (n := 2 * l.getD i 0) (by omega) (by omega), w64 (n := c + 1) (by omega) (by omega)]
        by_cases hh : 2 * l.getD i 0 > s
        · rw [if_pos hh, if_pos hh]
        · rw [if_neg hh, if_neg hh])
      (fun i c hi hc => by
        split <;> omega)
      (fun k c hB hc => by
        simp only [impl_LeastStrips.l0]
        rw [if_neg (by omega), sumI_impl l (lens_small h) k hB]
        simp only [Option.bind_some, impl_up.f]
        rw [if_neg (by omega), w64 (n := l.sum + s) (by omega) (by omega), w64 (n := l.sum + s - 1) (by omega) (by omega), Int.tdiv_eq_ediv_of_nonneg (by omega)]
        have d1 : 0 ≤ (l.sum + s - 1) / s := Int.ediv_nonneg (by omega) (by omega)
        have d2 : (l.sum + s - 1) / s ≤ l.sum + s - 1 := Int.ediv_le_self _ (by omega)
        rw [w64 (n := (l.sum + s - 1) / s) (by omega) (by omega)]
        simp only [Option.bind_some, mx_eq]) k 0 ⟨by omega, by omega⟩ (by omega)
    rw [L.1, foldl_range_getD' l 0 (fun c x => if 2 * x > s then c + 1 else c)]
    rfl
  · rw [if_neg h, if_neg h]
theorem index_ok (l : List Int) (a : Int) (k : Nat) (hl : l.length ≤ 9223372036854775807) (hk : l.length < k) : slices_Index_int_int.f k l a = some (if a ∈ l then (l.idxOf a : Int) else -1) := by
  unfold slices_Index_int_int.f
  have key : ∀ (d k i : Nat), i + d = l.length → d < k → slices_Index_int_int.l0 k l a l.length i = some (if a ∈ l.drop i then (i : Int) + ((l.drop i).idxOf a : Nat) else -1) := by
    intro d
    induction d with
    | zero =>
      intro k i hi hk
      obtain ⟨k, rfl⟩ : ∃ m, k = m + 1 := ⟨k - 1, by omega⟩
      have : i = l.length := by omega
      subst this
      rw [slices_Index_int_int.l0, if_neg (by omega)]
      simp
    | succ d ih =>
      intro k i hi hk
      obtain ⟨k, rfl⟩ : ∃ m, k = m + 1 := ⟨k - 1, by omega⟩
      have hil : i < l.length := by omega
      rw [slices_Index_int_int.l0, if_pos (by omega), if_pos (by omega), if_pos (by omega), rd_nat, List.drop_eq_getElem_cons hil]
      have e : l.getD i 0 = l[i] := by simp [List.getD_eq_getElem?_getD, hil]
      rw [e]
      by_cases c : a = l[i]
      · rw [if_pos c, ← c, if_pos List.mem_cons_self, List.idxOf_cons_self]
        simp
      · rw [if_neg c, w64 (n := (i : Int) + 1) (by omega) (by omega)]
        have e2 : (i : Int) + 1 = ((i + 1 : Nat) : Int) := by omega
        rw [e2, ih k (i + 1) (by omega) (by omega)]
        by_cases c2 : a ∈ l.drop (i + 1)
        · have hne : (l[i] == a) = false := beq_eq_false_iff_ne.2 (fun h => c h.symm)
          rw [if_pos c2, if_pos (List.mem_cons_of_mem _ c2), List.idxOf_cons, hne]
          simp only [cond_false]
          congr 1
          omega
        · rw [if_neg c2, if_neg]
          intro h
          rcases List.mem_cons.1 h with h | h
          · exact c h
          · exact c2 h
  have := key l.length k 0 (by omega) hk
  simpa using this
theorem contains_ok (l : List Int) (a : Int) (k : Nat) (hl : l.length ≤ 9223372036854775807) (hk : l.length < k) : slices_Contains_int_int.f k l a = some (decide (a ∈ l)) := by
  unfold slices_Contains_int_int.f
  rw [index_ok l a k hl hk]
  simp only [Option.bind_some]
  by_cases c : a ∈ l
  · rw [if_pos c, decide_eq_true c, decide_eq_true (by omega)]
  · rw [if_neg c, decide_eq_false c, decide_eq_false (by omega)]
/-- An order's rest, with the elements so far. -/
def ordW (n : Nat) : List Int → List Int → Bool
  | _, [] => true
  | pre, x :: xs => decide (0 ≤ x ∧ x ≤ (n : Int) - 1) && !decide (x ∈ pre) && ordW n (pre ++ [x]) xs
theorem order_ok (v : List Int) (n : Nat) (hn : n < 1000) (k : Nat) (hv : v.length ≤ 1000000000) (hk : 2 * v.length + 2 < k) : impl_isOrder.f k v n = some (decide (v.length = n) && ordW n [] v) := by
  unfold impl_isOrder.f
  have key : ∀ (d k i : Nat), i + d = v.length → d + v.length + 1 < k → impl_isOrder.l0 k v n v v.length i = some (ordW n (v.take i) (v.drop i) && decide (v.length = n)) := by
    intro d
    induction d with
    | zero =>
      intro k i hi hk
      obtain ⟨k, rfl⟩ : ∃ m, k = m + 1 := ⟨k - 1, by omega⟩
      have : i = v.length := by omega
      subst this
      rw [impl_isOrder.l0, if_neg (by omega), List.drop_length]
      unfold ordW
      rw [Bool.true_and]
      congr 1
      rw [Bool.eq_iff_iff, beq_iff_eq, decide_eq_true_iff]
      omega
    | succ d ih =>
      intro k i hi hk
      obtain ⟨k, rfl⟩ : ∃ m, k = m + 1 := ⟨k - 1, by omega⟩
      have hil : i < v.length := by omega
      have e : v.getD i 0 = v[i] := by simp [List.getD_eq_getElem?_getD, hil]
      have hw : wrap64 ((n : Int) - 1) = (n : Int) - 1 := w64 (by omega) (by omega)
      rw [impl_isOrder.l0, if_pos (by omega), if_pos (by omega), if_pos (by omega), rd_nat, e, hw, in_impl, List.drop_eq_getElem_cons hil]
      simp only [Option.bind_some]
      conv => rhs; unfold ordW
      by_cases c : 0 ≤ v[i] ∧ v[i] ≤ (n : Int) - 1
      · rw [decide_eq_true c, if_pos rfl, if_pos (by omega), Int.toNat_natCast, contains_ok _ _ k (by simp; omega) (by simp; omega)]
        simp only [Option.bind_some, Bool.true_and]
        by_cases c2 : v[i] ∈ v.take i
        · rw [decide_eq_true c2, if_pos rfl]
          simp
        · rw [decide_eq_false c2, if_neg (by simp), w64 (n := (i : Int) + 1) (by omega) (by omega)]
          have e2 : (i : Int) + 1 = ((i + 1 : Nat) : Int) := by omega
          rw [e2, ih k (i + 1) (by omega) (by omega), List.take_succ_eq_append_getElem hil]
          simp
      · rw [decide_eq_false c, if_neg (by simp)]
        simp
  have e0 := key v.length k 0 (by omega) (by omega)
  have e1 : ((0 : Nat) : Int) = 0 := rfl
  rw [e1] at e0
  rw [e0, Bool.and_comm]
  simp
/-- A length is cut from the first strip that holds it, or from a new one. -/
def fit (s n : Int) : List Int → List Int
  | [] => [s - n]
  | x :: xs => if x ≥ n then (x - n) :: xs else x :: fit s n xs
theorem fit_cases (s n : Int) : ∀ (L : List Int), ((∀ j, j < L.length → L.getD j 0 < n) ∧ fit s n L = L ++ [s - n]) ∨ ∃ j, j < L.length ∧ L.getD j 0 ≥ n ∧ (∀ i, i < j → L.getD i 0 < n) ∧ fit s n L = L.set j (L.getD j 0 - n) := by
  intro L
  induction L with
  | nil => exact .inl ⟨fun j hj => by simp at hj, rfl⟩
  | cons x L ih =>
    unfold fit
    by_cases c : x ≥ n
    · rw [if_pos c]
      exact .inr ⟨0, by simp, by simpa using c, fun i hi => by omega, by simp⟩
    · rw [if_neg c]
      rcases ih with ⟨h1, h2⟩ | ⟨j, h1, h2, h3, h4⟩
      · left
        refine ⟨fun j hj => ?_, by rw [h2]; rfl⟩
        cases j with
        | zero => simp; omega
        | succ j => simpa using h1 j (by simpa using hj)
      · right
        refine ⟨j + 1, by simpa using h1, by simpa using h2, fun i hi => ?_, by rw [h4]; simp⟩
        cases i with
        | zero => simp; omega
        | succ i => simpa using h3 i (by omega)
def GoodL (L : List Int) : Prop := ∀ x ∈ L, 0 ≤ x ∧ x ≤ 200
theorem fit_good {s n : Int} (hn : 1 ≤ n ∧ n ≤ s) (hs : s ≤ 200) : ∀ (L : List Int), GoodL L → GoodL (fit s n L) ∧ (fit s n L).length ≤ L.length + 1 := by
  intro L
  induction L with
  | nil =>
    intro _
    refine ⟨fun x hx => ?_, by simp [fit]⟩
    have := List.mem_singleton.1 hx
    omega
  | cons x L ih =>
    intro h
    have hx := h x List.mem_cons_self
    obtain ⟨h1, h2⟩ := ih (fun y hy => h y (List.mem_cons_of_mem _ hy))
    unfold fit
    by_cases c : x ≥ n
    · rw [if_pos c]
      refine ⟨fun y hy => ?_, by simp⟩
      rcases List.mem_cons.1 hy with e | e
      · omega
      · exact h y (List.mem_cons_of_mem _ e)
    · rw [if_neg c]
      refine ⟨fun y hy => ?_, by simpa using h2⟩
      rcases List.mem_cons.1 hy with e | e
      · rw [e]; exact hx
      · exact h1 y e
def place (l : List Int) (s : Int) (L : List Int) (o : Int) : List Int := fit s (l.getD o.toNat 0) L
theorem set_app (L : List Int) (a b : Int) : (L ++ [a]).set L.length b = L ++ [b] := by
  rw [List.set_append_right _ _ (Nat.le_refl _)]
  simp
theorem app_get (L : List Int) (a : Int) : (L ++ [a]).getD L.length 0 = a := by
  simp [List.getD_eq_getElem?_getD]
theorem wi (i : Nat) (h : i < 1000) : wrap64 ((i : Int) + 1) = ((i + 1 : Nat) : Int) := by rw [w64 (by omega) (by omega)]; omega
/-- The program's walk over an order. -/
theorem used_impl (l : List Int) (s : Int) (hL : lensOk l s = true) (ord : List Int) (ho : ord.length ≤ 12) (hr : ∀ x ∈ ord, 0 ≤ x ∧ x < (l.length : Int)) : ∀ (d k i : Nat) (L : List Int), i + d = ord.length → d < k → GoodL L → L.length ≤ i → impl_StripsUsed.l0 k s L ord ord.length i l = some (((ord.drop i).foldl (place l s) L).length : Int) := by
  obtain ⟨⟨hs, hl⟩, hok⟩ := lensOk_iff.1 hL
  intro d
  induction d with
  | zero =>
    intro k i L hi hk hg hlen
    obtain ⟨k, rfl⟩ : ∃ m, k = m + 1 := ⟨k - 1, by omega⟩
    have e : ord.drop i = [] := List.drop_eq_nil_iff.2 (by omega)
    rw [impl_StripsUsed.l0, if_neg (by omega), e]
    rfl
  | succ d ih =>
    intro k i L hi hk hg hlen
    obtain ⟨k, rfl⟩ : ∃ m, k = m + 1 := ⟨k - 1, by omega⟩
    have hil : i < ord.length := by omega
    have e : ord.getD i 0 = ord[i] := by simp [List.getD_eq_getElem?_getD, hil]
    have hb := hr _ (List.getElem_mem hil)
    rw [List.drop_eq_getElem_cons hil, List.foldl_cons, impl_StripsUsed.l0, if_pos (by omega), if_pos (by omega), if_pos (by omega), rd_nat, e]
    obtain ⟨o, ho2⟩ : ∃ o : Nat, ord[i] = (o : Int) := ⟨ord[i].toNat, by omega⟩
    rw [ho2] at hb ⊢
    have hol : o < l.length := by omega
    have hn := hok (l.getD o 0) (by simp [List.getD_eq_getElem?_getD, hol])
    have hpl : place l s L (o : Int) = fit s (l.getD o 0) L := by
      unfold place
      rw [Int.toNat_natCast]
    have hI : slices_IndexFunc_int_int.f L (l, (o : Int)) = some (idxR (fun j => decide (rd L j ≥ l.getD o 0)) L.length) := by
      unfold slices_IndexFunc_int_int.f
      rw [if_pos (show (0 : Int) ≤ ((l, (o : Int)) : List Int × Int).2 from by show (0 : Int) ≤ (o : Int); omega), if_pos (show ((l, (o : Int)) : List Int × Int).2 < (((l, (o : Int)) : List Int × Int).1.length : Int) from by show (o : Int) < (l.length : Int); omega)]
      show some (idxR (fun j => decide (rd L j ≥ rd l (o : Int))) L.length) = _
      rw [rd_nat l o]
    rw [hI, hpl]
    simp only [Option.bind_some]
    obtain ⟨hgf, hlf⟩ := fit_good (s := s) hn hs.2 L hg
    rw [wi i (by omega)]
    rcases fit_cases s (l.getD o 0) L with ⟨h1, h2⟩ | ⟨j, h1, h2, h3, h4⟩
    · have hm : idxR (fun j => decide (rd L j ≥ l.getD o 0)) L.length = -1 := idxR_miss _ _ (fun j hj => by
        rw [rd_nat]
        have := h1 j hj
        rw [decide_eq_false (by omega)])
      rw [hm]
      clear hm hI
      rw [if_pos (show (-1 : Int) < 0 by omega), if_pos (show L.length < 17592186044416 by omega)]
      rw [if_pos (by omega), if_pos (by simp; omega), if_pos (by omega), if_pos (by omega), Int.toNat_natCast, rd_nat, app_get, rd_nat, w64 (by omega) (by omega), set_app, ← h2]
      exact ih k (i + 1) _ (by omega) (by omega) hgf (by omega)
    · have hm : idxR (fun j => decide (rd L j ≥ l.getD o 0)) L.length = j := idxR_hit _ _ j h1 (by rw [rd_nat, decide_eq_true h2]) (fun i hi => by
        rw [rd_nat]
        have := h3 i hi
        rw [decide_eq_false (by omega)])
      have hx := hg (L.getD j 0) (by simp [List.getD_eq_getElem?_getD, h1])
      rw [hm]
      clear hm hI
      rw [if_neg (by omega), if_pos (by omega), if_pos (by omega), if_pos (by omega), if_pos (by omega), Int.toNat_natCast, rd_nat, rd_nat, w64 (by omega) (by omega), ← h4]
      have hlj : (fit s (l.getD o 0) L).length = L.length := by rw [h4, List.length_set]
      exact ih k (i + 1) _ (by omega) (by omega) hgf (by omega)
def markL (n : Nat) : List Int := (List.range n).map fun i : Nat => (i : Int) + 1
theorem markIntS_ok (l : List Int) (k : Nat) (hl : l.length ≤ 4611686018427387904) (hk : l.length < k) : laws_markIntS.f k l 1 = some ((l.length : Int) + 1, markL l.length) := by
  unfold laws_markIntS.f
  have key : ∀ (d k i : Nat) (xs : List Int), i + d = l.length → d < k → xs.length = l.length → (∀ j, j < i → xs[j]? = some ((j : Int) + 1)) → laws_markIntS.l0 k xs ((i : Int) + 1) i = some ((l.length : Int) + 1, markL l.length) := by
    intro d
    induction d with
    | zero =>
      intro k i xs hd hk hx hj
      obtain ⟨k, rfl⟩ : ∃ m, k = m + 1 := ⟨k - 1, by omega⟩
      simp only [laws_markIntS.l0]
      rw [if_neg (by omega)]
      have : xs = markL l.length := by
        apply List.ext_getElem?
        intro j
        by_cases h : j < i
        · rw [hj j h]
          have : j < l.length := by omega
          simp [markL, this]
        · rw [List.getElem?_eq_none (by omega), List.getElem?_eq_none (by simp [markL]; omega)]
      rw [this]
      congr 2
      omega
    | succ d ih =>
      intro k i xs hd hk hx hj
      obtain ⟨k, rfl⟩ : ∃ m, k = m + 1 := ⟨k - 1, by omega⟩
      simp only [laws_markIntS.l0]
      rw [if_pos (by omega), if_pos (by omega), w64 (n := (i : Int) + 1) (by omega) (by omega), w64 (n := (i : Int) + 1 + 1) (by omega) (by omega)]
      have := ih k (i + 1) (xs.set i ((i : Int) + 1)) (by omega) (by omega) (by simpa using hx) (fun j hj2 => by
        rw [List.getElem?_set]
        by_cases e : i = j
        · subst e
          simp; omega
        · rw [if_neg e]
          exact hj j (by omega))
      simpa using this
  have := key l.length k 0 l (by omega) hk rfl (fun j hj => by omega)
  simpa using this
theorem heldIntS_ok (n : Nat) (k : Nat) (hl : n ≤ 4611686018427387904) (hk : n < k) : laws_heldIntS.f k (markL n) 1 = some ((n : Int) + 1) := by
  unfold laws_heldIntS.f
  have hlen : (markL n).length = n := by simp [markL]
  have key : ∀ (d k i : Nat), i + d = n → d < k → laws_heldIntS.l0 k (markL n) ((i : Int) + 1) i = some ((n : Int) + 1) := by
    intro d
    induction d with
    | zero =>
      intro k i hd hk
      obtain ⟨k, rfl⟩ : ∃ m, k = m + 1 := ⟨k - 1, by omega⟩
      simp only [laws_heldIntS.l0]
      rw [if_neg (by omega)]
      congr 2
      omega
    | succ d ih =>
      intro k i hd hk
      obtain ⟨k, rfl⟩ : ∃ m, k = m + 1 := ⟨k - 1, by omega⟩
      have e : rd (markL n) (i : Int) = (i : Int) + 1 := by
        have : i < n := by omega
        simp [rd, markL, List.getD_eq_getElem?_getD, this]
      simp only [laws_heldIntS.l0]
      rw [if_pos (by omega), if_pos (by omega), e, if_pos rfl, w64 (n := (i : Int) + 1 + 1) (by omega) (by omega), w64 (n := (i : Int) + 1) (by omega) (by omega)]
      have := ih k (i + 1) (by omega) (by omega)
      simpa using this
  have := key n k 0 (by omega) hk
  simpa using this
/-- Two neighbours change places. -/
def swp (xs : List Int) (j : Nat) : List Int := (xs.set j (xs.getD (j - 1) 0)).set (j - 1) (xs.getD j 0)
theorem swp_len (xs : List Int) (j : Nat) : (swp xs j).length = xs.length := by simp [swp]
theorem swp_get (xs : List Int) (j : Nat) (h0 : 0 < j) (hj : j < xs.length) (a : Nat) : (swp xs j).getD a 0 = if a = j - 1 then xs.getD j 0 else if a = j then xs.getD (j - 1) 0 else xs.getD a 0 := by
  unfold swp
  simp only [List.getD_eq_getElem?_getD, List.getElem?_set, List.length_set]
  by_cases e : a = j - 1
  · subst e
    rw [if_pos rfl, if_pos rfl, if_pos (by omega)]
    rfl
  · rw [if_neg (fun h => e h.symm), if_neg e]
    by_cases e2 : a = j
    · subst e2
      rw [if_pos rfl, if_pos rfl, if_pos hj]
      rfl
    · rw [if_neg (fun h => e2 h.symm), if_neg e2]
theorem swp_perm (xs : List Int) (j : Nat) (h0 : 0 < j) (hj : j < xs.length) : (swp xs j).Perm xs := by
  obtain ⟨i, rfl⟩ : ∃ i, j = i + 1 := ⟨j - 1, by omega⟩
  have e1 : xs.getD (i + 1) 0 = xs[i + 1] := by simp [List.getD_eq_getElem?_getD, hj]
  have e0 : xs.getD i 0 = xs[i]'(by omega) := by simp [List.getD_eq_getElem?_getD, show i < xs.length by omega]
  have hx : xs = xs.take i ++ xs[i]'(by omega) :: xs[i + 1] :: xs.drop (i + 2) := by
    conv => lhs; rw [← List.take_append_drop i xs, List.drop_eq_getElem_cons (by omega), List.drop_eq_getElem_cons hj]
  have hs : swp xs (i + 1) = xs.take i ++ xs[i + 1] :: xs[i]'(by omega) :: xs.drop (i + 2) := by
    apply List.ext_getElem
    · rw [swp_len]
      simp
      omega
    · intro a h1 h2
      have g := swp_get xs (i + 1) (by omega) hj a
      rw [List.getD_eq_getElem?_getD, List.getElem?_eq_getElem h1, Option.getD_some] at g
      rw [g]
      simp only [Nat.add_sub_cancel]
      have hl : (xs.take i).length = i := by simp; omega
      by_cases ea : a < i
      · rw [if_neg (by omega), if_neg (by omega), List.getElem_append_left (by omega), List.getElem_take]
        simp [List.getD_eq_getElem?_getD, show a < xs.length by omega]
      · rw [List.getElem_append_right (by omega)]
        by_cases e3 : a = i
        · subst e3
          simp [hl, List.getD_eq_getElem?_getD, hj]
        · by_cases e4 : a = i + 1
          · subst e4
            simp [hl, List.getD_eq_getElem?_getD, show i < xs.length by omega]
          · rw [if_neg e3, if_neg e4]
            obtain ⟨b, rfl⟩ : ∃ b, a = i + 2 + b := ⟨a - (i + 2), by omega⟩
            rw [swp_len] at h1
            simp [hl, show i + 2 + b - i = b + 1 + 1 by omega, List.getD_eq_getElem?_getD, h1]
  rw [hs]
  conv => rhs; rw [hx]
  exact List.Perm.append_left _ (List.Perm.swap _ _ _)
/-- The first i + 1 places are in order, but for place j's to those before it. -/
def Near (key : Int → Int) (xs : List Int) (i j : Nat) : Prop := ∀ a b : Nat, a < b → b ≤ i → b ≠ j → key (xs.getD a 0) ≤ key (xs.getD b 0)
def Upto (key : Int → Int) (xs : List Int) (i : Nat) : Prop := ∀ a b : Nat, a < b → b < i → key (xs.getD a 0) ≤ key (xs.getD b 0)
/-- Insertion sort by neighbours' swaps, of any two loops that do it. -/
theorem insertion (L0 : Nat → List Int → Int → Option (List Int)) (L1 : Nat → List Int → Int → Int → Option (List Int)) (key : Int → Int) (n : Nat) (V : List Int → Prop)
    (h0 : ∀ k xs (i : Nat), i < n → xs.length = n → V xs → L0 (k + 1) xs i = L1 k xs i i)
    (hend : ∀ k xs, xs.length = n → V xs → L0 (k + 1) xs n = some xs)
    (h1 : ∀ k xs (i j : Nat), 0 < j → j ≤ i → i < n → xs.length = n → V xs → L1 (k + 1) xs i j = if key (xs.getD j 0) < key (xs.getD (j - 1) 0) then L1 k (swp xs j) i ((j - 1 : Nat) : Int) else L0 k xs ((i + 1 : Nat) : Int))
    (h1z : ∀ k xs (i : Nat), i < n → xs.length = n → V xs → L1 (k + 1) xs i 0 = L0 k xs ((i + 1 : Nat) : Int))
    (hV : ∀ xs ys, V xs → ys.Perm xs → V ys) :
    ∀ (d k i : Nat) (xs : List Int), i + d = n → d * (n + 3) + 1 < k → xs.length = n → V xs → Upto key xs i → ∃ ys, L0 k xs i = some ys ∧ ys.Perm xs ∧ Upto key ys n := by
  have inner : ∀ (j k i : Nat) (xs : List Int), j ≤ i → i < n → j + 1 < k → xs.length = n → V xs → Near key xs i j → ∃ ys k', k - j - 1 ≤ k' ∧ L1 k xs i j = L0 k' ys ((i + 1 : Nat) : Int) ∧ ys.Perm xs ∧ Upto key ys (i + 1) := by
    intro j
    induction j with
    | zero =>
      intro k i xs hji hi hk hl hv hn
      obtain ⟨k, rfl⟩ : ∃ m, k = m + 1 := ⟨k - 1, by omega⟩
      exact ⟨xs, k, by omega, h1z k xs i hi hl hv, List.Perm.refl _, fun a b hab hb => hn a b hab (by omega) (by omega)⟩
    | succ j ih =>
      intro k i xs hji hi hk hl hv hn
      obtain ⟨k, rfl⟩ : ∃ m, k = m + 1 := ⟨k - 1, by omega⟩
      rw [h1 k xs i (j + 1) (by omega) hji hi hl hv, Nat.add_sub_cancel]
      by_cases c : key (xs.getD (j + 1) 0) < key (xs.getD j 0)
      · rw [if_pos c]
        have hp := swp_perm xs (j + 1) (by omega) (by omega)
        obtain ⟨ys, k', hk', e, p, u⟩ := ih k i (swp xs (j + 1)) (by omega) hi (by omega) (by rw [swp_len, hl]) (hV _ _ hv hp) (fun a b hab hb hbj => by
          rw [swp_get xs (j + 1) (by omega) (by omega) a, swp_get xs (j + 1) (by omega) (by omega) b, Nat.add_sub_cancel]
          by_cases eb : b = j + 1
          · subst eb
            rw [if_neg (c := j + 1 = j) (by omega), if_pos (c := j + 1 = j + 1) rfl]
            by_cases ea : a = j
            · rw [if_pos ea]
              omega
            · rw [if_neg ea, if_neg (c := a = j + 1) (by omega)]
              exact hn a j (by omega) (by omega) (by omega)
          · rw [if_neg (c := b = j) hbj, if_neg (c := b = j + 1) eb]
            by_cases ea : a = j
            · rw [if_pos ea]
              exact hn (j + 1) b (by omega) hb eb
            · rw [if_neg ea]
              by_cases ea2 : a = j + 1
              · rw [if_pos ea2]
                exact hn j b (by omega) hb eb
              · rw [if_neg ea2]
                exact hn a b hab hb eb)
        exact ⟨ys, k', by omega, e, p.trans hp, u⟩
      · rw [if_neg c]
        refine ⟨xs, k, by omega, rfl, List.Perm.refl _, fun a b hab hb => ?_⟩
        by_cases eb : b = j + 1
        · subst eb
          by_cases ea : a = j
          · subst ea
            omega
          · have := hn a j (by omega) (by omega) (by omega)
            omega
        · exact hn a b hab (by omega) eb
  intro d
  induction d with
  | zero =>
    intro k i xs hi hk hl hv hu
    obtain ⟨k, rfl⟩ : ∃ m, k = m + 1 := ⟨k - 1, by omega⟩
    have : i = n := by omega
    subst this
    exact ⟨xs, hend k xs hl hv, List.Perm.refl _, hu⟩
  | succ d ih =>
    intro k i xs hi hk hl hv hu
    have hmul : (d + 1) * (n + 3) = d * (n + 3) + (n + 3) := Nat.succ_mul _ _
    obtain ⟨k, rfl⟩ : ∃ m, k = m + 1 := ⟨k - 1, by omega⟩
    rw [h0 k xs i (by omega) hl hv]
    obtain ⟨ys, k', hk', e, p, u⟩ := inner i k i xs (Nat.le_refl _) (by omega) (by omega) hl hv (fun a b hab hb hbi => hu a b hab (by omega))
    obtain ⟨zs, e2, p2, u2⟩ := ih k' (i + 1) ys (by omega) (by omega) (by rw [p.length_eq, hl]) (hV _ _ hv p) u
    rw [e]
    exact ⟨zs, e2, p2.trans p, u2⟩
/-- In order by a key, and by themselves where the keys agree. -/
def Lex (key : Int → Int) (x y : Int) : Prop := key x < key y ∨ (key x = key y ∧ x < y)
def UptoL (key : Int → Int) (xs : List Int) (i : Nat) : Prop := ∀ a b : Nat, a < b → b < i → Lex key (xs.getD a 0) (xs.getD b 0)
def NearL (key : Int → Int) (xs : List Int) (i j : Nat) : Prop := ∀ a b : Nat, a < b → b ≤ i → b ≠ j → Lex key (xs.getD a 0) (xs.getD b 0)
def TopL (xs : List Int) (i j : Nat) : Prop := ∀ a : Nat, a ≤ i → a ≠ j → xs.getD a 0 < xs.getD j 0
def RestL (xs : List Int) (n i : Nat) : Prop := ∀ a b : Nat, a < b → i ≤ b → b < n → xs.getD a 0 < xs.getD b 0
/-- Insertion sort by neighbours' swaps of ascending numbers: stable, of any two loops that do it. -/
theorem insertion_st (L0 : Nat → List Int → Int → Option (List Int)) (L1 : Nat → List Int → Int → Int → Option (List Int)) (key : Int → Int) (n : Nat) (V : List Int → Prop)
    (h0 : ∀ k xs (i : Nat), i < n → xs.length = n → V xs → L0 (k + 1) xs i = L1 k xs i i)
    (hend : ∀ k xs, xs.length = n → V xs → L0 (k + 1) xs n = some xs)
    (h1 : ∀ k xs (i j : Nat), 0 < j → j ≤ i → i < n → xs.length = n → V xs → L1 (k + 1) xs i j = if key (xs.getD j 0) < key (xs.getD (j - 1) 0) then L1 k (swp xs j) i ((j - 1 : Nat) : Int) else L0 k xs ((i + 1 : Nat) : Int))
    (h1z : ∀ k xs (i : Nat), i < n → xs.length = n → V xs → L1 (k + 1) xs i 0 = L0 k xs ((i + 1 : Nat) : Int))
    (hV : ∀ xs ys, V xs → ys.Perm xs → V ys) :
    ∀ (d k i : Nat) (xs : List Int), i + d = n → d * (n + 3) + 1 < k → xs.length = n → V xs → UptoL key xs i → RestL xs n i → ∃ ys, L0 k xs i = some ys ∧ ys.Perm xs ∧ UptoL key ys n := by
  have inner : ∀ (j k i : Nat) (xs : List Int), j ≤ i → i < n → j + 1 < k → xs.length = n → V xs → NearL key xs i j → TopL xs i j → RestL xs n (i + 1) → ∃ ys k', k - j - 1 ≤ k' ∧ L1 k xs i j = L0 k' ys ((i + 1 : Nat) : Int) ∧ ys.Perm xs ∧ UptoL key ys (i + 1) ∧ RestL ys n (i + 1) := by
    intro j
    induction j with
    | zero =>
      intro k i xs hji hi hk hl hv hn ht hr
      obtain ⟨k, rfl⟩ : ∃ m, k = m + 1 := ⟨k - 1, by omega⟩
      exact ⟨xs, k, by omega, h1z k xs i hi hl hv, List.Perm.refl _, fun a b hab hb => hn a b hab (by omega) (by omega), hr⟩
    | succ j ih =>
      intro k i xs hji hi hk hl hv hn ht hr
      obtain ⟨k, rfl⟩ : ∃ m, k = m + 1 := ⟨k - 1, by omega⟩
      rw [h1 k xs i (j + 1) (by omega) hji hi hl hv, Nat.add_sub_cancel]
      by_cases c : key (xs.getD (j + 1) 0) < key (xs.getD j 0)
      · rw [if_pos c]
        have hp := swp_perm xs (j + 1) (by omega) (by omega)
        have hg := fun a => swp_get xs (j + 1) (by omega) (by omega) a
        simp only [Nat.add_sub_cancel] at hg
        obtain ⟨ys, k', hk', e, p, u, r⟩ := ih k i (swp xs (j + 1)) (by omega) hi (by omega) (by rw [swp_len, hl]) (hV _ _ hv hp) (fun a b hab hb hbj => by
          rw [hg a, hg b]
          by_cases eb : b = j + 1
          · subst eb
            rw [if_neg (c := j + 1 = j) (by omega), if_pos (c := j + 1 = j + 1) rfl]
            by_cases ea : a = j
            · rw [if_pos ea]
              exact .inl c
            · rw [if_neg ea, if_neg (c := a = j + 1) (by omega)]
              exact hn a j (by omega) (by omega) (by omega)
          · rw [if_neg (c := b = j) hbj, if_neg (c := b = j + 1) eb]
            by_cases ea : a = j
            · rw [if_pos ea]
              exact hn (j + 1) b (by omega) hb eb
            · rw [if_neg ea]
              by_cases ea2 : a = j + 1
              · rw [if_pos ea2]
                exact hn j b (by omega) hb eb
              · rw [if_neg ea2]
                exact hn a b hab hb eb) (fun a ha haj => by
          rw [hg a, hg j, if_pos (c := j = j) rfl, if_neg haj]
          by_cases ea : a = j + 1
          · rw [if_pos ea]
            exact ht j (by omega) (by omega)
          · rw [if_neg ea]
            exact ht a ha ea) (fun a b hab hb hbn => by
          rw [hg a, hg b, if_neg (c := b = j) (by omega), if_neg (c := b = j + 1) (by omega)]
          by_cases ea : a = j
          · rw [if_pos ea]
            exact hr (j + 1) b (by omega) hb hbn
          · rw [if_neg ea]
            by_cases ea2 : a = j + 1
            · rw [if_pos ea2]
              exact hr j b (by omega) hb hbn
            · rw [if_neg ea2]
              exact hr a b hab hb hbn)
        exact ⟨ys, k', by omega, e, p.trans hp, u, r⟩
      · rw [if_neg c]
        refine ⟨xs, k, by omega, rfl, List.Perm.refl _, fun a b hab hb => ?_, hr⟩
        by_cases eb : b = j + 1
        · subst eb
          have hj := ht j (by omega) (by omega)
          by_cases ea : a = j
          · subst ea
            unfold Lex
            omega
          · have := hn a j (by omega) (by omega) (by omega)
            unfold Lex at this ⊢
            omega
        · exact hn a b hab (by omega) eb
  intro d
  induction d with
  | zero =>
    intro k i xs hi hk hl hv hu hr
    obtain ⟨k, rfl⟩ : ∃ m, k = m + 1 := ⟨k - 1, by omega⟩
    have : i = n := by omega
    subst this
    exact ⟨xs, hend k xs hl hv, List.Perm.refl _, hu⟩
  | succ d ih =>
    intro k i xs hi hk hl hv hu hr
    have hmul : (d + 1) * (n + 3) = d * (n + 3) + (n + 3) := Nat.succ_mul _ _
    obtain ⟨k, rfl⟩ : ∃ m, k = m + 1 := ⟨k - 1, by omega⟩
    rw [h0 k xs i (by omega) hl hv]
    obtain ⟨ys, k', hk', e, p, u, r⟩ := inner i k i xs (Nat.le_refl _) (by omega) (by omega) hl hv (fun a b hab hb hbi => hu a b hab (by omega)) (fun a ha hai => hr a i (by omega) (by omega) (by omega)) (fun a b hab hb hbn => hr a b hab (by omega) hbn)
    obtain ⟨zs, e2, p2, u2⟩ := ih k' (i + 1) ys (by omega) (by omega) (by rw [p.length_eq, hl]) (hV _ _ hv p) u r
    rw [e]
    exact ⟨zs, e2, p2.trans p, u2⟩
/-- Two rows of the same numbers in the same strict order are the same row. -/
theorem lex_unique (key : Int → Int) : ∀ (xs ys : List Int), xs.Perm ys → xs.Pairwise (Lex key) → ys.Pairwise (Lex key) → xs = ys := by
  intro xs
  induction xs with
  | nil => intro ys p _ _; exact (List.nil_perm.1 p).symm ▸ rfl
  | cons x xs ih =>
    intro ys p hx hy
    match ys, p, hy with
    | [], p, _ => simp at p
    | y :: ys, p, hy =>
      have e : x = y := by
        apply Classical.byContradiction
        intro ne
        have h1 : x ∈ ys := by
          have := p.mem_iff.1 (List.mem_cons_self (a := x) (l := xs))
          rcases List.mem_cons.1 this with h | h
          · exact absurd h ne
          · exact h
        have h2 : y ∈ xs := by
          have := p.mem_iff.2 (List.mem_cons_self (a := y) (l := ys))
          rcases List.mem_cons.1 this with h | h
          · exact absurd h.symm ne
          · exact h
        have a := (List.pairwise_cons.1 hx).1 y h2
        have b := (List.pairwise_cons.1 hy).1 x h1
        unfold Lex at a b
        omega
      subst e
      rw [ih ys (List.Perm.cons_inv p) (List.pairwise_cons.1 hx).2 (List.pairwise_cons.1 hy).2]
theorem uptoL_pairwise (key : Int → Int) (xs : List Int) (h : UptoL key xs xs.length) : xs.Pairwise (Lex key) := by
  rw [List.pairwise_iff_getElem]
  intro i j hi hj hij
  have := h i j hij hj
  simpa [List.getD_eq_getElem?_getD, hi, hj] using this
theorem indices_ok (n k : Nat) (hn : n ≤ 1000000) (hk : n + 1 < k) : impl_indices.f k n = some ((List.range n).map fun i : Nat => (i : Int)) := by
  unfold impl_indices.f
  have h := (loop_fold (fun k i xs => impl_indices.l0 k xs n i) n 0 (by omega) (fun i xs => xs.length = i) (fun xs i => xs ++ [(i : Int)]) (fun xs => some xs)
    (fun k i s _ hi hp => by
      simp only [impl_indices.l0]
      rw [if_pos (by omega), if_pos (by omega)])
    (fun i s _ hp => by simp [hp])
    (fun k s _ hp => by
      simp only [impl_indices.l0]
      rw [if_neg (by omega)]) k [] rfl (by omega)).1
  rw [h]
  have key : ∀ (is : List Nat) (acc : List Int), is.foldl (fun (xs : List Int) (i : Nat) => xs ++ [(i : Int)]) acc = acc ++ is.map (fun i : Nat => (i : Int)) := by
    intro is
    induction is with
    | nil => intro acc; simp
    | cons i is ih => intro acc; simp [ih]
  rw [key]
  rfl
/-- The key the lengths are sorted by. -/
def lnKey (l : List Int) (x : Int) : Int := - (l.getD x.toNat 0)
theorem long_sort (l : List Int) (s : Int) (hL : lensOk l s = true) (k : Nat) (hk : l.length * (l.length + 3) + 30 < k) :
    ∃ ys, slices_SortStableFunc_int_int.f k ((List.range l.length).map fun i : Nat => (i : Int)) l = some ys ∧ ys.Perm ((List.range l.length).map fun i : Nat => (i : Int)) ∧ UptoL (lnKey l) ys l.length := by
  obtain ⟨⟨hs, hl⟩, hok⟩ := lensOk_iff.1 hL
  unfold slices_SortStableFunc_int_int.f slices_stableCmpFunc_int.f
  have hlen : ((List.range l.length).map fun i : Nat => (i : Int)).length = l.length := by simp
  obtain ⟨k, rfl⟩ : ∃ m, k = m + 1 + 1 := ⟨k - 2, by omega⟩
  have main : ∃ ys, slices_insertionSortCmpFunc_int.f (k + 1) ((List.range l.length).map fun i : Nat => (i : Int)) 0 l.length l = some ys ∧ ys.Perm ((List.range l.length).map fun i : Nat => (i : Int)) ∧ UptoL (lnKey l) ys l.length := by
    unfold slices_insertionSortCmpFunc_int.f
    rw [w64 (n := 0 + 1) (by omega) (by omega)]
    by_cases h0 : l.length = 0
    · refine ⟨_, ?_, List.Perm.refl _, fun a b _ hb => by omega⟩
      simp only [slices_insertionSortCmpFunc_int.l0]
      rw [if_neg (by omega)]
    · have rdm : ∀ (xs : List Int) (j : Nat), xs.length = l.length → j < l.length → (∀ x ∈ xs, 0 ≤ x ∧ x < (l.length : Int)) → 0 ≤ xs.getD j 0 ∧ xs.getD j 0 < (l.length : Int) := by
        intro xs j hxl hj hV
        exact hV _ (by simp [List.getD_eq_getElem?_getD, show j < xs.length by omega])
      have h := insertion_st (fun k xs i => slices_insertionSortCmpFunc_int.l0 k xs 0 l.length i l) (fun k xs i j => slices_insertionSortCmpFunc_int.l1 k xs 0 l.length i j l) (lnKey l) l.length (fun xs => ∀ x ∈ xs, 0 ≤ x ∧ x < (l.length : Int))
        (fun k xs i hi hxl hV => by
          simp only [slices_insertionSortCmpFunc_int.l0]
          rw [if_pos (by omega)])
        (fun k xs hxl hV => by
          simp only [slices_insertionSortCmpFunc_int.l0]
          rw [if_neg (by omega)])
        (fun k xs i j hj hji hi hxl hV => by
          have a1 := rdm xs j hxl (by omega) hV
          have a0 := rdm xs (j - 1) hxl (by omega) hV
          have ej : wrap64 ((j : Int) - 1) = ((j - 1 : Nat) : Int) := by rw [w64 (by omega) (by omega)]; omega
          simp only [slices_insertionSortCmpFunc_int.l1, ej]
          rw [if_pos (by omega), if_pos (by omega), if_pos (by omega), if_pos (by omega), if_pos (by omega), rd_nat, rd_nat]
          simp only [impl_LongFirst_1.f]
          rw [if_pos a0.1, if_pos a0.2, if_pos a1.1, if_pos a1.2]
          simp only [Option.bind_some]
          obtain ⟨p, hp⟩ : ∃ p : Nat, xs.getD j 0 = (p : Int) := ⟨(xs.getD j 0).toNat, by omega⟩
          obtain ⟨q, hq⟩ : ∃ q : Nat, xs.getD (j - 1) 0 = (q : Int) := ⟨(xs.getD (j - 1) 0).toNat, by omega⟩
          have hpl : p < l.length := by omega
          have hql : q < l.length := by omega
          have fp := hok (l.getD p 0) (by simp [List.getD_eq_getElem?_getD, hpl])
          have fq := hok (l.getD q 0) (by simp [List.getD_eq_getElem?_getD, hql])
          have hc : (wrap64 (rd l (xs.getD (j - 1) 0) - rd l (xs.getD j 0)) < 0) ↔ lnKey l (xs.getD j 0) < lnKey l (xs.getD (j - 1) 0) := by
            rw [hp, hq, rd_nat, rd_nat, w64 (by omega) (by omega)]
            unfold lnKey
            rw [Int.toNat_natCast, Int.toNat_natCast]
            omega
          by_cases c : lnKey l (xs.getD j 0) < lnKey l (xs.getD (j - 1) 0)
          · rw [if_pos (hc.2 c), if_pos c, Int.toNat_natCast, Int.toNat_natCast]
            rfl
          · rw [if_neg (fun h => c (hc.1 h)), if_neg c, w64 (by omega) (by omega)]
            rfl)
        (fun k xs i hi hxl hV => by
          simp only [slices_insertionSortCmpFunc_int.l1]
          rw [if_neg (by omega), w64 (by omega) (by omega)]
          rfl)
        (fun xs ys hV hp x hx => hV x (hp.mem_iff.1 hx))
      have e2 : (l.length - 1) * (l.length + 3) ≤ l.length * (l.length + 3) := Nat.mul_le_mul_right _ (by omega)
      have hget : ∀ a : Nat, a < l.length → ((List.range l.length).map fun i : Nat => (i : Int)).getD a 0 = (a : Int) := by
        intro a ha
        simp [List.getD_eq_getElem?_getD, ha]
      obtain ⟨ys, e, p, u⟩ := h (l.length - 1) (k + 1) 1 ((List.range l.length).map fun i : Nat => (i : Int)) (by omega) (by omega) hlen (fun x hx => by
        obtain ⟨i, hi, rfl⟩ := List.mem_map.1 hx
        have := List.mem_range.1 hi
        omega) (fun a b hab hb => by omega) (fun a b hab hb hbn => by
        rw [hget a (by omega), hget b hbn]
        omega)
      exact ⟨ys, e, p, u⟩
  obtain ⟨ys, e, p, u⟩ := main
  refine ⟨ys, ?_, p, u⟩
  rw [hlen]
  simp only [slices_stableCmpFunc_int.l0]
  rw [if_neg (by omega), e]
  simp only [Option.bind_some, slices_stableCmpFunc_int.l1]
  rw [if_neg (by omega)]
  rfl
theorem near_swap (key : Int → Int) (xs : List Int) (i j : Nat) (hji : j + 1 ≤ i) (hi : i < xs.length) (hn : NearL key xs i (j + 1)) (ht : TopL xs i (j + 1)) (c : key (xs.getD (j + 1) 0) < key (xs.getD j 0)) : NearL key (swp xs (j + 1)) i j ∧ TopL (swp xs (j + 1)) i j := by
  have hg := fun a => swp_get xs (j + 1) (by omega) (by omega) a
  simp only [Nat.add_sub_cancel] at hg
  refine ⟨fun a b hab hb hbj => ?_, fun a ha haj => ?_⟩
  · rw [hg a, hg b]
    by_cases eb : b = j + 1
    · subst eb
      rw [if_neg (c := j + 1 = j) (by omega), if_pos (c := j + 1 = j + 1) rfl]
      by_cases ea : a = j
      · rw [if_pos ea]
        exact .inl c
      · rw [if_neg ea, if_neg (c := a = j + 1) (by omega)]
        exact hn a j (by omega) (by omega) (by omega)
    · rw [if_neg (c := b = j) hbj, if_neg (c := b = j + 1) eb]
      by_cases ea : a = j
      · rw [if_pos ea]
        exact hn (j + 1) b (by omega) hb eb
      · rw [if_neg ea]
        by_cases ea2 : a = j + 1
        · rw [if_pos ea2]
          exact hn j b (by omega) hb eb
        · rw [if_neg ea2]
          exact hn a b hab hb eb
  · rw [hg a, hg j, if_pos (c := j = j) rfl, if_neg haj]
    by_cases ea : a = j + 1
    · rw [if_pos ea]
      exact ht j (by omega) (by omega)
    · rw [if_neg ea]
      exact ht a ha ea
theorem near_stop (key : Int → Int) (xs : List Int) (i j : Nat) (hji : j + 1 ≤ i) (hn : NearL key xs i (j + 1)) (ht : TopL xs i (j + 1)) (c : ¬ key (xs.getD (j + 1) 0) < key (xs.getD j 0)) : UptoL key xs (i + 1) := by
  intro a b hab hb
  by_cases eb : b = j + 1
  · subst eb
    have hj := ht j (by omega) (by omega)
    by_cases ea : a = j
    · subst ea
      unfold Lex
      omega
    · have := hn a j (by omega) (by omega) (by omega)
      unfold Lex at this ⊢
      omega
  · exact hn a b hab (by omega) eb
/-- The reference's shift of greater ones. -/
theorem shift_loop (l : List Int) (s : Int) (hL : lensOk l s = true) (c : Nat) (hc : c < l.length) : ∀ (j k : Nat) (xs vs : List Int), xs.length = c + 1 → vs = xs.set j c → j ≤ c → j + 1 < k → (∀ x ∈ vs, 0 ≤ x ∧ x < (l.length : Int)) → NearL (lnKey l) vs c j → TopL vs c j → ∃ ys k', k - j - 1 ≤ k' ∧ spec_LongFirst.l1 k l s xs c j = spec_LongFirst.l0 k' l s ys ((c + 1 : Nat) : Int) ∧ ys.Perm vs ∧ UptoL (lnKey l) ys (c + 1) := by
  obtain ⟨⟨hs, hl⟩, hok⟩ := lensOk_iff.1 hL
  intro j
  induction j with
  | zero =>
    intro k xs vs hx hvs hj hk hv hn ht
    obtain ⟨k, rfl⟩ : ∃ m, k = m + 1 := ⟨k - 1, by omega⟩
    refine ⟨vs, k, by omega, ?_, List.Perm.refl _, fun a b hab hb => hn a b hab (by omega) (by omega)⟩
    rw [spec_LongFirst.l1, if_neg (by omega), if_pos (by omega), if_pos (by omega), w64 (by omega) (by omega), hvs]
    rfl
  | succ j ih =>
    intro k xs vs hx hvs hj hk hv hn ht
    obtain ⟨k, rfl⟩ : ∃ m, k = m + 1 := ⟨k - 1, by omega⟩
    have ej : wrap64 (((j + 1 : Nat) : Int) - 1) = (j : Int) := by rw [w64 (by omega) (by omega)]; omega
    have hvl : vs.length = c + 1 := by rw [hvs, List.length_set, hx]
    have g1 : vs.getD (j + 1) 0 = c := by
      rw [hvs]
      simp [List.getD_eq_getElem?_getD, show j + 1 < xs.length by omega]
    have g0 : vs.getD j 0 = xs.getD j 0 := by
      rw [hvs, List.getD_eq_getElem?_getD, List.getElem?_set, if_neg (by omega), ← List.getD_eq_getElem?_getD]
    have hm : vs.getD j 0 ∈ vs := by simp [List.getD_eq_getElem?_getD, show j < vs.length by omega]
    have hb := hv _ hm
    rw [g0] at hb
    obtain ⟨q, hq⟩ : ∃ q : Nat, xs.getD j 0 = (q : Int) := ⟨(xs.getD j 0).toNat, by omega⟩
    have hql : q < l.length := by omega
    have hkey : (l.getD q 0 < l.getD c 0) ↔ lnKey l (vs.getD (j + 1) 0) < lnKey l (vs.getD j 0) := by
      rw [g1, g0, hq]
      unfold lnKey
      rw [Int.toNat_natCast, Int.toNat_natCast]
      omega
    rw [spec_LongFirst.l1, if_pos (by omega), ej, if_pos (by omega), if_pos (by omega), rd_nat xs j, hq, if_pos (by omega), if_pos (by omega), if_pos (by omega), if_pos (by omega), rd_nat, rd_nat]
    by_cases cc : l.getD q 0 < l.getD c 0
    · rw [if_pos cc, if_pos (by omega), if_pos (by omega), Int.toNat_natCast]
      obtain ⟨n1, t1⟩ := near_swap (lnKey l) vs c j hj (by omega) hn ht (hkey.1 cc)
      have hsw : swp vs (j + 1) = (xs.set (j + 1) (q : Int)).set j (c : Int) := by
        unfold swp
        rw [Nat.add_sub_cancel, g1, g0, hq, hvs, List.set_set]
      have hp := swp_perm vs (j + 1) (by omega) (by omega)
      obtain ⟨ys, k', hk', e, p, u⟩ := ih k (xs.set (j + 1) (q : Int)) (swp vs (j + 1)) (by simp [hx]) hsw (by omega) (by omega) (fun x hx => hv x (hp.mem_iff.1 hx)) n1 t1
      exact ⟨ys, k', by omega, e, p.trans hp, u⟩
    · rw [if_neg cc, if_pos (by omega), if_pos (by omega), Int.toNat_natCast, w64 (by omega) (by omega), ← hvs]
      exact ⟨vs, k, by omega, rfl, List.Perm.refl _, near_stop (lnKey l) vs c j hj hn ht (fun h => cc (hkey.2 h))⟩
theorem long_spec (l : List Int) (s : Int) (hL : lensOk l s = true) : ∀ (d k c : Nat) (xs : List Int), c + d = l.length → d * (l.length + 5) + l.length + 20 < k → xs.Perm ((List.range c).map fun i : Nat => (i : Int)) → UptoL (lnKey l) xs c → ∃ ys, spec_LongFirst.l0 k l s xs c = some ys ∧ ys.Perm ((List.range l.length).map fun i : Nat => (i : Int)) ∧ UptoL (lnKey l) ys l.length := by
  obtain ⟨⟨hs, hl⟩, hok⟩ := lensOk_iff.1 hL
  intro d
  induction d with
  | zero =>
    intro k c xs hc hk hp hu
    obtain ⟨k, rfl⟩ : ∃ m, k = m + 1 + 1 := ⟨k - 2, by omega⟩
    have : c = l.length := by omega
    subst this
    refine ⟨xs, ?_, hp, hu⟩
    rw [spec_LongFirst.l0, if_neg (by omega), spec_LongFirst.j1, if_neg (by simp)]
  | succ d ih =>
    intro k c xs hc hk hp hu
    have hmul : (d + 1) * (l.length + 5) = d * (l.length + 5) + (l.length + 5) := Nat.succ_mul _ _
    obtain ⟨k, rfl⟩ : ∃ m, k = m + 1 + 1 := ⟨k - 2, by omega⟩
    have hxl : xs.length = c := by rw [hp.length_eq]; simp
    have hmem : ∀ x ∈ xs, 0 ≤ x ∧ x < (c : Int) := by
      intro x hx
      obtain ⟨i, hi, rfl⟩ := List.mem_map.1 (hp.mem_iff.1 hx)
      have := List.mem_range.1 hi
      omega
    rw [spec_LongFirst.l0, if_pos (by omega), lens_spec l s (k + 1) (by omega) (by omega), hL]
    simp only [Option.bind_some]
    rw [spec_LongFirst.j1, if_pos rfl, if_pos (by omega), hxl]
    have gl : ∀ a : Nat, a < c → (xs ++ [(c : Int)]).getD a 0 = xs.getD a 0 := by
      intro a ha
      simp [List.getD_eq_getElem?_getD, List.getElem?_append_left (show a < xs.length by omega)]
    have gc : (xs ++ [(c : Int)]).getD c 0 = c := by
      simp [List.getD_eq_getElem?_getD, ← hxl]
    have hset : xs ++ [(c : Int)] = (xs ++ [(c : Int)]).set c (c : Int) := by
      apply List.ext_getElem?
      intro a
      rw [List.getElem?_set]
      by_cases e : c = a
      · subst e
        rw [if_pos rfl, if_pos (by simp; omega)]
        simp [← hxl]
      · rw [if_neg e]
    obtain ⟨ys, k', hk', e, p, u⟩ := shift_loop l s hL c (by omega) c k (xs ++ [(c : Int)]) (xs ++ [(c : Int)]) (by simp [hxl]) hset (Nat.le_refl _) (by omega) (fun x hx => by
      rcases List.mem_append.1 hx with h | h
      · have := hmem x h
        omega
      · have := List.mem_singleton.1 h
        omega) (fun a b hab hb hbc => by
      rw [gl a (by omega), gl b (by omega)]
      exact hu a b hab (by omega)) (fun a ha hac => by
      rw [gl a (by omega), gc]
      exact (hmem _ (by simp [List.getD_eq_getElem?_getD, show a < xs.length by omega])).2)
    rw [e]
    refine ih k' (c + 1) ys (by omega) (by omega) ?_ u
    rw [List.range_succ, List.map_append]
    exact p.trans (hp.append_right _)
/-- Both answer the same row. -/
theorem long_same (l : List Int) (s : Int) (hl : l.length ≤ 1000000000) (k : Nat) (hk : l.length + 1000 < k) : ∃ v, v.length ≤ 12 ∧ spec_LongFirst.f k l s = some v ∧ impl_LongFirst.f k l s = some v := by
  unfold spec_LongFirst.f impl_LongFirst.f
  rw [lens_impl]
  simp only [Option.bind_some]
  by_cases hL : lensOk l s = true
  · obtain ⟨⟨hs, hl12⟩, hok⟩ := lensOk_iff.1 hL
    rw [if_pos hL, indices_ok l.length k (by omega) (by omega)]
    simp only [Option.bind_some]
    have hb : l.length * (l.length + 3) ≤ 12 * 15 := Nat.mul_le_mul hl12 (by omega)
    have hb2 : l.length * (l.length + 5) ≤ 12 * 17 := Nat.mul_le_mul hl12 (by omega)
    obtain ⟨ys, e, p, u⟩ := long_sort l s hL k (by omega)
    obtain ⟨zs, e2, p2, u2⟩ := long_spec l s hL l.length k 0 [] (by omega) (by omega) (by simp) (fun a b _ hb => by omega)
    have hy : ys.length = l.length := by rw [p.length_eq]; simp
    have hz : zs.length = l.length := by rw [p2.length_eq]; simp
    have same : ys = zs := lex_unique (lnKey l) ys zs (p.trans p2.symm) (uptoL_pairwise _ ys (by rw [hy]; exact u)) (uptoL_pairwise _ zs (by rw [hz]; exact u2))
    rw [e]
    refine ⟨zs, by omega, e2, by rw [same]; rfl⟩
  · rw [if_neg hL]
    refine ⟨[], by simp, ?_, rfl⟩
    obtain ⟨k, rfl⟩ : ∃ m, k = m + 1 + 1 := ⟨k - 2, by omega⟩
    have hf : lensOk l s = false := Bool.eq_false_iff.2 hL
    rw [spec_LongFirst.l0]
    by_cases h0 : (0 : Int) < l.length
    · rw [if_pos h0, lens_spec l s (k + 1) (by omega) (by omega), hf]
      simp only [Option.bind_some]
      rw [spec_LongFirst.j1, if_neg (by simp)]
    · rw [if_neg h0, spec_LongFirst.j1, if_neg (by simp)]
theorem and255 (x : Int) : 0 ≤ Go.bits .and .i64 x 255 ∧ Go.bits .and .i64 x 255 ≤ 255 := by
  have h2 : ((BitVec.ofInt 64 255).toNat : Nat) = 255 := rfl
  have h1 : ∀ a : Nat, a &&& 255 ≤ 255 := fun a => Nat.and_le_right
  have h3 := h1 (BitVec.ofInt 64 x).toNat
  have : Go.bits .and .i64 x 255 = (((BitVec.ofInt 64 x).toNat &&& 255 : Nat) : Int) := by
    have h5 : (BitVec.ofInt 64 x &&& BitVec.ofInt 64 255).toNat = (BitVec.ofInt 64 x).toNat &&& 255 := by rw [BitVec.toNat_and, h2]
    show Go.IntKind.i64.wrap ((BitVec.ofInt 64 x &&& BitVec.ofInt 64 255).toNat : Int) = _
    rw [h5, Go.IntKind.wrap_i64]
    omega
  rw [this]
  omega
theorem byte_ok (l : List Int) (i h : Int) (hi : 0 ≤ i) (hl : l.length ≤ 9223372036854775807) : ∃ x i' h', spec_l01Byte.f l i h = some (x, i', h') ∧ 0 ≤ x ∧ x ≤ 255 ∧ 0 ≤ i' := by
  unfold spec_l01Byte.f
  by_cases h1 : i < (l.length : Int)
  · rw [if_pos h1, if_pos hi]
    refine ⟨_, _, _, rfl, (and255 _).1, (and255 _).2, ?_⟩
    rw [w64 (by omega) (by omega)]
    omega
  · rw [if_neg h1]
    exact ⟨_, _, _, rfl, (and255 _).1, (and255 _).2, hi⟩
theorem below_ok (l : List Int) (i h n : Int) (hi : 0 ≤ i) (hl : l.length ≤ 9223372036854775807) : ∃ x i' h', spec_l01Below.f l i h n = some (x, i', h') ∧ 0 ≤ x ∧ (0 < n → x < n) ∧ (n ≤ 0 → x = 0) ∧ 0 ≤ i' := by
  unfold spec_l01Below.f
  by_cases h1 : n ≤ 0
  · rw [if_pos h1]
    exact ⟨_, _, _, rfl, Int.le_refl _, fun h => by omega, fun _ => rfl, hi⟩
  · rw [if_neg h1]
    have hn : n ≠ 0 := by omega
    by_cases h2 : n ≤ 256
    · rw [if_pos h2]
      obtain ⟨x, i1, g1, e1, a1, b1, c1⟩ := byte_ok l i h hi hl
      rw [e1]
      simp only [Option.bind_some]
      rw [if_neg hn]
      refine ⟨_, _, _, rfl, Int.tmod_nonneg _ a1, fun h => ?_, fun h => by omega, c1⟩
      exact Int.tmod_lt_of_pos _ h
    · rw [if_neg h2]
      obtain ⟨x1, i1, g1, e1, a1, b1, c1⟩ := byte_ok l i h hi hl
      rw [e1]
      simp only [Option.bind_some]
      obtain ⟨x2, i2, g2, e2, a2, b2, c2⟩ := byte_ok l i1 g1 c1 hl
      rw [e2]
      simp only [Option.bind_some]
      obtain ⟨x3, i3, g3, e3, a3, b3, c3⟩ := byte_ok l i2 g2 c2 hl
      rw [e3]
      simp only [Option.bind_some]
      obtain ⟨x4, i4, g4, e4, a4, b4, c4⟩ := byte_ok l i3 g3 c3 hl
      rw [e4]
      simp only [Option.bind_some]
      rw [if_neg hn]
      refine ⟨_, _, _, rfl, Int.tmod_nonneg _ ?_, fun h => Int.tmod_lt_of_pos _ h, fun h => by omega, c4⟩
      unfold wrap64
      omega
theorem new_ok (l : List Int) (k : Nat) (hk : l.length < k) (hl : l.length ≤ 9223372036854775807) : ∃ h, spec_l01New.f k l = some (l, 0, h) := by
  have key : ∀ (d k : Nat) (h : Int) (i : Nat), i ≤ l.length → l.length - i = d → d < k → ∃ h', spec_l01New.l0 k l h i = some (l, 0, h') := by
    intro d
    induction d with
    | zero =>
      intro k h i hi hd hk
      obtain ⟨k, rfl⟩ : ∃ m, k = m + 1 := ⟨k - 1, by omega⟩
      simp only [spec_l01New.l0]
      rw [if_neg (by omega)]
      exact ⟨_, rfl⟩
    | succ d ih =>
      intro k h i hi hd hk
      obtain ⟨k, rfl⟩ : ∃ m, k = m + 1 := ⟨k - 1, by omega⟩
      simp only [spec_l01New.l0]
      rw [if_pos (by omega)]
      by_cases h4 : (i : Int) < 4000
      · rw [if_pos h4, if_pos (by omega), w64s (n := l.length) (by omega) (by omega) hl]
        exact ih k _ (i + 1) (by omega) (by omega) (by omega)
      · rw [if_neg h4]
        exact ⟨_, rfl⟩
  exact key l.length k _ 0 (by omega) (by omega) hk
theorem at_ok (l : List Int) (i : Int) (hi : 0 ≤ i) (hi2 : i ≤ 1000) (hl : l.length ≤ 9223372036854775807) (hw : ∀ x ∈ l, (Lit.int .u8 x).wf = true) : ∃ v, laws_at.f l i = some v ∧ 0 ≤ v ∧ v ≤ 255 := by
  unfold laws_at.f
  by_cases h : (l.length : Int) = 0
  · rw [if_pos h]
    exact ⟨0, rfl, by omega, by omega⟩
  · rw [if_neg h]
    have e : wrap64 (wrap64 (i * 5) + 1) = i * 5 + 1 := by unfold wrap64; omega
    rw [e]
    have h1 : 0 ≤ Int.tmod (i * 5 + 1) (l.length : Int) := Int.tmod_nonneg _ (by omega)
    have h2 : Int.tmod (i * 5 + 1) (l.length : Int) < (l.length : Int) := Int.tmod_lt_of_pos _ (by omega)
    rw [if_pos h1, if_pos h2]
    generalize Int.tmod (i * 5 + 1) (l.length : Int) = j at h1 h2
    have hj : j.toNat < l.length := by omega
    have hr : rd l j = l[j.toNat] := by simp [rd, List.getD_eq_getElem?_getD, hj]
    have hb := hw _ (List.getElem_mem hj)
    simp only [Lit.wf, IntKind.min, IntKind.max, IntKind.signed, IntKind.bits, Bool.and_eq_true, decide_eq_true_eq] at hb
    rw [hr]
    generalize l[j.toNat] = v at hb
    refine ⟨_, rfl, ?_, ?_⟩ <;> (rw [w64 (by simp at hb; omega) (by simp at hb; omega)]; simp at hb; omega)
theorem big_eq (l : List Int) : laws_big.f l = some (decide ((l.length : Int) > 1048576)) := rfl
theorem and_tab : ∀ (h : Fin 64) (b : Fin 64) (i : Fin 12), Go.bits .and .i64 (shr .i64 ((64 * h.val + b.val : Nat) : Int) ((i.val : Nat) : Int)) 1 = (if (64 * h.val + b.val).testBit i.val then 1 else 0) := by decide +kernel
theorem andNot_tab : ∀ (h : Fin 64) (b : Fin 64) (i : Fin 12), (64 * h.val + b.val).testBit i.val = true → Go.bits .andNot .i64 ((64 * h.val + b.val : Nat) : Int) (shl .i64 1 ((i.val : Nat) : Int)) = ((64 * h.val + b.val - 2 ^ i.val : Nat) : Int) := by decide +kernel
theorem pow_tab : ∀ (i : Fin 13), shl .i64 1 ((i.val : Nat) : Int) = ((2 ^ i.val : Nat) : Int) := by decide +kernel
theorem and_bit {s i : Nat} (hs : s < 4096) (hi : i < 12) : Go.bits .and .i64 (shr .i64 (s : Int) (i : Int)) 1 = (if s.testBit i then 1 else 0) := by
  have := and_tab ⟨s / 64, by omega⟩ ⟨s % 64, by omega⟩ ⟨i, hi⟩
  simp only [show 64 * (s / 64) + s % 64 = s from by omega] at this; exact this
theorem andNot_bit {s i : Nat} (hs : s < 4096) (hi : i < 12) (hb : s.testBit i = true) : Go.bits .andNot .i64 (s : Int) (shl .i64 1 (i : Int)) = ((s - 2 ^ i : Nat) : Int) := by
  have := andNot_tab ⟨s / 64, by omega⟩ ⟨s % 64, by omega⟩ ⟨i, hi⟩
  simp only [show 64 * (s / 64) + s % 64 = s from by omega] at this; exact this hb
theorem shl_pow {i : Nat} (hi : i ≤ 12) : shl .i64 1 (i : Int) = ((2 ^ i : Nat) : Int) := pow_tab ⟨i, by omega⟩
/-- A bit that is set: the number is that power and what is left. -/
theorem bit_split {s i : Nat} (hb : s.testBit i = true) : 2 ^ i ≤ s := Nat.ge_two_pow_of_testBit hb
theorem bit_sub {s i : Nat} (hb : s.testBit i = true) (j : Nat) : (s - 2 ^ i).testBit j = (s.testBit j && decide (j ≠ i)) := by
  obtain ⟨r, hr⟩ : ∃ r, r = s - 2 ^ i := ⟨_, rfl⟩
  have hs : s = 2 ^ i + r := by have := bit_split hb; omega
  rw [← hr]
  have hri : r.testBit i = false := by
    rw [hs, Nat.testBit_two_pow_add_eq] at hb; simpa using hb
  rcases Nat.lt_trichotomy j i with h | h | h
  · rw [hs, Nat.testBit_two_pow_add_gt h]; simp; omega
  · subst h; rw [hri]; simp
  · have e : (2 ^ i + r) / 2 ^ (i + 1) = r / 2 ^ (i + 1) := by
      have hm : r % 2 ^ (i + 1) < 2 ^ i := by
        have h1 : r / 2 ^ i % 2 = 0 := by
          have := hri; rw [Nat.testBit_eq_decide_div_mod_eq] at this; simp at this; omega
        have h2 : r % 2 ^ (i + 1) = r % 2 ^ i + 2 ^ i * (r / 2 ^ i % 2) := by rw [Nat.pow_succ]; exact Nat.mod_mul
        rw [h2, h1]; simp; exact Nat.mod_lt _ (Nat.two_pow_pos i)
      have h3 := Nat.div_add_mod r (2 ^ (i + 1))
      have h4 : 2 ^ i + r = (2 ^ i + r % 2 ^ (i + 1)) + 2 ^ (i + 1) * (r / 2 ^ (i + 1)) := by omega
      rw [h4, Nat.add_mul_div_left _ _ (Nat.two_pow_pos _), Nat.div_eq_of_lt (by have h5 : 2 ^ (i + 1) = 2 ^ i * 2 := Nat.pow_succ 2 i; omega)]; omega
    rw [hs]; simp only [Nat.testBit_eq_decide_div_mod_eq]
    obtain ⟨d, rfl⟩ : ∃ d, j = i + 1 + d := ⟨j - (i + 1), by omega⟩
    have e2 : ∀ x : Nat, x / 2 ^ (i + 1 + d) = x / 2 ^ (i + 1) / 2 ^ d := fun x => by rw [Nat.pow_add, Nat.div_div_eq_div_mul]
    rw [e2, e2, e]; simp; omega
/-- The next piece: on the last strip where it fits, on a new one where it does not. -/
def ext (a : Int) (x : Int × Int) (p : Int) : Int × Int := if x.1 > 0 ∧ x.2 + p ≤ a then (x.1, x.2 + p) else (x.1 + 1, p)
def le2 (x y : Int × Int) : Prop := x.1 < y.1 ∨ (x.1 = y.1 ∧ x.2 ≤ y.2)
def runO (l : List Int) (a : Int) (σ : List Nat) : Int × Int := σ.foldl (fun x i => ext a x (l.getD i 0)) (0, 0)
def Ord (n s : Nat) (σ : List Nat) : Prop := σ.Nodup ∧ ∀ i, i ∈ σ ↔ (i < n ∧ s.testBit i = true)
def Opt (l : List Int) (a : Int) (n s : Nat) (v : Int × Int) : Prop := (∃ σ, Ord n s σ ∧ runO l a σ = v) ∧ ∀ σ, Ord n s σ → le2 v (runO l a σ)
theorem le2_refl (x : Int × Int) : le2 x x := .inr ⟨rfl, Int.le_refl _⟩
theorem le2_trans {x y z : Int × Int} (h : le2 x y) (h2 : le2 y z) : le2 x z := by unfold le2 at *; omega
theorem le2_anti {x y : Int × Int} (h : le2 x y) (h2 : le2 y x) : x = y := by unfold le2 at *; exact Prod.ext (by omega) (by omega)
theorem ext_mono {a : Int} {x y : Int × Int} {p : Int} (hx : 0 ≤ x.1) (h : le2 x y) (hp : 0 ≤ p) (hy : 0 ≤ y.2) (hx0 : x.1 = 0 → x.2 = 0) : le2 (ext a x p) (ext a y p) := by
  unfold ext le2 at *
  split <;> split <;> simp <;> omega
theorem runO_snoc (l : List Int) (a : Int) (σ : List Nat) (j : Nat) : runO l a (σ ++ [j]) = ext a (runO l a σ) (l.getD j 0) := by simp [runO, List.foldl_append]
/-- A number of strips, and what is used of the last one. -/
def Fine (a : Int) (x : Int × Int) : Prop := 0 ≤ x.1 ∧ 0 ≤ x.2 ∧ x.2 ≤ a ∧ (x.1 = 0 → x.2 = 0)
theorem ext_fine {a : Int} {x : Int × Int} {p : Int} (hx : Fine a x) (hp : 0 ≤ p ∧ p ≤ a) : Fine a (ext a x p) ∧ 0 < (ext a x p).1 ∧ (ext a x p).1 ≤ x.1 + 1 := by
  unfold ext Fine at *
  split <;> simp <;> omega
theorem run_fine {l : List Int} {a : Int} (hl : ∀ i, 0 ≤ l.getD i 0 ∧ l.getD i 0 ≤ a) (ha : 0 ≤ a) (σ : List Nat) : Fine a (runO l a σ) ∧ (runO l a σ).1 ≤ (σ.length : Int) ∧ (σ ≠ [] → 0 < (runO l a σ).1) := by
  obtain ⟨n, hn⟩ : ∃ n, n = σ.length := ⟨_, rfl⟩
  induction n generalizing σ with
  | zero => obtain rfl : σ = [] := List.length_eq_zero_iff.mp hn.symm; simp [runO, Fine, ha]
  | succ n ih =>
    obtain ⟨τ, j, rfl⟩ : ∃ τ j, σ = τ ++ [j] := by
      refine ⟨σ.dropLast, σ.getLast (by intro h; simp [h] at hn), ?_⟩
      rw [List.dropLast_concat_getLast]
    have h1 := ih τ (by simp at hn; omega)
    have h2 := ext_fine h1.1 (hl j)
    rw [runO_snoc]
    exact ⟨h2.1, by rw [List.length_append, List.length_singleton]; omega, fun _ => h2.2.1⟩
/-- No more than n numbers below n stand in a row that repeats none. -/
theorem nodup_len : ∀ (n : Nat) (σ : List Nat), σ.Nodup → (∀ i ∈ σ, i < n) → σ.length ≤ n
  | 0, σ, _, h => by
    cases σ with
    | nil => simp
    | cons a t => exact absurd (h a (by simp)) (by omega)
  | n + 1, σ, hn, h => by
    by_cases hm : n ∈ σ
    · have := nodup_len n (σ.erase n) (hn.erase n) (fun i hi => by
        have h1 := (hn.mem_erase_iff).mp hi
        have h2 := h i h1.2; have := h1.1; omega)
      rw [List.length_erase_of_mem hm] at this; omega
    · have := nodup_len n σ hn (fun i hi => by
        have h2 := h i hi
        have : i ≠ n := fun e => hm (e ▸ hi)
        omega)
      omega
theorem ord_zero {n : Nat} {σ : List Nat} (h : Ord n 0 σ) : σ = [] := by
  cases σ with
  | nil => rfl
  | cons a t => have := (h.2 a).mp (by simp); simp at this
theorem opt_zero (l : List Int) (a : Int) (n : Nat) : Opt l a n 0 (0, 0) := by
  refine ⟨⟨[], ⟨List.nodup_nil, fun i => by simp⟩, rfl⟩, fun σ h => ?_⟩
  rw [ord_zero h]; exact le2_refl _
theorem ord_snoc {n s : Nat} {σ : List Nat} {j : Nat} (h : Ord n s (σ ++ [j])) : j < n ∧ s.testBit j = true ∧ Ord n (s - 2 ^ j) σ := by
  have hj := (h.2 j).mp (by simp)
  have hn := h.1
  rw [List.nodup_append] at hn
  refine ⟨hj.1, hj.2, hn.1, fun i => ?_⟩
  rw [bit_sub hj.2]
  constructor
  · intro hi
    have h1 := (h.2 i).mp (by simp [hi])
    have h2 : i ≠ j := fun e => hn.2.2 i hi j (by simp) e
    simp [h1.1, h1.2, h2]
  · intro hi
    simp at hi
    have := (h.2 i).mpr ⟨hi.1, hi.2.1⟩
    simp at this; rcases this with h1 | h1
    · exact h1
    · exact absurd h1 hi.2.2
theorem ord_add {n s : Nat} {σ : List Nat} {j : Nat} (hj : j < n) (hb : s.testBit j = true) (h : Ord n (s - 2 ^ j) σ) : Ord n s (σ ++ [j]) := by
  have hnj : j ∉ σ := fun hm => by have := (h.2 j).mp hm; rw [bit_sub hb] at this; simp at this
  refine ⟨?_, fun i => ?_⟩
  · rw [List.nodup_append]; exact ⟨h.1, by simp, fun x hx y hy e => by simp at hy; subst hy; subst e; exact hnj hx⟩
  · simp only [List.mem_append, List.mem_singleton, h.2 i, bit_sub hb]
    constructor
    · rintro (⟨h1, h2⟩ | rfl)
      · simp at h2; exact ⟨h1, h2.1⟩
      · exact ⟨hj, hb⟩
    · rintro ⟨h1, h2⟩
      by_cases e : i = j
      · exact .inr e
      · left; simp [h1, h2, e]
theorem opt_bound {l : List Int} {a : Int} (hl : ∀ i, 0 ≤ l.getD i 0 ∧ l.getD i 0 ≤ a) (ha : 0 ≤ a) {n s : Nat} {v : Int × Int} (h : Opt l a n s v) : Fine a v ∧ v.1 ≤ (n : Int) := by
  obtain ⟨⟨σ, ho, rfl⟩, _⟩ := h
  have := run_fine hl ha σ
  have h2 := nodup_len n σ ho.1 (fun i hi => ((ho.2 i).mp hi).1)
  exact ⟨this.1, by omega⟩
theorem opt_pos {l : List Int} {a : Int} (hl : ∀ i, 0 ≤ l.getD i 0 ∧ l.getD i 0 ≤ a) (ha : 0 ≤ a) {n s : Nat} {v : Int × Int} (h : Opt l a n s v) (hs : s ≠ 0) (hn : s < 2 ^ n) : 0 < v.1 := by
  obtain ⟨⟨σ, ho, rfl⟩, _⟩ := h
  refine (run_fine hl ha σ).2.2 (fun e => ?_)
  obtain ⟨i, hi⟩ := Nat.exists_testBit_of_ne_zero hs
  have h1 : i < n := by
    rcases Nat.lt_or_ge i n with h | h
    · exact h
    · have := bit_split hi; have h3 : 2 ^ n ≤ 2 ^ i := Nat.pow_le_pow_right (by omega) h; omega
  have := (ho.2 i).mpr ⟨h1, hi⟩
  rw [e] at this; simp at this
/-- What the inner loop knows of the set it looks at. -/
def Cur (l : List Int) (a : Int) (n s i : Nat) (V : Nat → Int × Int) (x : Int × Int) : Prop :=
  (x = ((n : Int) + 1, 0) ∨ ∃ j, j < i ∧ j < n ∧ s.testBit j = true ∧ x = ext a (V (s - 2 ^ j)) (l.getD j 0)) ∧ ∀ j, j < i → j < n → s.testBit j = true → le2 x (ext a (V (s - 2 ^ j)) (l.getD j 0))
theorem cur_opt {l : List Int} {a : Int} (hl : ∀ i, 0 ≤ l.getD i 0 ∧ l.getD i 0 ≤ a) (ha : 0 ≤ a) {n s : Nat} {V : Nat → Int × Int} (hV : ∀ t, t < s → Opt l a n t (V t)) (hs : s ≠ 0) (hn : s < 2 ^ n) {x : Int × Int} (h : Cur l a n s n V x) : Opt l a n s x := by
  obtain ⟨i, hi⟩ := Nat.exists_testBit_of_ne_zero hs
  have hin : i < n := by
    rcases Nat.lt_or_ge i n with h | h
    · exact h
    · have := bit_split hi; have h3 : 2 ^ n ≤ 2 ^ i := Nat.pow_le_pow_right (by omega) h; omega
  have hsub : ∀ j, s.testBit j = true → s - 2 ^ j < s := fun j hj => by have := bit_split hj; have := Nat.two_pow_pos j; omega
  refine ⟨?_, fun σ ho => ?_⟩
  · rcases h.1 with e | ⟨j, hj, _, hb, e⟩
    · have h1 := h.2 i hin hin hi
      obtain ⟨⟨σ, ho, hr⟩, _⟩ := hV _ (hsub i hi)
      have h2 := ord_add hin hi ho
      have h3 := run_fine hl ha (σ ++ [i])
      have h4 := nodup_len n _ h2.1 (fun q hq => ((h2.2 q).mp hq).1)
      rw [runO_snoc, hr] at h3
      rw [e] at h1; unfold le2 at h1; simp only at h1; omega
    · obtain ⟨⟨σ, ho, hr⟩, _⟩ := hV _ (hsub j hb)
      exact ⟨σ ++ [j], ord_add hj hb ho, by rw [runO_snoc, hr, e]⟩
  · obtain ⟨τ, j, rfl⟩ : ∃ τ j, σ = τ ++ [j] := by
      have hne : σ ≠ [] := fun e => by have := (ho.2 i).mpr ⟨hin, hi⟩; rw [e] at this; simp at this
      exact ⟨σ.dropLast, σ.getLast hne, by rw [List.dropLast_concat_getLast]⟩
    obtain ⟨hj, hb, ho2⟩ := ord_snoc ho
    have h1 := h.2 j hj hj hb
    have h2 := hV _ (hsub j hb)
    have h3 := opt_bound hl ha h2
    have h4 := run_fine hl ha τ
    rw [runO_snoc]
    exact le2_trans h1 (ext_mono h3.1.1 (h2.2 τ ho2) (hl j).1 h4.1.2.1 h3.1.2.2.2)
def lt2 (x y : Int × Int) : Prop := x.1 < y.1 ∨ (x.1 = y.1 ∧ x.2 < y.2)
instance (x y : Int × Int) : Decidable (lt2 x y) := inferInstanceAs (Decidable (_ ∨ _))
def vB (B : List S46) (t : Nat) : Int × Int := ((B.getD t z46).f0, (B.getD t z46).f1)
theorem rdT (B : List S46) (t : Nat) : rd_T46 B (t : Int) = B.getD t z46 := by simp [rd_T46]
def mkS (x : Int × Int) : S46 := ⟨x.1, x.2⟩
theorem impl_j2 (k : Nat) (l : List Int) (a : Int) (n : Nat) (B : List S46) (s i : Nat) (hi : i < l.length) (hs : s < B.length) (b : Bool) (m u : Int) (c : Int × Int) (hc : c = if b then (m, wrap64 (u + l.getD i 0)) else (wrap64 (m + 1), l.getD i 0)) :
    impl_FewestStrips.j2 (k + 1) l a n B s i n i b m u = impl_FewestStrips.l1 k l a n (if lt2 c (vB B s) then B.set s (mkS c) else B) s n (wrap64 ((i : Int) + 1)) := by
  have h0 : (0 : Int) ≤ (i : Int) := by omega
  have h1 : (i : Int) < (l.length : Int) := by omega
  have h2 : (0 : Int) ≤ (s : Int) := by omega
  have h3 : (s : Int) < (B.length : Int) := by omega
  subst hc
  cases b with
  | true =>
    simp only [impl_FewestStrips.j2, if_true, rd_nat, rdT, Int.toNat_natCast]
    rw [if_pos h0, if_pos h1, if_pos h2, if_pos h3]
    by_cases e1 : m < (B.getD s z46).f0
    · rw [if_pos e1, if_pos (.inl e1)]; rfl
    · rw [if_neg e1]
      by_cases e2 : m = (B.getD s z46).f0
      · rw [if_pos e2]
        by_cases e3 : wrap64 (u + l.getD i 0) < (B.getD s z46).f1
        · rw [if_pos e3, if_pos (.inr ⟨e2, e3⟩)]; rfl
        · rw [if_neg e3, if_neg (fun h => by rcases h with h | h; exact e1 h; exact e3 h.2)]
      · rw [if_neg e2, if_neg (fun h => by rcases h with h | h; exact e1 h; exact e2 h.1)]
  | false =>
    simp only [impl_FewestStrips.j2, Bool.false_eq_true, if_false, rd_nat, rdT, Int.toNat_natCast]
    rw [if_pos h0, if_pos h1, if_pos h2, if_pos h3]
    by_cases e1 : wrap64 (m + 1) < (B.getD s z46).f0
    · rw [if_pos e1, if_pos (.inl e1)]; rfl
    · rw [if_neg e1]
      by_cases e2 : wrap64 (m + 1) = (B.getD s z46).f0
      · rw [if_pos e2]
        by_cases e3 : l.getD i 0 < (B.getD s z46).f1
        · rw [if_pos e3, if_pos (.inr ⟨e2, e3⟩)]; rfl
        · rw [if_neg e3, if_neg (fun h => by rcases h with h | h; exact e1 h; exact e3 h.2)]
      · rw [if_neg e2, if_neg (fun h => by rcases h with h | h; exact e1 h; exact e2 h.1)]
theorem spec_j2 (k : Nat) (l : List Int) (a : Int) (n : Nat) (U L : List Int) (s i : Nat) (hi : i < l.length) (hs : s < U.length) (hs2 : s < L.length) (b : Bool) (m u : Int) (c : Int × Int) (hc : c = if b then (wrap64 (m + 1), l.getD i 0) else (m, u)) :
    spec_FewestStrips.j2 (k + 1) l a n U L s i m u b = spec_FewestStrips.l1 k l a n (if lt2 c (U.getD s 0, L.getD s 0) then U.set s c.1 else U) (if lt2 c (U.getD s 0, L.getD s 0) then L.set s c.2 else L) s (wrap64 ((i : Int) + 1)) := by
  have h0 : (0 : Int) ≤ (i : Int) := by omega
  have h1 : (i : Int) < (l.length : Int) := by omega
  have h2 : (0 : Int) ≤ (s : Int) := by omega
  have h3 : (s : Int) < (U.length : Int) := by omega
  have h4 : (s : Int) < (L.length : Int) := by omega
  subst hc
  cases b with
  | true =>
    simp only [spec_FewestStrips.j2, if_true, rd_nat, Int.toNat_natCast]
    rw [if_pos h0, if_pos h1, if_pos h2, if_pos h3]
    by_cases e1 : wrap64 (m + 1) < U.getD s 0
    · rw [if_pos e1, if_pos h4]; simp only [if_pos (show lt2 (wrap64 (m + 1), l.getD i 0) (U.getD s 0, L.getD s 0) from .inl e1)]
    · rw [if_neg e1]
      by_cases e2 : wrap64 (m + 1) = U.getD s 0
      · rw [if_pos e2, if_pos h4]
        by_cases e3 : l.getD i 0 < L.getD s 0
        · rw [if_pos e3]; simp only [if_pos (show lt2 (wrap64 (m + 1), l.getD i 0) (U.getD s 0, L.getD s 0) from .inr ⟨e2, e3⟩)]
        · rw [if_neg e3]; simp only [if_neg (show ¬ lt2 (wrap64 (m + 1), l.getD i 0) (U.getD s 0, L.getD s 0) from (fun h => by rcases h with h | h; exact e1 h; exact e3 h.2))]
      · rw [if_neg e2]; simp only [if_neg (show ¬ lt2 (wrap64 (m + 1), l.getD i 0) (U.getD s 0, L.getD s 0) from (fun h => by rcases h with h | h; exact e1 h; exact e2 h.1))]
  | false =>
    simp only [spec_FewestStrips.j2, Bool.false_eq_true, if_false, rd_nat, Int.toNat_natCast]
    rw [if_pos h2, if_pos h3]
    by_cases e1 : m < U.getD s 0
    · rw [if_pos e1, if_pos h4]; simp only [if_pos (show lt2 (m, u) (U.getD s 0, L.getD s 0) from .inl e1)]
    · rw [if_neg e1]
      by_cases e2 : m = U.getD s 0
      · rw [if_pos e2, if_pos h4]
        by_cases e3 : u < L.getD s 0
        · rw [if_pos e3]; simp only [if_pos (show lt2 (m, u) (U.getD s 0, L.getD s 0) from .inr ⟨e2, e3⟩)]
        · rw [if_neg e3]; simp only [if_neg (show ¬ lt2 (m, u) (U.getD s 0, L.getD s 0) from (fun h => by rcases h with h | h; exact e1 h; exact e3 h.2))]
      · rw [if_neg e2]; simp only [if_neg (show ¬ lt2 (m, u) (U.getD s 0, L.getD s 0) from (fun h => by rcases h with h | h; exact e1 h; exact e2 h.1))]
/-- The program's inner loop at a bit that is set. -/
theorem impl_l1_bit (k : Nat) (l : List Int) (a : Int) (B : List S46) (s i : Nat) (hn : l.length ≤ 12) (hs4 : s < 4096) (hi : i < l.length) (hs : s < B.length) (hb : s.testBit i = true)
    (hl : ∀ i, 0 ≤ l.getD i 0 ∧ l.getD i 0 ≤ a) (ha : 0 ≤ a ∧ a ≤ 200) (hF : Fine a (vB B (s - 2 ^ i))) (hm : (vB B (s - 2 ^ i)).1 ≤ 12) :
    impl_FewestStrips.l1 (k + 2) l a l.length B s l.length i = impl_FewestStrips.l1 k l a l.length (if lt2 (ext a (vB B (s - 2 ^ i)) (l.getD i 0)) (vB B s) then B.set s (mkS (ext a (vB B (s - 2 ^ i)) (l.getD i 0))) else B) s l.length (wrap64 ((i : Int) + 1)) := by
  have h0 : (0 : Int) ≤ (i : Int) := by omega
  have h1 : (i : Int) < (l.length : Int) := by omega
  have hpp := Nat.two_pow_pos i
  have h5 : ((s - 2 ^ i : Nat) : Int) < (B.length : Int) := by omega
  rw [show impl_FewestStrips.l1 (k + 2) l a l.length B s l.length i = _ from rfl]
  simp only [impl_FewestStrips.l1]
  rw [if_pos h1, if_pos h0, and_bit hs4 (by omega), hb, andNot_bit hs4 (by omega) hb]
  simp only [if_true, rd_nat, rdT]
  rw [if_neg (by decide), if_pos (by omega), if_pos h5]
  have hl2 := hl i
  unfold Fine at hF
  by_cases e : (vB B (s - 2 ^ i)).1 > 0
  · rw [if_pos (show (B.getD (s - 2 ^ i) z46).f0 > 0 from e), if_pos h1]
    refine impl_j2 k l a l.length B s i hi hs _ _ _ _ ?_
    rw [w64 (n := (B.getD (s - 2 ^ i) z46).f1 + l.getD i 0) (by have := hF.2.1; simp only [vB] at this; omega) (by have := hF.2.2.1; simp only [vB] at this; omega),
      w64 (n := (B.getD (s - 2 ^ i) z46).f0 + 1) (by simp only [vB] at e; omega) (by simp only [vB] at hm; omega)]
    unfold ext
    by_cases e2 : (B.getD (s - 2 ^ i) z46).f1 + l.getD i 0 ≤ a
    · rw [if_pos ⟨e, e2⟩, if_pos (decide_eq_true e2)]; rfl
    · rw [if_neg (fun h => e2 h.2), if_neg (fun h => e2 (of_decide_eq_true h))]; rfl
  · rw [if_neg (show ¬ (B.getD (s - 2 ^ i) z46).f0 > 0 from e)]
    refine impl_j2 k l a l.length B s i hi hs _ _ _ _ ?_
    rw [w64 (n := (B.getD (s - 2 ^ i) z46).f0 + 1) (by have := hF.1; simp only [vB] at this; omega) (by simp only [vB] at hm; omega)]
    unfold ext
    rw [if_neg (fun h => e h.1)]; rfl
theorem impl_l1_no (k : Nat) (l : List Int) (a : Int) (B : List S46) (s i : Nat) (hn : l.length ≤ 12) (hs4 : s < 4096) (hi : i < l.length) (hb : s.testBit i = false) :
    impl_FewestStrips.l1 (k + 1) l a l.length B s l.length i = impl_FewestStrips.l1 k l a l.length B s l.length (wrap64 ((i : Int) + 1)) := by
  simp only [impl_FewestStrips.l1]
  rw [if_pos (by omega), if_pos (by omega), and_bit hs4 (by omega), hb]; simp
theorem sub_bit {s i : Nat} (hs4 : s < 4096) (hi : i < 12) (hb : s.testBit i = true) : wrap64 ((s : Int) - shl .i64 1 (i : Int)) = ((s - 2 ^ i : Nat) : Int) := by
  have := bit_split hb
  have hpp := Nat.two_pow_pos i
  rw [shl_pow (by omega), w64 (by omega) (by omega)]; omega
theorem spec_l1_bit (k : Nat) (l : List Int) (a : Int) (U L : List Int) (s i : Nat) (hn : l.length ≤ 12) (hs4 : s < 4096) (hi : i < l.length) (hs : s < U.length) (hs2 : s < L.length) (hb : s.testBit i = true)
    (hl : ∀ i, 0 ≤ l.getD i 0 ∧ l.getD i 0 ≤ a) (ha : 0 ≤ a ∧ a ≤ 200) (x : Int × Int) (hx : x = (U.getD (s - 2 ^ i) 0, L.getD (s - 2 ^ i) 0)) (hF : Fine a x) (hm : x.1 ≤ 12) (hp : x.1 > 0 ↔ s - 2 ^ i ≠ 0) (y : Int × Int) (hy : y = (U.getD s 0, L.getD s 0)) :
    spec_FewestStrips.l1 (k + 2) l a l.length U L s i = spec_FewestStrips.l1 k l a l.length (if lt2 (ext a x (l.getD i 0)) y then U.set s (ext a x (l.getD i 0)).1 else U) (if lt2 (ext a x (l.getD i 0)) y then L.set s (ext a x (l.getD i 0)).2 else L) s (wrap64 ((i : Int) + 1)) := by
  have h0 : (0 : Int) ≤ (i : Int) := by omega
  have h1 : (i : Int) < (l.length : Int) := by omega
  have hl2 := hl i
  have hpp := Nat.two_pow_pos i
  have e1 : U.getD (s - 2 ^ i) 0 = x.1 := by rw [hx]
  have e2 : L.getD (s - 2 ^ i) 0 = x.2 := by rw [hx]
  unfold Fine at hF
  rw [show spec_FewestStrips.l1 (k + 2) l a l.length U L s i = _ from rfl]
  simp only [spec_FewestStrips.l1]
  rw [if_pos h1, if_pos h0, and_bit hs4 (by omega), hb, sub_bit hs4 (by omega) hb]
  simp only [if_true, rd_nat]
  rw [if_neg (by decide), if_pos (by omega), if_pos (by omega), if_pos (by omega), if_pos h1, e1, e2, w64 (n := x.2 + l.getD i 0) (by omega) (by omega)]
  subst hy
  by_cases e : x.2 + l.getD i 0 > a
  · rw [if_pos e]
    refine spec_j2 k l a l.length U L s i hi hs hs2 _ _ _ _ ?_
    rw [w64 (n := x.1 + 1) (by omega) (by omega)]
    unfold ext; rw [if_neg (by omega)]; rfl
  · rw [if_neg e]
    refine spec_j2 k l a l.length U L s i hi hs hs2 _ _ _ _ ?_
    rw [w64 (n := x.1 + 1) (by omega) (by omega)]
    unfold ext
    by_cases e3 : s - 2 ^ i = 0
    · rw [if_neg (fun h => by have := hp.mp h.1; omega), if_pos (by simp [e3])]
    · rw [if_pos ⟨hp.mpr e3, by omega⟩, if_neg (by simp; omega)]
theorem spec_l1_no (k : Nat) (l : List Int) (a : Int) (U L : List Int) (s i : Nat) (hn : l.length ≤ 12) (hs4 : s < 4096) (hi : i < l.length) (hb : s.testBit i = false) :
    spec_FewestStrips.l1 (k + 1) l a l.length U L s i = spec_FewestStrips.l1 k l a l.length U L s (wrap64 ((i : Int) + 1)) := by
  simp only [spec_FewestStrips.l1]
  rw [if_pos (by omega), if_pos (by omega), and_bit hs4 (by omega), hb]; simp
def Rel (N : Nat) (B : List S46) (U L : List Int) : Prop := B.length = N ∧ U.length = N ∧ L.length = N ∧ ∀ t, U.getD t 0 = (vB B t).1 ∧ L.getD t 0 = (vB B t).2
theorem getD_set_ {α : Type} (l : List α) (s t : Nat) (v d : α) (hs : s < l.length) : (l.set s v).getD t d = if t = s then v else l.getD t d := by
  simp only [List.getD_eq_getElem?_getD, List.getElem?_set]
  by_cases h : s = t
  · subst h; simp [hs]
  · rw [if_neg h, if_neg (fun e => h e.symm)]
theorem vB_set {B : List S46} {s : Nat} (hs : s < B.length) (c : Int × Int) (t : Nat) : vB (B.set s (mkS c)) t = if t = s then c else vB B t := by
  unfold vB; rw [getD_set_ _ _ _ _ _ hs]
  by_cases h : t = s
  · rw [if_pos h, if_pos h]; rfl
  · rw [if_neg h, if_neg h]
theorem rel_set {N : Nat} {B : List S46} {U L : List Int} (h : Rel N B U L) {s : Nat} (hs : s < N) (c : Int × Int) : Rel N (B.set s (mkS c)) (U.set s c.1) (L.set s c.2) := by
  obtain ⟨h1, h2, h3, h4⟩ := h
  refine ⟨by simpa using h1, by simpa using h2, by simpa using h3, fun t => ?_⟩
  rw [vB_set (by omega), getD_set_ _ _ _ _ _ (by omega), getD_set_ _ _ _ _ _ (by omega)]
  by_cases h : t = s
  · simp only [if_pos h, and_self]
  · simp only [if_neg h]; exact h4 t
/-- Both come to the least number of strips. -/
def Res (l : List Int) (a : Int) (f g : Nat → Option Int) : Prop := ∃ v K, Opt l a l.length (2 ^ l.length - 1) v ∧ ∀ k, K ≤ k → f k = some v.1 ∧ g k = some v.1
theorem res_step {l : List Int} {a : Int} {f g f' g' : Nat → Option Int} (j : Nat) (hf : ∀ k, f' (k + j) = f k) (hg : ∀ k, g' (k + j) = g k) (h : Res l a f g) : Res l a f' g' := by
  obtain ⟨v, K, ho, hk⟩ := h
  refine ⟨v, K + j, ho, fun k hkk => ?_⟩
  obtain ⟨q, rfl⟩ : ∃ q, k = q + j := ⟨k - j, by omega⟩
  rw [hf, hg]; exact hk q (by omega)
def Fits (l : List Int) (a : Int) : Prop := l.length ≤ 12 ∧ (0 ≤ a ∧ a ≤ 200) ∧ ∀ i, 0 ≤ l.getD i 0 ∧ l.getD i 0 ≤ a
theorem pow_small {n : Nat} (hn : n ≤ 12) : 2 ^ n ≤ 4096 := by have := Nat.pow_le_pow_right (n := 2) (by omega) hn; omega
theorem inner {l : List Int} {a : Int} (hl : Fits l a) (s : Nat) (hs0 : s ≠ 0) (hs : s < 2 ^ l.length)
    (hP : ∀ B U L, Rel (2 ^ l.length) B U L → (∀ t, t < s + 1 → Opt l a l.length t (vB B t)) → (∀ t, s + 1 ≤ t → vB B t = (0, 0)) → Res l a (fun k => impl_FewestStrips.l0 k l a l.length B ((s + 1 : Nat) : Int)) (fun k => spec_FewestStrips.l0 k l a l.length U L ((s + 1 : Nat) : Int))) :
    ∀ (d i : Nat), i + d = l.length → ∀ B U L, Rel (2 ^ l.length) B U L → (∀ t, t < s → Opt l a l.length t (vB B t)) → (∀ t, s + 1 ≤ t → vB B t = (0, 0)) → Cur l a l.length s i (vB B) (vB B s) →
      Res l a (fun k => impl_FewestStrips.l1 k l a l.length B s l.length (i : Int)) (fun k => spec_FewestStrips.l1 k l a l.length U L s (i : Int)) := by
  obtain ⟨hn, ha, hg⟩ := hl
  have hp := pow_small hn
  have ws : wrap64 ((s : Int) + 1) = ((s + 1 : Nat) : Int) := by rw [w64 (by omega) (by omega)]; omega
  intro d
  induction d with
  | zero =>
    intro i hi B U L hR hO hz hC
    obtain rfl : i = l.length := by omega
    refine res_step 1 ?_ ?_ (hP B U L hR (fun t ht => ?_) hz)
    · intro k
      simp only [impl_FewestStrips.l1, ws]; rw [if_neg (by omega)]
    · intro k
      simp only [spec_FewestStrips.l1, ws]; rw [if_neg (by omega)]
    · by_cases e : t = s
      · subst e; exact cur_opt hg ha.1 hO hs0 hs hC
      · exact hO t (by omega)
  | succ d ih =>
    intro i hi B U L hR hO hz hC
    have hin : i < l.length := by omega
    have wi : wrap64 ((i : Int) + 1) = ((i + 1 : Nat) : Int) := by rw [w64 (by omega) (by omega)]; omega
    by_cases hb : s.testBit i = true
    · have hsub : s - 2 ^ i < s := by have := bit_split hb; have := Nat.two_pow_pos i; omega
      have hO2 := hO _ hsub
      have hF := opt_bound hg ha.1 hO2
      have hR4 := hR.2.2.2 (s - 2 ^ i)
      obtain ⟨c, hc⟩ : ∃ c, c = ext a (vB B (s - 2 ^ i)) (l.getD i 0) := ⟨_, rfl⟩
      have hpos : (vB B (s - 2 ^ i)).1 > 0 ↔ s - 2 ^ i ≠ 0 := by
        constructor
        · intro h e
          have h0 := opt_zero l a l.length
          rw [e] at hO2 h
          have h3 : vB B 0 = (0, 0) := le2_anti (by obtain ⟨⟨σ, ho, hr⟩, _⟩ := h0; rw [← hr]; exact hO2.2 σ ho) (by obtain ⟨⟨σ, ho, hr⟩, _⟩ := hO2; rw [← hr]; exact h0.2 σ ho)
          rw [h3] at h; exact absurd h (by simp)
        · intro h; exact opt_pos hg ha.1 hO2 h (by omega)
      have hy : vB B s = (U.getD s 0, L.getD s 0) := by have := hR.2.2.2 s; rw [this.1, this.2]
      have hx : vB B (s - 2 ^ i) = (U.getD (s - 2 ^ i) 0, L.getD (s - 2 ^ i) 0) := by rw [hR4.1, hR4.2]
      refine res_step 2 (f := fun k => impl_FewestStrips.l1 k l a l.length (if lt2 c (vB B s) then B.set s (mkS c) else B) s l.length ((i + 1 : Nat) : Int)) (g := fun k => spec_FewestStrips.l1 k l a l.length (if lt2 c (vB B s) then U.set s c.1 else U) (if lt2 c (vB B s) then L.set s c.2 else L) s ((i + 1 : Nat) : Int)) ?_ ?_ ?_
      · intro k
        show impl_FewestStrips.l1 (k + 2) l a l.length B s l.length i = _
        rw [impl_l1_bit k l a B s i hn (by omega) hin (by rw [hR.1]; exact hs) hb hg ha hF.1 (by omega), wi, ← hc]
      · intro k
        show spec_FewestStrips.l1 (k + 2) l a l.length U L s i = _
        rw [spec_l1_bit k l a U L s i hn (by omega) hin (by rw [hR.2.1]; exact hs) (by rw [hR.2.2.1]; exact hs) hb hg ha (vB B (s - 2 ^ i)) hx hF.1 (by omega) hpos (vB B s) hy, wi, ← hc]
      · by_cases hlt : lt2 c (vB B s)
        · simp only [if_pos hlt]
          refine ih (i + 1) (by omega) _ _ _ (rel_set hR hs c) (fun t ht => ?_) (fun t ht => ?_) ?_
          · rw [vB_set (by rw [hR.1]; exact hs), if_neg (by omega)]; exact hO t ht
          · rw [vB_set (by rw [hR.1]; exact hs), if_neg (by omega)]; exact hz t ht
          · rw [vB_set (by rw [hR.1]; exact hs), if_pos rfl]
            have hv : ∀ j, s.testBit j = true → vB (B.set s (mkS c)) (s - 2 ^ j) = vB B (s - 2 ^ j) := fun j hj => by
              rw [vB_set (by rw [hR.1]; exact hs), if_neg (by have := bit_split hj; have := Nat.two_pow_pos j; omega)]
            refine ⟨.inr ⟨i, by omega, hin, hb, by rw [hv i hb]; exact hc⟩, fun j hj hjn hjb => ?_⟩
            rw [hv j hjb]
            by_cases e : j = i
            · subst e; rw [← hc]; exact le2_refl _
            · exact le2_trans (by unfold lt2 at hlt; unfold le2; omega) (hC.2 j (by omega) hjn hjb)
        · simp only [if_neg hlt]
          refine ih (i + 1) (by omega) _ _ _ hR hO hz ⟨?_, fun j hj hjn hjb => ?_⟩
          · rcases hC.1 with h | ⟨j, h1, h2, h3, h4⟩
            · exact .inl h
            · exact .inr ⟨j, by omega, h2, h3, h4⟩
          · by_cases e : j = i
            · subst e; rw [← hc]; unfold lt2 at hlt; unfold le2; omega
            · exact hC.2 j (by omega) hjn hjb
    · have hb' : s.testBit i = false := by simpa using hb
      refine res_step 1 ?_ ?_ (ih (i + 1) (by omega) B U L hR hO hz ⟨?_, fun j hj hjn hjb => ?_⟩)
      · intro k
        show impl_FewestStrips.l1 (k + 1) l a l.length B s l.length i = _
        rw [impl_l1_no k l a B s i hn (by omega) hin hb', wi]
      · intro k
        show spec_FewestStrips.l1 (k + 1) l a l.length U L s i = _
        rw [spec_l1_no k l a U L s i hn (by omega) hin hb', wi]
      · rcases hC.1 with h | ⟨j, h1, h2, h3, h4⟩
        · exact .inl h
        · exact .inr ⟨j, by omega, h2, h3, h4⟩
      · by_cases e : j = i
        · subst e; rw [hb'] at hjb; simp at hjb
        · exact hC.2 j (by omega) hjn hjb
theorem outer {l : List Int} {a : Int} (hl : Fits l a) : ∀ (d s : Nat), s + d = 2 ^ l.length → s ≠ 0 → ∀ B U L, Rel (2 ^ l.length) B U L → (∀ t, t < s → Opt l a l.length t (vB B t)) → (∀ t, s ≤ t → vB B t = (0, 0)) →
    Res l a (fun k => impl_FewestStrips.l0 k l a l.length B (s : Int)) (fun k => spec_FewestStrips.l0 k l a l.length U L (s : Int)) := by
  have hn := hl.1
  have hp := pow_small hn
  have hsh := shl_pow hn
  intro d
  induction d with
  | zero =>
    intro s hs hs0 B U L hR hO hz
    have hw : wrap64 (((2 ^ l.length : Nat) : Int) - 1) = ((2 ^ l.length - 1 : Nat) : Int) := by
      have hpp := Nat.two_pow_pos l.length
      generalize 2 ^ l.length = q at hp hpp
      rw [w64 (by omega) (by omega)]; omega
    have hR4 := hR.2.2.2 (2 ^ l.length - 1)
    refine ⟨vB B (2 ^ l.length - 1), 1, hO _ (by omega), fun k hk => ?_⟩
    obtain ⟨q, rfl⟩ : ∃ q, k = q + 1 := ⟨k - 1, by omega⟩
    have c1 : ¬ ((s : Int) < ((2 ^ l.length : Nat) : Int)) := by omega
    have c2 : (0 : Int) ≤ ((2 ^ l.length - 1 : Nat) : Int) := by omega
    have c3 : ((2 ^ l.length - 1 : Nat) : Int) < (B.length : Int) := by rw [hR.1]; exact Int.ofNat_lt.mpr (by omega)
    have c4 : ((2 ^ l.length - 1 : Nat) : Int) < (U.length : Int) := by rw [hR.2.1]; exact Int.ofNat_lt.mpr (by omega)
    constructor
    · simp only [impl_FewestStrips.l0, hsh, hw]
      rw [if_pos (by omega), if_neg c1, if_pos c2, if_pos c3, rdT]; rfl
    · simp only [spec_FewestStrips.l0, hsh, hw]
      rw [if_pos (by omega), if_neg c1, if_pos c2, if_pos c4, rd_nat, hR4.1]
  | succ d ih =>
    intro s hs hs0 B U L hR hO hz
    have hs2 : s < 2 ^ l.length := by omega
    have wn : wrap64 ((l.length : Int) + 1) = (l.length : Int) + 1 := w64 (by omega) (by omega)
    have hRs := hR.2.2.2 s
    have hR' : Rel (2 ^ l.length) (B.set s (mkS ((l.length : Int) + 1, 0))) (U.set s ((l.length : Int) + 1)) L := by
      have := rel_set hR hs2 ((l.length : Int) + 1, 0)
      have e : L.set s 0 = L := by
        apply List.ext_getElem?; intro t
        rw [List.getElem?_set]
        by_cases h : s = t
        · subst h
          have h1 : s < L.length := by rw [hR.2.2.1]; exact hs2
          have h2 := hRs.2
          rw [hz s (Nat.le_refl _)] at h2
          simp only [List.getD_eq_getElem?_getD, List.getElem?_eq_getElem h1, Option.getD_some] at h2
          simp [h1, h2]
        · rw [if_neg h]
      simp only [e] at this; exact this
    have hsB : s < B.length := by rw [hR.1]; exact hs2
    have c1 : (s : Int) < ((2 ^ l.length : Nat) : Int) := Int.ofNat_lt.mpr hs2
    refine res_step 1 ?_ ?_ (inner hl s hs0 hs2 (fun B' U' L' hR2 hO2 hz2 => ih (s + 1) (by omega) (by omega) B' U' L' hR2 hO2 hz2) l.length 0 (by omega) _ _ _ hR' (fun t ht => ?_) (fun t ht => ?_) ?_)
    · intro k
      simp only [impl_FewestStrips.l0, hsh, wn, Int.toNat_natCast]
      rw [if_pos (by omega), if_pos c1, if_pos (by omega), if_pos (Int.ofNat_lt.mpr hsB)]; rfl
    · intro k
      simp only [spec_FewestStrips.l0, hsh, wn, Int.toNat_natCast]
      rw [if_pos (by omega), if_pos c1, if_pos (by omega), if_pos (by rw [hR.2.1]; exact c1)]; rfl
    · rw [vB_set hsB, if_neg (by omega)]; exact hO t ht
    · rw [vB_set hsB, if_neg (by omega)]; exact hz t (by omega)
    · rw [vB_set hsB, if_pos rfl]
      exact ⟨.inl rfl, fun j hj => absurd hj (by omega)⟩
/-- The program's table and the reference's come to the same: the least number of strips over all orders. -/
theorem fewest {l : List Int} {a : Int} (hl : Fits l a) : Res l a (fun k => impl_FewestStrips.l0 k l a l.length (List.replicate (2 ^ l.length) z46) 1) (fun k => spec_FewestStrips.l0 k l a l.length (List.replicate (2 ^ l.length) 0) (List.replicate (2 ^ l.length) 0) 1) := by
  have hz : ∀ t, vB (List.replicate (2 ^ l.length) z46) t = (0, 0) := fun t => by
    unfold vB
    have : (List.replicate (2 ^ l.length) z46).getD t z46 = z46 := by
      simp only [List.getD_eq_getElem?_getD, List.getElem?_replicate]; split <;> rfl
    rw [this]; rfl
  have hz2 : ∀ t, (List.replicate (2 ^ l.length) (0 : Int)).getD t 0 = 0 := fun t => by
    simp only [List.getD_eq_getElem?_getD, List.getElem?_replicate]; split <;> rfl
  have hpp := Nat.two_pow_pos l.length
  refine outer hl (2 ^ l.length - 1) 1 (by omega) (by omega) _ _ _ ⟨by simp, by simp, by simp, fun t => ?_⟩ (fun t ht => ?_) (fun t _ => hz t)
  · rw [hz2, hz]; simp
  · obtain rfl : t = 0 := by omega
    rw [hz]; exact opt_zero l a l.length
theorem fits_ok {l : List Int} {a : Int} (h : lensOk l a = true) : Fits l a := by
  obtain ⟨⟨h1, h2⟩, h3⟩ := lensOk_iff.mp h
  refine ⟨h2, by omega, fun i => ?_⟩
  simp only [List.getD_eq_getElem?_getD]
  by_cases hi : i < l.length
  · rw [List.getElem?_eq_getElem hi]
    have := h3 _ (List.getElem_mem hi)
    simp only [Option.getD_some]; omega
  · rw [List.getElem?_eq_none (by omega)]; simp only [Option.getD_none]; omega
theorem spec_f_ok {l : List Int} {a : Int} (h : lensOk l a = true) (k : Nat) (hk : l.length < k) : spec_FewestStrips.f k l a = spec_FewestStrips.l0 k l a l.length (List.replicate (2 ^ l.length) 0) (List.replicate (2 ^ l.length) 0) 1 := by
  have hn := (fits_ok h).1
  have hp := pow_small hn
  have hpp := Nat.two_pow_pos l.length
  unfold spec_FewestStrips.f
  rw [lens_spec l a k (by omega) hk, h, shl_pow hn]
  simp only [Option.bind_some, if_true, Int.toNat_natCast]
  rw [if_pos (by omega), if_pos (by omega)]
theorem impl_f_ok {l : List Int} {a : Int} (h : lensOk l a = true) (k : Nat) : impl_FewestStrips.f k l a = impl_FewestStrips.l0 k l a l.length (List.replicate (2 ^ l.length) z46) 1 := by
  have hn := (fits_ok h).1
  have hp := pow_small hn
  have hpp := Nat.two_pow_pos l.length
  unfold impl_FewestStrips.f
  rw [lens_impl l a, h, shl_pow hn]
  simp only [Option.bind_some, if_true, Int.toNat_natCast]
  rw [if_pos (by omega), if_pos (by omega)]
def fsum (l : List Int) (b : List Nat) : Int := (b.map (fun i => l.getD i 0)).sum
theorem fsum_cons (l : List Int) (i : Nat) (b : List Nat) : fsum l (i :: b) = l.getD i 0 + fsum l b := by simp [fsum]
theorem fit_bins (l : List Int) (s : Int) (i : Nat) : ∀ bins : List (List Nat), ∃ bins' : List (List Nat), fit s (l.getD i 0) (bins.map fun b => s - fsum l b) = bins'.map (fun b => s - fsum l b) ∧ bins'.flatten.Perm (i :: bins.flatten)
  | [] => ⟨[[i]], by simp [fit, fsum], by simp⟩
  | b :: bs => by
    simp only [List.map_cons, fit]
    by_cases h : s - fsum l b ≥ l.getD i 0
    · refine ⟨(i :: b) :: bs, ?_, by simp⟩
      rw [if_pos h, List.map_cons, fsum_cons]; congr 1; omega
    · obtain ⟨bs', e, p⟩ := fit_bins l s i bs
      refine ⟨b :: bs', by rw [if_neg h, e]; rfl, ?_⟩
      simp only [List.flatten_cons]
      exact (List.Perm.append_left b p).trans List.perm_middle
theorem place_bins (l : List Int) (s : Int) : ∀ (ord : List Int) (bins : List (List Nat)), ∃ bins' : List (List Nat), ord.foldl (place l s) (bins.map fun b => s - fsum l b) = bins'.map (fun b => s - fsum l b) ∧ bins'.flatten.Perm (ord.map Int.toNat ++ bins.flatten)
  | [], bins => ⟨bins, rfl, by simp⟩
  | o :: os, bins => by
    obtain ⟨b1, e1, p1⟩ := fit_bins l s o.toNat bins
    obtain ⟨b2, e2, p2⟩ := place_bins l s os b1
    refine ⟨b2, ?_, ?_⟩
    · rw [List.foldl_cons, ← e2]; congr 1
    · refine p2.trans ?_
      simp only [List.map_cons, List.cons_append]
      exact (List.Perm.append_left _ p1).trans List.perm_middle
theorem place_good (l : List Int) (s : Int) (hL : lensOk l s = true) : ∀ (ord : List Int) (L : List Int), (∀ x ∈ ord, 0 ≤ x ∧ x < (l.length : Int)) → GoodL L → GoodL (ord.foldl (place l s) L)
  | [], L, _, h => h
  | o :: os, L, hr, h => by
    obtain ⟨⟨hs, _⟩, hok⟩ := lensOk_iff.1 hL
    have ho := hr o (by simp)
    have hp := hok (l.getD o.toNat 0) (by simp [List.getD_eq_getElem?_getD, show o.toNat < l.length by omega])
    exact place_good l s hL os _ (fun x hx => hr x (by simp [hx])) (fit_good hp hs.2 L h).1
theorem fsum_nonneg {l : List Int} {a : Int} (hl : ∀ i, 0 ≤ l.getD i 0 ∧ l.getD i 0 ≤ a) : ∀ b, 0 ≤ fsum l b
  | [] => by simp [fsum]
  | i :: b => by rw [fsum_cons]; have := fsum_nonneg hl b; have := (hl i).1; omega
theorem run_bin {l : List Int} {a : Int} (hl : ∀ i, 0 ≤ l.getD i 0 ∧ l.getD i 0 ≤ a) : ∀ (b : List Nat) (x : Int × Int) (m q : Int), Fine a x → 0 ≤ m → 0 ≤ q → le2 x (m + 1, q) → q + fsum l b ≤ a →
    le2 (b.foldl (fun x i => ext a x (l.getD i 0)) x) (m + 1, q + fsum l b) ∧ Fine a (b.foldl (fun x i => ext a x (l.getD i 0)) x)
  | [], x, m, q, hx, _, _, h, _ => by simpa [fsum] using ⟨h, hx⟩
  | i :: b, x, m, q, hx, hm, hq, h, hs => by
    have hi := hl i
    have hb := fsum_nonneg hl b
    rw [fsum_cons] at hs ⊢
    have h1 := ext_mono (p := l.getD i 0) hx.1 h hi.1 hq hx.2.2.2 (a := a)
    have h2 : ext a (m + 1, q) (l.getD i 0) = (m + 1, q + l.getD i 0) := by unfold ext; rw [if_pos ⟨by simp; omega, by simp only; omega⟩]
    rw [h2] at h1
    have := run_bin hl b (ext a x (l.getD i 0)) m (q + l.getD i 0) (ext_fine hx hi).1 hm (by omega) h1 (by omega)
    rw [show q + (l.getD i 0 + fsum l b) = q + l.getD i 0 + fsum l b by omega]
    exact this
theorem run_bins {l : List Int} {a : Int} (hl : ∀ i, 0 ≤ l.getD i 0 ∧ l.getD i 0 ≤ a) : ∀ (bins : List (List Nat)) (x : Int × Int) (m : Int), Fine a x → 0 ≤ m → x.1 ≤ m → (∀ b ∈ bins, fsum l b ≤ a) →
    (bins.flatten.foldl (fun x i => ext a x (l.getD i 0)) x).1 ≤ m + bins.length
  | [], x, m, _, _, h, _ => by simpa using h
  | b :: bs, x, m, hx, hm, h, hs => by
    have h1 := run_bin hl b x m 0 hx hm (by omega) (by unfold le2; simp only; omega) (by have := hs b (by simp); omega)
    rw [List.flatten_cons, List.foldl_append]
    have h2 : (b.foldl (fun x i => ext a x (l.getD i 0)) x).1 ≤ m + 1 := by have := h1.1; unfold le2 at this; simp only at this; omega
    have := run_bins hl bs _ (m + 1) h1.2 (by omega) h2 (fun b hb => hs b (by simp [hb]))
    rw [List.length_cons]; omega
theorem full_bit (n i : Nat) : (2 ^ n - 1).testBit i = true ↔ i < n := by rw [Nat.testBit_two_pow_sub_one]; simp
theorem ord_full {n : Nat} {σ : List Nat} : Ord n (2 ^ n - 1) σ ↔ σ.Perm (List.range n) := by
  unfold Ord
  constructor
  · rintro ⟨h1, h2⟩
    refine (List.perm_ext_iff_of_nodup h1 List.nodup_range).mpr (fun i => ?_)
    rw [h2 i, full_bit, List.mem_range]; omega
  · intro h
    refine ⟨h.symm.nodup List.nodup_range, fun i => ?_⟩
    rw [h.mem_iff, List.mem_range, full_bit]; omega
/-- First fit by any order takes no fewer strips than the least. -/
theorem first_fit {l : List Int} {s : Int} (hL : lensOk l s = true) {v : Int × Int} (hv : Opt l s l.length (2 ^ l.length - 1) v) (ord : List Int) (hr : ∀ x ∈ ord, 0 ≤ x ∧ x < (l.length : Int)) (hp : (ord.map Int.toNat).Perm (List.range l.length)) :
    v.1 ≤ ((ord.foldl (place l s) []).length : Int) := by
  have hf := fits_ok hL
  obtain ⟨bins, e, p⟩ := place_bins l s ord []
  have hg := place_good l s hL ord [] hr (fun x hx => by simp at hx)
  simp only [List.map_nil, List.flatten_nil, List.append_nil] at e p
  rw [e] at hg ⊢
  have h1 := hv.2 bins.flatten (ord_full.mpr (p.trans hp))
  have h2 := run_bins hf.2.2 bins (0, 0) 0 ⟨by simp, by simp, hf.2.1.1, by simp⟩ (by omega) (by simp) (fun b hb => by
    have := hg (s - fsum l b) (List.mem_map.mpr ⟨b, hb, rfl⟩); omega)
  rw [List.length_map]
  have h3 : (runO l s bins.flatten).1 ≤ 0 + (bins.length : Int) := h2
  unfold le2 at h1; omega
/-- A strip holds no more than its length, and no two long pieces. -/
theorem run_holds {l : List Int} {a : Int} (hl : ∀ i, 0 ≤ l.getD i 0 ∧ l.getD i 0 ≤ a) (ha : 0 ≤ a) (σ : List Nat) :
    fsum l σ ≤ (runO l a σ).1 * a ∧ (0 < (runO l a σ).1 → fsum l σ ≤ ((runO l a σ).1 - 1) * a + (runO l a σ).2) ∧ ((runO l a σ).1 = 0 → fsum l σ = 0) ∧
    ((σ.countP fun i => decide (2 * l.getD i 0 > a) : Nat) : Int) ≤ (runO l a σ).1 ∧ (0 < (runO l a σ).1 → 2 * (runO l a σ).2 ≤ a → ((σ.countP fun i => decide (2 * l.getD i 0 > a) : Nat) : Int) ≤ (runO l a σ).1 - 1) := by
  obtain ⟨n, hn⟩ : ∃ n, n = σ.length := ⟨_, rfl⟩
  induction n generalizing σ with
  | zero => obtain rfl : σ = [] := List.length_eq_zero_iff.mp hn.symm; simp [runO, fsum]
  | succ n ih =>
    obtain ⟨τ, j, rfl⟩ : ∃ τ j, σ = τ ++ [j] := by
      refine ⟨σ.dropLast, σ.getLast (by intro h; simp [h] at hn), ?_⟩
      rw [List.dropLast_concat_getLast]
    obtain ⟨h1, h2, h3, h4, h5⟩ := ih τ (by simp at hn; omega)
    have hF := (run_fine hl ha τ).1
    have hj := hl j
    rw [runO_snoc]
    generalize hx : runO l a τ = x at *
    have e1 : fsum l (τ ++ [j]) = fsum l τ + l.getD j 0 := by simp [fsum]
    have e2 : ((τ ++ [j]).countP fun i => decide (2 * l.getD i 0 > a)) = (τ.countP fun i => decide (2 * l.getD i 0 > a)) + (if 2 * l.getD j 0 > a then 1 else 0) := by
      rw [List.countP_append, List.countP_cons, List.countP_nil]; simp
    rw [e1, e2]
    generalize (τ.countP fun i => decide (2 * l.getD i 0 > a)) = c at *
    generalize fsum l τ = S at *
    generalize l.getD j 0 = p at *
    obtain ⟨m, u⟩ := x
    unfold Fine at hF
    simp only at *
    have hm : ∀ z : Int, (z - 1) * a = z * a - a := fun z => by rw [Int.sub_mul, Int.one_mul]
    have hm1 : (m + 1) * a = m * a + a := by rw [Int.add_mul, Int.one_mul]
    rw [hm] at h2
    unfold ext
    by_cases c1 : m > 0 ∧ u + p ≤ a
    · rw [if_pos c1]
      simp only [hm]
      have h2' := h2 c1.1
      refine ⟨by omega, fun _ => by omega, fun h => by omega, ?_, ?_⟩
      · by_cases c2 : 2 * p > a
        · rw [if_pos c2]; have := h5 c1.1 (by omega); omega
        · rw [if_neg c2]; omega
      · intro _ hu
        have : ¬ 2 * p > a := by omega
        rw [if_neg this]; have := h5 c1.1 (by omega); omega
    · rw [if_neg c1]
      simp only [hm, hm1]
      refine ⟨by omega, fun _ => by omega, fun h => by omega, ?_, ?_⟩
      · split <;> omega
      · intro _ hu
        have : ¬ 2 * p > a := by omega
        rw [if_neg this]; omega
theorem perm_sum {l1 l2 : List Int} (h : l1.Perm l2) : l1.sum = l2.sum := by
  induction h with
  | nil => rfl
  | cons x _ ih => simp [ih]
  | swap x y l => simp only [List.sum_cons]; omega
  | trans _ _ h1 h2 => exact h1.trans h2
theorem perm_vals {l : List Int} {σ : List Nat} (h : σ.Perm (List.range l.length)) : (σ.map fun i => l.getD i 0).Perm l := by
  have h1 := h.map (fun i => l.getD i 0)
  have h2 := map_range_getD l 0 (fun x : Int => x)
  rw [h2] at h1; simpa using h1
theorem longs_eq (s : Int) (l : List Int) : longs s l = (l.countP (fun x => decide (2 * x > s)) : Nat) := by
  have key : ∀ (l : List Int) (c : Int), l.foldl (fun c x => if 2 * x > s then c + 1 else c) c = c + (l.countP (fun x => decide (2 * x > s)) : Nat) := by
    intro l
    induction l with
    | nil => intro c; simp
    | cons x xs ih =>
      intro c
      rw [List.foldl_cons, ih, List.countP_cons]
      by_cases h : 2 * x > s
      · rw [if_pos h, if_pos (decide_eq_true h)]; omega
      · rw [if_neg h, if_neg (fun e => h (of_decide_eq_true e))]; omega
  have := key l 0
  unfold longs; rw [this]; omega
theorem opt_holds {l : List Int} {s : Int} (hL : lensOk l s = true) {v : Int × Int} (hv : Opt l s l.length (2 ^ l.length - 1) v) : l.sum ≤ v.1 * s ∧ longs s l ≤ v.1 := by
  have hf := fits_ok hL
  obtain ⟨⟨σ, ho, hr⟩, _⟩ := hv
  have hp := ord_full.mp ho
  have hh := run_holds hf.2.2 hf.2.1.1 σ
  have h2 := perm_vals hp
  rw [hr] at hh
  have e1 : fsum l σ = l.sum := perm_sum h2
  have e2 : (σ.countP fun i => decide (2 * l.getD i 0 > s)) = l.countP (fun x => decide (2 * x > s)) := by
    have := h2.countP_eq (fun x => decide (2 * x > s))
    rw [← this, List.countP_map]; rfl
  rw [e1, e2] at hh
  rw [longs_eq]
  exact ⟨hh.1, hh.2.2.2.1⟩
theorem least_le {l : List Int} {s : Int} (hL : lensOk l s = true) {v : Int × Int} (hv : Opt l s l.length (2 ^ l.length - 1) v) : 0 ≤ least l s ∧ least l s ≤ v.1 := by
  have h := opt_holds hL hv
  obtain ⟨⟨hs, _⟩, hok⟩ := lensOk_iff.1 hL
  have h2 := sum_small hL
  unfold least
  rw [if_pos hL]
  have h3 : (l.sum + s - 1) / s < v.1 + 1 := Int.ediv_lt_of_lt_mul (by omega) (by rw [Int.add_mul, Int.one_mul]; omega)
  have h4 : 0 ≤ (l.sum + s - 1) / s := Int.ediv_nonneg (by omega) (by omega)
  omega
theorem fold_more (l : List Int) (a s : Int) : ∀ (σ : List Nat) (x : Int × Int), (∀ i ∈ σ, i < l.length) → σ.foldl (fun x i => ext a x ((l ++ [s]).getD i 0)) x = σ.foldl (fun x i => ext a x (l.getD i 0)) x
  | [], _, _ => rfl
  | i :: σ, x, h => by
    have hi := h i (by simp)
    have e : (l ++ [s]).getD i 0 = l.getD i 0 := by simp [List.getD_eq_getElem?_getD, List.getElem?_append_left hi]
    rw [List.foldl_cons, List.foldl_cons, e]
    exact fold_more l a s σ _ (fun j hj => h j (by simp [hj]))
/-- One strip more, and no less used. -/
def More (a : Int) (X Y : Int × Int) : Prop := X.1 + 1 ≤ Y.1 ∧ (Y.1 = X.1 + 1 → X.2 ≤ Y.2 ∧ (X.1 = 0 → Y.2 = a))
theorem more_step {a : Int} {X Y : Int × Int} {p : Int} (hX : Fine a X) (hY : Fine a Y) (h : More a X Y) (hp : 1 ≤ p ∧ p ≤ a) : More a (ext a X p) (ext a Y p) := by
  unfold Fine More ext at *
  obtain ⟨m, u⟩ := X
  obtain ⟨m', u'⟩ := Y
  simp only at *
  by_cases c1 : m > 0 ∧ u + p ≤ a
  · rw [if_pos c1]
    by_cases c2 : m' > 0 ∧ u' + p ≤ a
    · rw [if_pos c2]; simp only; omega
    · rw [if_neg c2]; simp only; omega
  · rw [if_neg c1]
    by_cases c2 : m' > 0 ∧ u' + p ≤ a
    · rw [if_pos c2]; simp only; omega
    · rw [if_neg c2]; simp only; omega
theorem more_fold {l : List Int} {a : Int} : ∀ (σ : List Nat) (X Y : Int × Int), (∀ i ∈ σ, 1 ≤ l.getD i 0 ∧ l.getD i 0 ≤ a) → Fine a X → Fine a Y → More a X Y → More a (σ.foldl (fun x i => ext a x (l.getD i 0)) X) (σ.foldl (fun x i => ext a x (l.getD i 0)) Y)
  | [], _, _, _, _, _, h => h
  | i :: σ, X, Y, hp, hX, hY, h => by
    have hi := hp i (by simp)
    exact more_fold σ _ _ (fun j hj => hp j (by simp [hj])) (ext_fine hX (by omega)).1 (ext_fine hY (by omega)).1 (more_step hX hY h hi)
theorem more_one {l : List Int} {s : Int} (hL : lensOk l s = true) {v v' : Int × Int} (hv : Opt l s l.length (2 ^ l.length - 1) v) (hv' : Opt (l ++ [s]) s (l ++ [s]).length (2 ^ (l ++ [s]).length - 1) v') : v'.1 = v.1 + 1 := by
  have hf := fits_ok hL
  obtain ⟨⟨hs, _⟩, hok⟩ := lensOk_iff.1 hL
  have hlast : (l ++ [s]).getD l.length 0 = s := by simp [List.getD_eq_getElem?_getD]
  have hlen : (l ++ [s]).length = l.length + 1 := by simp
  rw [hlen] at hv'
  have up : v'.1 ≤ v.1 + 1 := by
    obtain ⟨⟨σ, ho, hr⟩, _⟩ := hv
    have hp := ord_full.mp ho
    have h1 := hv'.2 (σ ++ [l.length]) (ord_full.mpr (by rw [List.range_succ]; exact hp.append_right _))
    rw [runO_snoc, hlast] at h1
    have e : runO (l ++ [s]) s σ = runO l s σ := fold_more l s s σ (0, 0) (fun i hi => List.mem_range.mp (hp.mem_iff.mp hi))
    rw [e, hr] at h1
    have : (ext s v s).1 ≤ v.1 + 1 := by unfold ext; split <;> (simp only; omega)
    unfold le2 at h1; omega
  have dn : v.1 + 1 ≤ v'.1 := by
    obtain ⟨⟨σ, ho, hr⟩, _⟩ := hv'
    have hp := ord_full.mp ho
    have hm : l.length ∈ σ := hp.mem_iff.mpr (List.mem_range.mpr (by omega))
    obtain ⟨α, β, rfl⟩ := List.append_of_mem hm
    have hp2 : (α ++ β).Perm (List.range l.length) := by
      have h1 : (l.length :: (α ++ β)).Perm (l.length :: List.range l.length) := by
        refine List.perm_middle.symm.trans (hp.trans ?_)
        rw [List.range_succ]
        exact List.perm_append_comm
      exact (List.perm_cons _).mp h1
    have hin : ∀ i ∈ α ++ β, i < l.length := fun i hi => List.mem_range.mp (hp2.mem_iff.mp hi)
    have hpos : ∀ i, i < l.length → 1 ≤ l.getD i 0 ∧ l.getD i 0 ≤ s := fun i hi => hok _ (by simp [List.getD_eq_getElem?_getD, hi])
    have h1 := hv.2 (α ++ β) (ord_full.mpr hp2)
    have hX := (run_fine hf.2.2 hf.2.1.1 α).1
    have e1 : runO (l ++ [s]) s (α ++ l.length :: β) = β.foldl (fun x i => ext s x (l.getD i 0)) (ext s (runO l s α) s) := by
      unfold runO
      rw [List.foldl_append, List.foldl_cons, hlast, fold_more l s s α _ (fun i hi => hin i (by simp [hi])), fold_more l s s β _ (fun i hi => hin i (by simp [hi]))]
    have e2 : runO l s (α ++ β) = β.foldl (fun x i => ext s x (l.getD i 0)) (runO l s α) := by unfold runO; rw [List.foldl_append]
    have hM : More s (runO l s α) (ext s (runO l s α) s) := by
      have hu : (runO l s α).1 > 0 → 1 ≤ (runO l s α).2 := by
        intro hpos1
        have hne : α ≠ [] := fun e => by rw [e] at hpos1; simp [runO] at hpos1
        have e3 : α = α.dropLast ++ [α.getLast hne] := (List.dropLast_concat_getLast hne).symm
        have h4 := hpos (α.getLast hne) (hin _ (by simp))
        have h5 := (run_fine hf.2.2 hf.2.1.1 α.dropLast).1
        rw [e3, runO_snoc]
        unfold Fine at h5; unfold ext
        split <;> simp only <;> omega
      unfold More ext; unfold Fine at hX
      generalize runO l s α = X at hu hX ⊢
      obtain ⟨m, u⟩ := X
      simp only at hu hX
      by_cases c1 : m > 0 ∧ u + s ≤ s
      · have := hu c1.1; omega
      · rw [if_neg c1]; exact ⟨Int.le_refl _, fun _ => ⟨hX.2.2.1, fun _ => rfl⟩⟩
    have h6 := more_fold (l := l) β (runO l s α) (ext s (runO l s α) s) (fun i hi => hpos i (hin i (by simp [hi]))) hX (ext_fine (p := s) hX (by omega)).1 hM
    rw [← e1, ← e2, hr] at h6
    have h7 : (runO l s (α ++ β)).1 + 1 ≤ v'.1 := h6.1
    rcases h1 with h1 | h1
    · exact Int.le_trans (by omega) h7
    · have := h1.1; omega
  omega
theorem draw_sheet (l : List Int) (hl : l.length ≤ 1000000000) (k : Nat) (hk : l.length + 20 < k) : ∃ ls s, spec_DrawSheet.f k l = some (ls, s) ∧ (20 ≤ s ∧ s ≤ 59) ∧ ls.length ≤ 7 ∧ ∀ x ∈ ls, 1 ≤ x ∧ x ≤ s := by
  unfold spec_DrawSheet.f
  obtain ⟨h, e⟩ := new_ok l k (by omega) (by omega)
  rw [e]
  simp only [Option.bind_some]
  unfold spec_l32Draw.f
  obtain ⟨t, i1, h1, e1, a1, b1, _, d1⟩ := below_ok l 0 h 40 (by omega) (by omega)
  rw [e1]
  simp only [Option.bind_some]
  obtain ⟨n, i2, h2, e2, a2, b2, _, d2⟩ := below_ok l i1 h1 8 d1 (by omega)
  rw [e2]
  simp only [Option.bind_some]
  have ht := b1 (by omega)
  have hn := b2 (by omega)
  rw [w64 (n := 20 + t) (by omega) (by omega)]
  have key : ∀ (d k : Nat) (i p q : Int) (xs : List Int), 0 ≤ i → i + d = n → d < k → xs.length = i → 0 ≤ p → (∀ x ∈ xs, 1 ≤ x ∧ x ≤ 20 + t) → ∃ ls p' q', spec_l32Draw.l0 k (20 + t) xs n i l p q = some (ls, 20 + t, p', q') ∧ ls.length ≤ 7 ∧ ∀ x ∈ ls, 1 ≤ x ∧ x ≤ 20 + t := by
    intro d
    induction d with
    | zero =>
      intro k i p q xs hi hd hk hx hp hok
      obtain ⟨k, rfl⟩ : ∃ m, k = m + 1 := ⟨k - 1, by omega⟩
      simp only [spec_l32Draw.l0]
      rw [if_neg (by omega)]
      exact ⟨xs, p, q, rfl, by omega, hok⟩
    | succ d ih =>
      intro k i p q xs hi hd hk hx hp hok
      obtain ⟨k, rfl⟩ : ∃ m, k = m + 1 := ⟨k - 1, by omega⟩
      simp only [spec_l32Draw.l0]
      rw [if_pos (by omega)]
      obtain ⟨u, i3, h3, e3, a3, b3, _, d3⟩ := below_ok l p q (20 + t) hp (by omega)
      rw [e3]
      simp only [Option.bind_some]
      have hu := b3 (by omega)
      rw [if_pos (by omega), w64 (n := 1 + u) (by omega) (by omega), w64 (n := i + 1) (by omega) (by omega)]
      refine ih k (i + 1) i3 h3 _ (by omega) (by omega) (by omega) (by simp; omega) d3 (fun x hx => ?_)
      rcases List.mem_append.1 hx with hx | hx
      · exact hok x hx
      · have := List.mem_singleton.1 hx; omega
  obtain ⟨ls, p', q', e5, h5, h6⟩ := key n.toNat k 0 i2 h2 [] (by omega) (by omega) (by omega) rfl d2 (fun x hx => by simp at hx)
  rw [e5]
  exact ⟨ls, 20 + t, rfl, by omega, h5, h6⟩
theorem long_ok (l : List Int) (s : Int) (hL : lensOk l s = true) (k : Nat) (hk : 1000 < k) :
    ∃ ys, impl_LongFirst.f k l s = some ys ∧ ys.Perm ((List.range l.length).map fun i : Nat => (i : Int)) ∧ UptoL (lnKey l) ys l.length := by
  obtain ⟨⟨hs, hl12⟩, hok⟩ := lensOk_iff.1 hL
  unfold impl_LongFirst.f
  rw [lens_impl]
  simp only [Option.bind_some]
  have hb : l.length * (l.length + 3) ≤ 12 * 15 := Nat.mul_le_mul hl12 (by omega)
  rw [if_pos hL, indices_ok l.length k (by omega) (by omega)]
  simp only [Option.bind_some]
  obtain ⟨ys, e, p, u⟩ := long_sort l s hL k (by omega)
  rw [e]
  exact ⟨ys, rfl, p, u⟩
theorem ordW_of (n : Nat) : ∀ (v pre : List Int), (pre ++ v).Nodup → (∀ x ∈ v, 0 ≤ x ∧ x < (n : Int)) → ordW n pre v = true
  | [], _, _, _ => rfl
  | x :: xs, pre, hn, hr => by
    have hx := hr x (by simp)
    have h1 : x ∉ pre := fun hm => by
      rw [List.nodup_append] at hn
      exact hn.2.2 x hm x (by simp) rfl
    unfold ordW
    rw [decide_eq_true (show 0 ≤ x ∧ x ≤ (n : Int) - 1 by omega), decide_eq_false h1, ordW_of n xs (pre ++ [x]) (by simpa using hn) (fun y hy => hr y (by simp [hy]))]
    rfl
theorem used_ok (l : List Int) (s : Int) (hL : lensOk l s = true) (ord : List Int) (hp : ord.Perm ((List.range l.length).map fun i : Nat => (i : Int))) (k : Nat) (hk : 1000 < k) :
    impl_StripsUsed.f k l s ord = some ((ord.foldl (place l s) []).length : Int) ∧ (∀ x ∈ ord, 0 ≤ x ∧ x < (l.length : Int)) ∧ (ord.map Int.toNat).Perm (List.range l.length) ∧ ord.length = l.length := by
  obtain ⟨⟨hs, hl12⟩, hok⟩ := lensOk_iff.1 hL
  have hlen : ord.length = l.length := by rw [hp.length_eq]; simp
  have hr : ∀ x ∈ ord, 0 ≤ x ∧ x < (l.length : Int) := fun x hx => by
    have := hp.mem_iff.mp hx
    obtain ⟨i, hi, rfl⟩ := List.mem_map.mp this
    have := List.mem_range.mp hi
    omega
  have hnd : ord.Nodup := hp.symm.nodup (by
    unfold List.Nodup
    rw [List.pairwise_map]
    exact List.nodup_range.imp (fun h e => h (by omega)))
  obtain ⟨k, rfl⟩ : ∃ m, k = m + 1 := ⟨k - 1, by omega⟩
  refine ⟨?_, hr, ?_, hlen⟩
  · unfold impl_StripsUsed.f
    rw [lens_impl]
    simp only [Option.bind_some]
    rw [if_pos hL, order_ok ord l.length (by omega) (k + 1) (by omega) (by omega), decide_eq_true hlen, ordW_of l.length ord [] (by simpa using hnd) hr]
    simp only [Option.bind_some, impl_StripsUsed.j0]
    rw [if_neg (by simp)]
    have I := used_impl l s hL ord (by omega) hr ord.length k 0 [] (by omega) (by omega) (fun x hx => by simp at hx) (by simp)
    simpa using I
  · have h1 := hp.map Int.toNat
    rw [List.map_map] at h1
    have e : (Int.toNat ∘ fun i : Nat => (i : Int)) = id := by funext i; simp
    rw [e, List.map_id] at h1
    exact h1
/-- The order that begins anywhere and goes round. -/
def turn (n c : Nat) : List Int := (List.range n).map fun j => (((j + c) % n : Nat) : Int)
theorem turn_perm (n c : Nat) : (turn n c).Perm ((List.range n).map fun i : Nat => (i : Int)) := by
  have h : ((List.range n).map fun j => (j + c) % n).Perm (List.range n) := by
    rcases Nat.eq_zero_or_pos n with h0 | h0
    · subst h0; simp
    have hc : c % n < n := Nat.mod_lt _ h0
    have hm : ∀ j, j < n → (j + c) % n = if j + c % n < n then j + c % n else j + c % n - n := by
      intro j hj
      rw [← Nat.add_mod_mod]
      by_cases h : j + c % n < n
      · rw [if_pos h, Nat.mod_eq_of_lt h]
      · rw [if_neg h, Nat.mod_eq_sub_mod (by omega), Nat.mod_eq_of_lt (by omega)]
    refine (List.perm_ext_iff_of_nodup ?_ List.nodup_range).mpr (fun i => ?_)
    · unfold List.Nodup
      rw [List.pairwise_map]
      have h1 : (List.range n).Pairwise (· < ·) := List.pairwise_lt_range
      refine List.Pairwise.imp_of_mem (fun {a b} ha hb hab e => ?_) h1
      have ha := List.mem_range.mp ha
      have hb := List.mem_range.mp hb
      rw [hm a ha, hm b hb] at e
      split at e <;> split at e <;> omega
    · rw [List.mem_map, List.mem_range]
      constructor
      · rintro ⟨j, hj, rfl⟩; exact Nat.mod_lt _ h0
      · intro hi
        by_cases h : c % n ≤ i
        · refine ⟨i - c % n, List.mem_range.mpr (by omega), ?_⟩
          rw [hm _ (by omega), if_pos (by omega)]; omega
        · refine ⟨i + n - c % n, List.mem_range.mpr (by omega), ?_⟩
          rw [hm _ (by omega), if_neg (by omega)]; omega
  have := h.map (fun i : Nat => (i : Int))
  rw [List.map_map] at this
  exact this
theorem few4 : ∃ K, ∀ k, K ≤ k → impl_FewestStrips.f k [6, 5, 5, 4] 10 = some 2 := by
  have hL : lensOk [6, 5, 5, 4] 10 = true := by decide
  obtain ⟨v, K, ho, hK⟩ := fewest (fits_ok hL)
  have h1 := (least_le hL ho).2
  have h2 : least [6, 5, 5, 4] 10 = 2 := by decide
  have h3 := first_fit hL ho [0, 3, 1, 2] (by decide) (by decide)
  have h4 : (([0, 3, 1, 2] : List Int).foldl (place [6, 5, 5, 4] 10) []).length = 2 := by decide
  refine ⟨K, fun k hk => ?_⟩
  rw [impl_f_ok hL k]
  exact (hK k hk).1.trans (by congr 1; omega)
theorem few_impl {l : List Int} {s : Int} (hL : lensOk l s = true) : ∃ v K, Opt l s l.length (2 ^ l.length - 1) v ∧ ∀ k, K ≤ k → impl_FewestStrips.f k l s = some v.1 := by
  obtain ⟨v, K, ho, hK⟩ := fewest (fits_ok hL)
  exact ⟨v, K, ho, fun k hk => by rw [impl_f_ok hL k]; exact (hK k hk).1⟩

end Go.Proofs.Ytcjbdbbnbhobbaa.Lem
