/- Plain lemmas on the printed functions: what they compute; conditions stand in each lemma. -/
import Derived.Test.YtcjbdbbnbhobbaaQx1
import Derived.Test.YtcjbdbbnbhobbaaQx2
import Derived.Test.YtcjbdbbnbhobbaaQx3
import Derived.Test.YtcjbdbbnbhobbaaQx4
import Derived.Test.YtcjbdbbnbhobbaaQx13
import Derived.Test.YtcjbdbbnbhobbaaQx14
import Derived.Test.YtcjbdbbnbhobbaaQx15
import Derived.Test.YtcjbdbbnbhobbaaQx16
import Derived.Test.YtcjbdbbnbhobbaaQx23
namespace Go.Proofs.Ytcjbdbbnbhobbaa.Lem
open Go.RowKit Go.Proofs.Ytcjbdbbnbhobbaa.Q Go.Proofs.YtcjbdbbnbhobbaaW.PrintWords Go.Proofs.YtcjbdbbnbhobbaaW.PrintLast Go.Proofs.YtcjbdbbnbhobbaaW.PrintMore
set_option linter.unusedVariables false
set_option linter.unusedSimpArgs false
-- LEM
theorem rd_nat (l : List Int) (i : Nat) : rd l (i : Int) = l.getD i 0 := by simp [rd]
theorem wf64 {n : Int} (h : (Lit.int .i64 n).wf = true) : -9223372036854775808 ≤ n ∧ n ≤ 9223372036854775807 := by
  simp only [Lit.wf, IntKind.min, IntKind.max, IntKind.signed, IntKind.bits, Bool.and_eq_true, decide_eq_true_eq, if_true] at h
  omega
theorem w64 {n : Int} (h : -9223372036854775808 ≤ n) (h2 : n ≤ 9223372036854775807) : wrap64 n = n := by
  unfold wrap64
  omega
theorem w64s {i : Int} {n : Nat} (h0 : 0 ≤ i) (h1 : i < (n : Int)) (hn : n ≤ 9223372036854775807) : wrap64 (i + 1) = i + 1 := by
  unfold wrap64
  omega
/-- A loop over places i .. n with a state, without a way out. -/
theorem run_fold {σ R : Type} (L : Nat → Int → σ → Option R) (n : Nat) (hn : n ≤ 9223372036854775807) (step : σ → Nat → σ) (fin : σ → Option R)
    (h1 : ∀ k (i : Nat) s, i < n → L (k + 1) i s = L k (wrap64 ((i : Int) + 1)) (step s i))
    (h2 : ∀ k s, L (k + 1) n s = fin s) :
    ∀ (d : Nat) (k : Nat) (i : Nat) (s : σ), i + d = n → d < k → L k i s = fin ((List.range' i d).foldl step s) := by
  intro d
  induction d with
  | zero =>
    intro k i s hd hk
    obtain ⟨k, rfl⟩ : ∃ m, k = m + 1 := ⟨k - 1, by omega⟩
    have : i = n := by omega
    subst this
    simpa using h2 k s
  | succ d ih =>
    intro k i s hd hk
    obtain ⟨k, rfl⟩ : ∃ m, k = m + 1 := ⟨k - 1, by omega⟩
    rw [h1 k i s (by omega), w64s (n := n) (by omega) (by omega) hn]
    have := ih k (i + 1) (step s i) (by omega) (by omega)
    rw [List.range'_succ, List.foldl_cons]
    simpa using this
/-- A loop over places i .. n with a state and a way out: 'none' of step: out with 'out'. -/
def foldX {σ R : Type} (step : σ → Nat → σ ⊕ R) (fin : σ → Option R) : List Nat → σ → Option R
  | [], s => fin s
  | i :: is, s => match step s i with
    | .inl s' => foldX step fin is s'
    | .inr r => some r
theorem run_foldX {σ R : Type} (L : Nat → Int → σ → Option R) (n : Nat) (hn : n ≤ 9223372036854775807) (step : σ → Nat → σ ⊕ R) (fin : σ → Option R)
    (h1 : ∀ k (i : Nat) s, i < n → L (k + 1) i s = match step s i with | .inl s' => L k (wrap64 ((i : Int) + 1)) s' | .inr r => some r)
    (h2 : ∀ k s, L (k + 1) n s = fin s) :
    ∀ (d : Nat) (k : Nat) (i : Nat) (s : σ), i + d = n → d < k → L k i s = foldX step fin (List.range' i d) s := by
  intro d
  induction d with
  | zero =>
    intro k i s hd hk
    obtain ⟨k, rfl⟩ : ∃ m, k = m + 1 := ⟨k - 1, by omega⟩
    have : i = n := by omega
    subst this
    simpa [foldX] using h2 k s
  | succ d ih =>
    intro k i s hd hk
    obtain ⟨k, rfl⟩ : ∃ m, k = m + 1 := ⟨k - 1, by omega⟩
    rw [h1 k i s (by omega), w64s (n := n) (by omega) (by omega) hn, List.range'_succ]
    simp only [foldX]
    cases hs : step s i with
    | inl s' => simpa using ih k (i + 1) s' (by omega) (by omega)
    | inr r => rfl
/-- A loop that only asks whether all places pass. -/
theorem run_all {R : Type} (L : Nat → Int → Option R) (n : Nat) (hn : n ≤ 9223372036854775807) (p : Nat → Bool) (no : R) (fin : Option R)
    (h1 : ∀ k (i : Nat), i < n → L (k + 1) i = if p i = true then L k (wrap64 ((i : Int) + 1)) else some no)
    (h2 : ∀ k, L (k + 1) n = fin) (k : Nat) (hk : n < k) : L k 0 = if (List.range n).all p then fin else some no := by
  have key : ∀ (d k i : Nat), i + d = n → d < k → L k i = if (List.range' i d).all p then fin else some no := by
    intro d
    induction d with
    | zero =>
      intro k i hd hk
      obtain ⟨k, rfl⟩ : ∃ m, k = m + 1 := ⟨k - 1, by omega⟩
      have : i = n := by omega
      subst this
      simpa using h2 k
    | succ d ih =>
      intro k i hd hk
      obtain ⟨k, rfl⟩ : ∃ m, k = m + 1 := ⟨k - 1, by omega⟩
      rw [h1 k i (by omega), w64s (n := n) (by omega) (by omega) hn, List.range'_succ, List.all_cons]
      by_cases hp : p i = true
      · have := ih k (i + 1) (by omega) (by omega)
        simp only [hp, if_true, Bool.true_and]
        simpa using this
      · simp [hp]
  have := key n k 0 (by omega) hk
  rw [List.range_eq_range']
  simpa using this
theorem all_range_getD {α : Type} (l : List α) (d : α) (p : α → Bool) : (List.range l.length).all (fun i => p (l.getD i d)) = l.all p := by
  rw [Bool.eq_iff_iff, List.all_eq_true, List.all_eq_true]
  constructor
  · intro h x hx
    obtain ⟨i, hi, rfl⟩ := List.mem_iff_getElem.1 hx
    have := h i (List.mem_range.2 hi)
    simpa [List.getD_eq_getElem?_getD, hi] using this
  · intro h i hi
    have hi' := List.mem_range.1 hi
    have := h l[i] (List.getElem_mem hi')
    simpa [List.getD_eq_getElem?_getD, hi'] using this
theorem foldl_range_getD {α σ : Type} (l : List α) (d : α) (f : σ → α → σ) (s : σ) : (List.range' 0 l.length).foldl (fun s i => f s (l.getD i d)) s = l.foldl f s := by
  have : l = (List.range' 0 l.length).map (fun i => l.getD i d) := by
    apply List.ext_getElem
    · simp
    · intro i h1 h2
      simp [List.getD_eq_getElem?_getD, h1]
  conv => rhs; rw [this, List.foldl_map]
/-- A loop that fills a row place by place. -/
theorem copy_loop {α : Type} (L : Nat → List α → Int → Option (List α)) (n : Nat) (hn : n ≤ 9223372036854775807) (v : Nat → α)
    (h1 : ∀ k (i : Nat) xs, i < n → xs.length = n → L (k + 1) xs i = L k (xs.set i (v i)) (wrap64 ((i : Int) + 1)))
    (h2 : ∀ k xs, xs.length = n → L (k + 1) xs n = some xs) (xs0 : List α) (hx : xs0.length = n) (k : Nat) (hk : n < k) : L k xs0 0 = some ((List.range n).map v) := by
  have key : ∀ (d k i : Nat) (xs : List α), i + d = n → d < k → xs.length = n → (∀ j, j < i → xs[j]? = some (v j)) → L k xs i = some ((List.range n).map v) := by
    intro d
    induction d with
    | zero =>
      intro k i xs hd hk hl hj
      obtain ⟨k, rfl⟩ : ∃ m, k = m + 1 := ⟨k - 1, by omega⟩
      have : i = n := by omega
      subst this
      rw [h2 k xs hl]
      congr 1
      apply List.ext_getElem?
      intro j
      by_cases h : j < i
      · rw [hj j h]
        simp [h]
      · rw [List.getElem?_eq_none (by omega), List.getElem?_eq_none (by simp; omega)]
    | succ d ih =>
      intro k i xs hd hk hl hj
      obtain ⟨k, rfl⟩ : ∃ m, k = m + 1 := ⟨k - 1, by omega⟩
      rw [h1 k i xs (by omega) hl, w64s (n := n) (by omega) (by omega) hn]
      have := ih k (i + 1) (xs.set i (v i)) (by omega) (by omega) (by simpa using hl) (fun j hj2 => by
        rw [List.getElem?_set]
        by_cases e : i = j
        · subst e
          simp; omega
        · rw [if_neg e]
          exact hj j (by omega))
      simpa using this
  exact key n k 0 xs0 (by omega) hk hx (fun j hj => by omega)
theorem map_range_getD {α β : Type} (l : List α) (d : α) (f : α → β) : (List.range l.length).map (fun i => f (l.getD i d)) = l.map f := by
  apply List.ext_getElem
  · simp
  · intro i h1 h2
    simp at h1
    simp [List.getD_eq_getElem?_getD, h1]
/-- A loop over the places 0 .. n with a state, what it calls wanting more than B rounds, and what holds of the state at each place. -/
theorem loop_fold {σ R : Type} (L : Nat → Int → σ → Option R) (n B : Nat) (hn : n ≤ 9223372036854775807) (P : Nat → σ → Prop) (step : σ → Nat → σ) (fin : σ → Option R)
    (h1 : ∀ k (i : Nat) s, B < k → i < n → P i s → L (k + 1) i s = L k (wrap64 ((i : Int) + 1)) (step s i))
    (hP : ∀ (i : Nat) s, i < n → P i s → P (i + 1) (step s i))
    (h2 : ∀ k s, B < k → P n s → L (k + 1) n s = fin s) (k : Nat) (s : σ) (h0 : P 0 s) (hk : n + B + 1 < k) :
    L k 0 s = fin ((List.range n).foldl step s) ∧ P n ((List.range n).foldl step s) := by
  have key : ∀ (d k i : Nat) (s : σ), i + d = n → d + B + 1 < k → P i s → L k i s = fin ((List.range' i d).foldl step s) ∧ P n ((List.range' i d).foldl step s) := by
    intro d
    induction d with
    | zero =>
      intro k i s hd hk hp
      obtain ⟨k, rfl⟩ : ∃ m, k = m + 1 := ⟨k - 1, by omega⟩
      have : i = n := by omega
      subst this
      exact ⟨by simpa using h2 k s (by omega) hp, by simpa using hp⟩
    | succ d ih =>
      intro k i s hd hk hp
      obtain ⟨k, rfl⟩ : ∃ m, k = m + 1 := ⟨k - 1, by omega⟩
      rw [h1 k i s (by omega) (by omega) hp, w64s (n := n) (by omega) (by omega) hn]
      have := ih k (i + 1) (step s i) (by omega) (by omega) (hP i s (by omega) hp)
      rw [List.range'_succ, List.foldl_cons]
      simpa using this
  have := key n k 0 s (by omega) (by omega) h0
  rw [List.range_eq_range']
  simpa using this
/-- The same without anything to hold of the state. -/
theorem loop_fold' {σ R : Type} (L : Nat → Int → σ → Option R) (n B : Nat) (hn : n ≤ 9223372036854775807) (step : σ → Nat → σ) (fin : σ → Option R)
    (h1 : ∀ k (i : Nat) s, B < k → i < n → L (k + 1) i s = L k (wrap64 ((i : Int) + 1)) (step s i))
    (h2 : ∀ k s, B < k → L (k + 1) n s = fin s) (k : Nat) (s : σ) (hk : n + B + 1 < k) :
    L k 0 s = fin ((List.range n).foldl step s) :=
  (loop_fold L n B hn (fun _ _ => True) step fin (fun k i s a b _ => h1 k i s a b) (fun _ _ _ _ => trivial) (fun k s a _ => h2 k s a) k s trivial hk).1
theorem foldl_range_getD' {α σ : Type} (l : List α) (d : α) (f : σ → α → σ) (s : σ) : (List.range l.length).foldl (fun s i => f s (l.getD i d)) s = l.foldl f s := by
  rw [List.range_eq_range']
  exact foldl_range_getD l d f s
/-- A loop with a way out. -/
theorem loop_foldX {σ R : Type} (L : Nat → Int → σ → Option R) (n B : Nat) (hn : n ≤ 9223372036854775807) (P : Nat → σ → Prop) (step : σ → Nat → σ ⊕ R) (fin : σ → Option R)
    (h1 : ∀ k (i : Nat) s, B < k → i < n → P i s → L (k + 1) i s = match step s i with | .inl s' => L k (wrap64 ((i : Int) + 1)) s' | .inr r => some r)
    (hP : ∀ (i : Nat) s s', i < n → P i s → step s i = .inl s' → P (i + 1) s')
    (h2 : ∀ k s, B < k → P n s → L (k + 1) n s = fin s) (k : Nat) (s : σ) (h0 : P 0 s) (hk : n + B + 1 < k) :
    L k 0 s = foldX step fin (List.range n) s := by
  have key : ∀ (d k i : Nat) (s : σ), i + d = n → d + B + 1 < k → P i s → L k i s = foldX step fin (List.range' i d) s := by
    intro d
    induction d with
    | zero =>
      intro k i s hd hk hp
      obtain ⟨k, rfl⟩ : ∃ m, k = m + 1 := ⟨k - 1, by omega⟩
      have : i = n := by omega
      subst this
      simpa [foldX] using h2 k s (by omega) hp
    | succ d ih =>
      intro k i s hd hk hp
      obtain ⟨k, rfl⟩ : ∃ m, k = m + 1 := ⟨k - 1, by omega⟩
      rw [h1 k i s (by omega) (by omega) hp, w64s (n := n) (by omega) (by omega) hn, List.range'_succ]
      simp only [foldX]
      cases hs : step s i with
      | inl s' => simpa using ih k (i + 1) s' (by omega) (by omega) (hP i s s' (by omega) hp hs)
      | inr r => rfl
  have := key n k 0 s (by omega) (by omega) h0
  rw [List.range_eq_range']
  simpa using this
/-- A loop that only asks whether all places pass. -/
theorem loop_all {R : Type} (L : Nat → Int → Option R) (n B : Nat) (hn : n ≤ 9223372036854775807) (p : Nat → Bool) (no : R) (fin : Option R)
    (h1 : ∀ k (i : Nat), B < k → i < n → L (k + 1) i = if p i = true then L k (wrap64 ((i : Int) + 1)) else some no)
    (h2 : ∀ k, B < k → L (k + 1) n = fin) (k : Nat) (hk : n + B + 1 < k) : L k 0 = if (List.range n).all p then fin else some no := by
  have key : ∀ (d k i : Nat), i + d = n → d + B + 1 < k → L k i = if (List.range' i d).all p then fin else some no := by
    intro d
    induction d with
    | zero =>
      intro k i hd hk
      obtain ⟨k, rfl⟩ : ∃ m, k = m + 1 := ⟨k - 1, by omega⟩
      have : i = n := by omega
      subst this
      simpa using h2 k (by omega)
    | succ d ih =>
      intro k i hd hk
      obtain ⟨k, rfl⟩ : ∃ m, k = m + 1 := ⟨k - 1, by omega⟩
      rw [h1 k i (by omega) (by omega), w64s (n := n) (by omega) (by omega) hn, List.range'_succ, List.all_cons]
      by_cases hp : p i = true
      · have := ih k (i + 1) (by omega) (by omega)
        simp only [hp, if_true, Bool.true_and]
        simpa using this
      · simp [hp]
  have := key n k 0 (by omega) hk
  rw [List.range_eq_range']
  simpa using this
/-- A loop from place i to n inside of a greater text: what it costs, and where it goes on. -/
theorem seg {σ R : Type} (L : Nat → Int → σ → Option R) (L' : Nat → σ → Option R) (n B : Nat) (C : Nat → Nat) (P : Nat → σ → Prop) (step : σ → Nat → σ)
    (h1 : ∀ k (i : Nat) s, B < k → i < n → P i s → L (k + C i) i s = L k ((i : Int) + 1) (step s i))
    (hP : ∀ (i : Nat) s, i < n → P i s → P (i + 1) (step s i))
    (h2 : ∀ k s, B < k → P n s → L (k + 1) n s = L' k s) :
    ∀ (d i k : Nat) (s : σ), i + d = n → B < k → P i s → L (k + 1 + ((List.range' i d).map C).sum) i s = L' k ((List.range' i d).foldl step s) ∧ P n ((List.range' i d).foldl step s) := by
  intro d
  induction d with
  | zero =>
    intro i k s hd hk hp
    have : i = n := by omega
    subst this
    exact ⟨by simpa using h2 k s hk hp, by simpa using hp⟩
  | succ d ih =>
    intro i k s hd hk hp
    rw [List.range'_succ, List.map_cons, List.sum_cons, List.foldl_cons]
    have e : k + 1 + (C i + ((List.range' (i + 1) d).map C).sum) = (k + 1 + ((List.range' (i + 1) d).map C).sum) + C i := by omega
    rw [e, h1 _ i s (by omega) (by omega) hp]
    have := ih (i + 1) k (step s i) (by omega) hk (hP i s (by omega) hp)
    simpa using this
theorem in_spec (a b c : Int) : spec_l01In.f a b c = some (decide (b ≤ a ∧ a ≤ c)) := by
  unfold spec_l01In.f
  by_cases h : b ≤ a <;> simp [h]
theorem in_impl (a b c : Int) : impl_in.f a b c = some (decide (b ≤ a ∧ a ≤ c)) := by
  unfold impl_in.f
  by_cases h : b ≤ a <;> simp [h]
theorem eqIntS_self (l : List Int) (k : Nat) (hl : l.length ≤ 9223372036854775807) (hk : l.length < k) : laws_eqIntS.f k l l = some true := by
  unfold laws_eqIntS.f
  rw [if_pos rfl]
  have := run_all (fun k x5 => laws_eqIntS.l0 k l l x5) l.length hl (fun _ => true) false (some true)
    (fun k i hi => by
      simp only [laws_eqIntS.l0]
      rw [if_pos (by omega), if_pos (by omega), if_pos (by omega)])
    (fun k => by
      simp only [laws_eqIntS.l0]
      rw [if_neg (by omega)]) k hk
  rw [this]
  simp
theorem toIntS_ok (l : List Int) (k : Nat) (hl : l.length ≤ 35184372088832) (hk : l.length < k) : laws_toIntS.f k l = some l := by
  unfold laws_toIntS.f
  rw [if_pos (by omega), if_pos (by simpa using hl)]
  have := copy_loop (fun k x3 x4 => laws_toIntS.l0 k l x3 x4) l.length (by omega) (fun i => id (l.getD i 0))
    (fun k i xs hi hx => by
      simp only [laws_toIntS.l0]
      rw [if_pos (by omega), if_pos (by omega), if_pos (by omega), rd_nat]
      simp)
    (fun k xs hx => by
      simp only [laws_toIntS.l0]
      rw [if_neg (by omega)]) (List.replicate l.length 0) (by simp) k hk
  rw [map_range_getD] at this
  simpa using this
def lensOk (l : List Int) (s : Int) : Bool := decide ((1 ≤ s ∧ s ≤ 200) ∧ l.length ≤ 12) && l.all fun x => decide (1 ≤ x ∧ x ≤ s)
theorem lensOk_iff {l : List Int} {s : Int} : lensOk l s = true ↔ ((1 ≤ s ∧ s ≤ 200) ∧ l.length ≤ 12) ∧ ∀ x ∈ l, 1 ≤ x ∧ x ≤ s := by simp [lensOk, List.all_eq_true]
theorem lens_impl (l : List Int) (s : Int) : impl_LengthsOk.f l s = some (lensOk l s) := by
  simp only [impl_LengthsOk.f, in_impl, impl_allIn.f, Option.bind_some, lensOk]
  by_cases h : 1 ≤ s ∧ s ≤ 200
  · rw [decide_eq_true h, if_pos rfl]
    by_cases h2 : (l.length : Int) ≤ 12
    · rw [if_pos h2, decide_eq_true ⟨h, by omega⟩, Bool.true_and]
      simp [Bool.decide_and]
    · rw [if_neg h2, decide_eq_false (by omega), Bool.false_and]
  · rw [decide_eq_false h, if_neg (by simp), decide_eq_false (fun hh => h hh.1), Bool.false_and]
theorem lens_spec (l : List Int) (s : Int) (k : Nat) (hl : l.length ≤ 9223372036854775807) (hk : l.length < k) : spec_LengthsOk.f k l s = some (lensOk l s) := by
  unfold spec_LengthsOk.f
  rw [run_all (fun k x5 => spec_LengthsOk.l0 k l s x5) l.length hl (fun i => decide (1 ≤ l.getD i 0 ∧ l.getD i 0 ≤ s)) false (some (decide ((1 ≤ s ∧ s ≤ 200) ∧ l.length ≤ 12)))
    (fun k i hi => by
      simp only [spec_LengthsOk.l0, in_spec, Option.bind_some, rd_nat]
      rw [if_pos (by omega), if_pos (by omega)])
    (fun k => by
      simp only [spec_LengthsOk.l0, in_spec, Option.bind_some]
      rw [if_neg (by omega)]
      by_cases h : 1 ≤ s ∧ s ≤ 200
      · rw [decide_eq_true h, if_pos rfl]
        congr 1
        rw [decide_eq_decide]
        omega
      · rw [decide_eq_false h, if_neg (by simp), decide_eq_false (fun hh => h hh.1)]) k hk]
  rw [all_range_getD l 0 (fun x => decide (1 ≤ x ∧ x ≤ s))]
  unfold lensOk
  cases l.all (fun x => decide (1 ≤ x ∧ x ≤ s)) <;> simp
theorem index_ok (l : List Int) (a : Int) (k : Nat) (hl : l.length ≤ 9223372036854775807) (hk : l.length < k) : slices_Index_int_int.f k l a = some (if a ∈ l then (l.idxOf a : Int) else -1) := by
  unfold slices_Index_int_int.f
  have key : ∀ (d k i : Nat), i + d = l.length → d < k → slices_Index_int_int.l0 k l a l.length i = some (if a ∈ l.drop i then (i : Int) + ((l.drop i).idxOf a : Nat) else -1) := by
    intro d
    induction d with
    | zero =>
      intro k i hi hk
      obtain ⟨k, rfl⟩ : ∃ m, k = m + 1 := ⟨k - 1, by omega⟩
      have : i = l.length := by omega
      subst this
      rw [slices_Index_int_int.l0, if_neg (by omega)]
      simp
    | succ d ih =>
      intro k i hi hk
      obtain ⟨k, rfl⟩ : ∃ m, k = m + 1 := ⟨k - 1, by omega⟩
      have hil : i < l.length := by omega
      rw [slices_Index_int_int.l0, if_pos (by omega), if_pos (by omega), if_pos (by omega), rd_nat, List.drop_eq_getElem_cons hil]
      have e : l.getD i 0 = l[i] := by simp [List.getD_eq_getElem?_getD, hil]
      rw [e]
      by_cases c : a = l[i]
      · rw [if_pos c, ← c, if_pos List.mem_cons_self, List.idxOf_cons_self]
        simp
      · rw [if_neg c, w64 (n := (i : Int) + 1) (by omega) (by omega)]
        have e2 : (i : Int) + 1 = ((i + 1 : Nat) : Int) := by omega
        rw [e2, ih k (i + 1) (by omega) (by omega)]
        by_cases c2 : a ∈ l.drop (i + 1)
        · have hne : (l[i] == a) = false := beq_eq_false_iff_ne.2 (fun h => c h.symm)
          rw [if_pos c2, if_pos (List.mem_cons_of_mem _ c2), List.idxOf_cons, hne]
          simp only [cond_false]
          congr 1
          omega
        · rw [if_neg c2, if_neg]
          intro h
          rcases List.mem_cons.1 h with h | h
          · exact c h
          · exact c2 h
  have := key l.length k 0 (by omega) hk
  simpa using this
theorem contains_ok (l : List Int) (a : Int) (k : Nat) (hl : l.length ≤ 9223372036854775807) (hk : l.length < k) : slices_Contains_int_int.f k l a = some (decide (a ∈ l)) := by
  unfold slices_Contains_int_int.f
  rw [index_ok l a k hl hk]
  simp only [Option.bind_some]
  by_cases c : a ∈ l
  · rw [if_pos c, decide_eq_true c, decide_eq_true (by omega)]
  · rw [if_neg c, decide_eq_false c, decide_eq_false (by omega)]
/-- An order's rest, with the elements so far. -/
def ordW (n : Nat) : List Int → List Int → Bool
  | _, [] => true
  | pre, x :: xs => decide (0 ≤ x ∧ x ≤ (n : Int) - 1) && !decide (x ∈ pre) && ordW n (pre ++ [x]) xs
theorem order_ok (v : List Int) (n : Nat) (hn : n < 1000) (k : Nat) (hv : v.length ≤ 1000000000) (hk : 2 * v.length + 2 < k) : impl_isOrder.f k v n = some (decide (v.length = n) && ordW n [] v) := by
  unfold impl_isOrder.f
  have key : ∀ (d k i : Nat), i + d = v.length → d + v.length + 1 < k → impl_isOrder.l0 k v n v v.length i = some (ordW n (v.take i) (v.drop i) && decide (v.length = n)) := by
    intro d
    induction d with
    | zero =>
      intro k i hi hk
      obtain ⟨k, rfl⟩ : ∃ m, k = m + 1 := ⟨k - 1, by omega⟩
      have : i = v.length := by omega
      subst this
      rw [impl_isOrder.l0, if_neg (by omega), List.drop_length]
      unfold ordW
      rw [Bool.true_and]
      congr 1
      rw [Bool.eq_iff_iff, beq_iff_eq, decide_eq_true_iff]
      omega
    | succ d ih =>
      intro k i hi hk
      obtain ⟨k, rfl⟩ : ∃ m, k = m + 1 := ⟨k - 1, by omega⟩
      have hil : i < v.length := by omega
      have e : v.getD i 0 = v[i] := by simp [List.getD_eq_getElem?_getD, hil]
      have hw : wrap64 ((n : Int) - 1) = (n : Int) - 1 := w64 (by omega) (by omega)
      rw [impl_isOrder.l0, if_pos (by omega), if_pos (by omega), if_pos (by omega), rd_nat, e, hw, in_impl, List.drop_eq_getElem_cons hil]
      simp only [Option.bind_some]
      conv => rhs; unfold ordW
      by_cases c : 0 ≤ v[i] ∧ v[i] ≤ (n : Int) - 1
      · rw [decide_eq_true c, if_pos rfl, if_pos (by omega), Int.toNat_natCast, contains_ok _ _ k (by simp; omega) (by simp; omega)]
        simp only [Option.bind_some, Bool.true_and]
        by_cases c2 : v[i] ∈ v.take i
        · rw [decide_eq_true c2, if_pos rfl]
          simp
        · rw [decide_eq_false c2, if_neg (by simp), w64 (n := (i : Int) + 1) (by omega) (by omega)]
          have e2 : (i : Int) + 1 = ((i + 1 : Nat) : Int) := by omega
          rw [e2, ih k (i + 1) (by omega) (by omega), List.take_succ_eq_append_getElem hil]
          simp
      · rw [decide_eq_false c, if_neg (by simp)]
        simp
  have e0 := key v.length k 0 (by omega) (by omega)
  have e1 : ((0 : Nat) : Int) = 0 := rfl
  rw [e1] at e0
  rw [e0, Bool.and_comm]
  simp
/-- A length is cut from the first strip that holds it, or from a new one. -/
def fit (s n : Int) : List Int → List Int
  | [] => [s - n]
  | x :: xs => if x ≥ n then (x - n) :: xs else x :: fit s n xs
theorem fit_cases (s n : Int) : ∀ (L : List Int), ((∀ j, j < L.length → L.getD j 0 < n) ∧ fit s n L = L ++ [s - n]) ∨ ∃ j, j < L.length ∧ L.getD j 0 ≥ n ∧ (∀ i, i < j → L.getD i 0 < n) ∧ fit s n L = L.set j (L.getD j 0 - n) := by
  intro L
  induction L with
  | nil => exact .inl ⟨fun j hj => by simp at hj, rfl⟩
  | cons x L ih =>
    unfold fit
    by_cases c : x ≥ n
    · rw [if_pos c]
      exact .inr ⟨0, by simp, by simpa using c, fun i hi => by omega, by simp⟩
    · rw [if_neg c]
      rcases ih with ⟨h1, h2⟩ | ⟨j, h1, h2, h3, h4⟩
      · left
        refine ⟨fun j hj => ?_, by rw [h2]; rfl⟩
        cases j with
        | zero => simp; omega
        | succ j => simpa using h1 j (by simpa using hj)
      · right
        refine ⟨j + 1, by simpa using h1, by simpa using h2, fun i hi => ?_, by rw [h4]; simp⟩
        cases i with
        | zero => simp; omega
        | succ i => simpa using h3 i (by omega)
def GoodL (L : List Int) : Prop := ∀ x ∈ L, 0 ≤ x ∧ x ≤ 200
theorem fit_good {s n : Int} (hn : 1 ≤ n ∧ n ≤ s) (hs : s ≤ 200) : ∀ (L : List Int), GoodL L → GoodL (fit s n L) ∧ (fit s n L).length ≤ L.length + 1 := by
  intro L
  induction L with
  | nil =>
    intro _
    refine ⟨fun x hx => ?_, by simp [fit]⟩
    have := List.mem_singleton.1 hx
    omega
  | cons x L ih =>
    intro h
    have hx := h x List.mem_cons_self
    obtain ⟨h1, h2⟩ := ih (fun y hy => h y (List.mem_cons_of_mem _ hy))
    unfold fit
    by_cases c : x ≥ n
    · rw [if_pos c]
      refine ⟨fun y hy => ?_, by simp⟩
      rcases List.mem_cons.1 hy with e | e
      · omega
      · exact h y (List.mem_cons_of_mem _ e)
    · rw [if_neg c]
      refine ⟨fun y hy => ?_, by simpa using h2⟩
      rcases List.mem_cons.1 hy with e | e
      · rw [e]; exact hx
      · exact h1 y e
def place (l : List Int) (s : Int) (L : List Int) (o : Int) : List Int := fit s (l.getD o.toNat 0) L
theorem set_app (L : List Int) (a b : Int) : (L ++ [a]).set L.length b = L ++ [b] := by
  rw [List.set_append_right _ _ (Nat.le_refl _)]
  simp
theorem app_get (L : List Int) (a : Int) : (L ++ [a]).getD L.length 0 = a := by
  simp [List.getD_eq_getElem?_getD]
theorem wi (i : Nat) (h : i < 1000) : wrap64 ((i : Int) + 1) = ((i + 1 : Nat) : Int) := by rw [w64 (by omega) (by omega)]; omega
/-- The program's walk over an order. -/
theorem used_impl (l : List Int) (s : Int) (hL : lensOk l s = true) (ord : List Int) (ho : ord.length ≤ 12) (hr : ∀ x ∈ ord, 0 ≤ x ∧ x < (l.length : Int)) : ∀ (d k i : Nat) (L : List Int), i + d = ord.length → d < k → GoodL L → L.length ≤ i → impl_StripsUsed.l0 k s L ord ord.length i l = some (((ord.drop i).foldl (place l s) L).length : Int) := by
  obtain ⟨⟨hs, hl⟩, hok⟩ := lensOk_iff.1 hL
  intro d
  induction d with
  | zero =>
    intro k i L hi hk hg hlen
    obtain ⟨k, rfl⟩ : ∃ m, k = m + 1 := ⟨k - 1, by omega⟩
    have e : ord.drop i = [] := List.drop_eq_nil_iff.2 (by omega)
    rw [impl_StripsUsed.l0, if_neg (by omega), e]
    rfl
  | succ d ih =>
    intro k i L hi hk hg hlen
    obtain ⟨k, rfl⟩ : ∃ m, k = m + 1 := ⟨k - 1, by omega⟩
    have hil : i < ord.length := by omega
    have e : ord.getD i 0 = ord[i] := by simp [List.getD_eq_getElem?_getD, hil]
    have hb := hr _ (List.getElem_mem hil)
    rw [List.drop_eq_getElem_cons hil, List.foldl_cons, impl_StripsUsed.l0, if_pos (by omega), if_pos (by omega), if_pos (by omega), rd_nat, e]
    obtain ⟨o, ho2⟩ : ∃ o : Nat, ord[i] = (o : Int) := ⟨ord[i].toNat, by omega⟩
    rw [ho2] at hb ⊢
    have hol : o < l.length := by omega
    have hn := hok (l.getD o 0) (by simp [List.getD_eq_getElem?_getD, hol])
    have hpl : place l s L (o : Int) = fit s (l.getD o 0) L := by
      unfold place
      rw [Int.toNat_natCast]
    have hI : slices_IndexFunc_int_int.f L (l, (o : Int)) = some (idxR (fun j => decide (rd L j ≥ l.getD o 0)) L.length) := by
      unfold slices_IndexFunc_int_int.f
      rw [if_pos (show (0 : Int) ≤ ((l, (o : Int)) : List Int × Int).2 from by show (0 : Int) ≤ (o : Int); omega), if_pos (show ((l, (o : Int)) : List Int × Int).2 < (((l, (o : Int)) : List Int × Int).1.length : Int) from by show (o : Int) < (l.length : Int); omega)]
      show some (idxR (fun j => decide (rd L j ≥ rd l (o : Int))) L.length) = _
      rw [rd_nat l o]
    rw [hI, hpl]
    simp only [Option.bind_some]
    obtain ⟨hgf, hlf⟩ := fit_good (s := s) hn hs.2 L hg
    rw [wi i (by omega)]
    rcases fit_cases s (l.getD o 0) L with ⟨h1, h2⟩ | ⟨j, h1, h2, h3, h4⟩
    · have hm : idxR (fun j => decide (rd L j ≥ l.getD o 0)) L.length = -1 := idxR_miss _ _ (fun j hj => by
        rw [rd_nat]
        have := h1 j hj
        rw [decide_eq_false (by omega)])
      rw [hm]
      clear hm hI
      rw [if_pos (show (-1 : Int) < 0 by omega), if_pos (show L.length < 17592186044416 by omega)]
      rw [if_pos (by omega), if_pos (by simp; omega), if_pos (by omega), if_pos (by omega), Int.toNat_natCast, rd_nat, app_get, rd_nat, w64 (by omega) (by omega), set_app, ← h2]
      exact ih k (i + 1) _ (by omega) (by omega) hgf (by omega)
    · have hm : idxR (fun j => decide (rd L j ≥ l.getD o 0)) L.length = j := idxR_hit _ _ j h1 (by rw [rd_nat, decide_eq_true h2]) (fun i hi => by
        rw [rd_nat]
        have := h3 i hi
        rw [decide_eq_false (by omega)])
      have hx := hg (L.getD j 0) (by simp [List.getD_eq_getElem?_getD, h1])
      rw [hm]
      clear hm hI
      rw [if_neg (by omega), if_pos (by omega), if_pos (by omega), if_pos (by omega), if_pos (by omega), Int.toNat_natCast, rd_nat, rd_nat, w64 (by omega) (by omega), ← h4]
      have hlj : (fit s (l.getD o 0) L).length = L.length := by rw [h4, List.length_set]
      exact ih k (i + 1) _ (by omega) (by omega) hgf (by omega)
/-- The reference's search for a strip that holds a length. -/
theorem seek (l : List Int) (s : Int) (ord : List Int) (sn : List Bool) (L : List Int) (i o : Nat) (hi : i < ord.length) (hL12 : L.length ≤ 100) (hord : ord.length ≤ 100) (ho : ord.getD i 0 = (o : Int)) (hol : o < l.length) (j : Nat) (hj : j ≤ L.length) (h : ∀ t, t < j → L.getD t 0 < l.getD o 0) : ∀ (d k t : Nat), t + d = j → spec_StripsUsed.l1 (k + 1 + d) l s ord sn L i t = spec_StripsUsed.l1 (k + 1) l s ord sn L i j := by
  intro d
  induction d with
  | zero =>
    intro k t ht
    have : t = j := by omega
    subst this
    rfl
  | succ d ih =>
    intro k t ht
    rw [← ih k (t + 1) (by omega)]
    show spec_StripsUsed.l1 ((k + 1 + d) + 1) _ _ _ _ _ _ _ = _
    conv => lhs; rw [spec_StripsUsed.l1]
    have hlt := h t (by omega)
    rw [if_pos (by omega), if_pos (by omega), if_pos (by omega), if_pos (by omega), rd_nat ord, ho, if_pos (by omega), if_pos (by omega), rd_nat, rd_nat, if_pos hlt, w64 (by omega) (by omega)]
    rfl
theorem used_spec (l : List Int) (s : Int) (hL : lensOk l s = true) (ord : List Int) (hlen : ord.length = l.length) : ∀ (d k i : Nat) (sn : List Bool) (L : List Int), i + d = ord.length → d * 20 + 1 < k → GoodL L → L.length ≤ i → sn.length = l.length → (∀ x : Nat, x < l.length → (rdOf false sn (x : Int) = true ↔ (x : Int) ∈ ord.take i)) →
    spec_StripsUsed.l0 k l s ord sn L i = some (if ordW l.length (ord.take i) (ord.drop i) = true then (((ord.drop i).foldl (place l s) L).length : Int) else -1) := by
  obtain ⟨⟨hs, hl⟩, hok⟩ := lensOk_iff.1 hL
  have rdo : ∀ (sn : List Bool) (x : Nat), rdOf false sn (x : Int) = sn.getD x false := fun sn x => by simp [rdOf]
  intro d
  induction d with
  | zero =>
    intro k i sn L hi hk hg hli hsn hmem
    obtain ⟨k, rfl⟩ : ∃ m, k = m + 1 := ⟨k - 1, by omega⟩
    have e : ord.drop i = [] := List.drop_eq_nil_iff.2 (by omega)
    rw [spec_StripsUsed.l0, if_neg (by omega), e]
    unfold ordW
    rw [if_pos rfl]
    rfl
  | succ d ih =>
    intro k i sn L hi hk hg hli hsn hmem
    have hmul : (d + 1) * 20 = d * 20 + 20 := by omega
    have hil : i < ord.length := by omega
    have e : ord.getD i 0 = ord[i] := by simp [List.getD_eq_getElem?_getD, hil]
    have hw : wrap64 ((l.length : Int) - 1) = (l.length : Int) - 1 := w64 (by omega) (by omega)
    obtain ⟨k, rfl⟩ : ∃ m, k = m + 1 + 1 := ⟨k - 2, by omega⟩
    rw [List.drop_eq_getElem_cons hil, spec_StripsUsed.l0, if_pos (by omega), if_pos (by omega), rd_nat, e, hw, in_spec]
    clear hw
    simp only [Option.bind_some]
    unfold ordW
    by_cases c : 0 ≤ ord[i] ∧ ord[i] ≤ (l.length : Int) - 1
    · rw [decide_eq_true c, if_pos rfl, if_pos c.1, if_pos (by omega)]
      obtain ⟨o, ho⟩ : ∃ o : Nat, ord[i] = (o : Int) := ⟨ord[i].toNat, by omega⟩
      rw [ho] at c ⊢
      have hol : o < l.length := by omega
      rw [ho] at e
      rw [spec_StripsUsed.j2]
      by_cases c2 : (o : Int) ∈ ord.take i
      · rw [if_pos ((hmem o hol).2 c2), decide_eq_true c2, if_neg (by simp)]
      · rw [if_neg (fun h => c2 ((hmem o hol).1 h)), decide_eq_false c2, if_pos (by omega), if_pos (by omega), rd_nat, e, if_pos (by omega), if_pos (by omega), Int.toNat_natCast]
        simp only [Bool.not_false, Bool.true_and, Bool.and_self]
        have hn := hok (l.getD o 0) (by simp [List.getD_eq_getElem?_getD, hol])
        obtain ⟨hgf, hlf⟩ := fit_good (s := s) hn hs.2 L hg
        have htk : ord.take (i + 1) = ord.take i ++ [(o : Int)] := by rw [List.take_succ_eq_append_getElem hil, ho]
        have hmem' : ∀ x : Nat, x < l.length → (rdOf false (sn.set o true) (x : Int) = true ↔ (x : Int) ∈ ord.take (i + 1)) := by
          intro x hx
          rw [htk, List.mem_append, List.mem_singleton, ← hmem x hx, rdo, rdo, List.getD_eq_getElem?_getD, List.getElem?_set]
          by_cases ex : o = x
          · subst ex
            rw [if_pos rfl, if_pos (by omega)]
            simp
          · rw [if_neg ex, ← List.getD_eq_getElem?_getD]
            constructor
            · intro h; exact .inl h
            · rintro (h | h)
              · exact h
              · exact absurd (by omega) ex
        have hpl : place l s L (o : Int) = fit s (l.getD o 0) L := by
          unfold place
          rw [Int.toNat_natCast]
        rw [List.foldl_cons, hpl, ← htk]
        rcases fit_cases s (l.getD o 0) L with ⟨h1, h2⟩ | ⟨j, h1, h2, h3, h4⟩
        · obtain ⟨k, rfl⟩ : ∃ m, k = m + 1 + L.length := ⟨k - 1 - L.length, by omega⟩
          have S := seek l s ord (sn.set o true) L i o hil (by omega) (by omega) e hol L.length (Nat.le_refl _) h1 L.length k 0 (by omega)
          have e0 : ((0 : Nat) : Int) = 0 := rfl
          rw [e0] at S
          rw [S, spec_StripsUsed.l1, if_neg (by omega), if_pos rfl, if_pos (by omega)]
          simp only [Option.bind_some]
          rw [if_pos (by omega), if_pos (by simp; omega), if_pos (by omega), if_pos (by omega), rd_nat ord, e, if_pos (by omega), if_pos (by omega), Int.toNat_natCast, rd_nat, app_get, rd_nat, w64 (by omega) (by omega), set_app, ← h2, wi i (by omega)]
          exact ih k (i + 1) _ _ (by omega) (by omega) hgf (by omega) (by simp [hsn]) hmem'
        · obtain ⟨k, rfl⟩ : ∃ m, k = m + 1 + j := ⟨k - 1 - j, by omega⟩
          have S := seek l s ord (sn.set o true) L i o hil (by omega) (by omega) e hol j (by omega) h3 j k 0 (by omega)
          have e0 : ((0 : Nat) : Int) = 0 := rfl
          rw [e0] at S
          have hx := hg (L.getD j 0) (by simp [List.getD_eq_getElem?_getD, h1])
          have hlj : (fit s (l.getD o 0) L).length = L.length := by rw [h4, List.length_set]
          rw [S, spec_StripsUsed.l1, if_pos (by omega), if_pos (by omega), if_pos (by omega), if_pos (by omega), rd_nat ord, e, if_pos (by omega), if_pos (by omega), rd_nat, rd_nat, if_neg (by omega), if_neg (by omega), Int.toNat_natCast, w64 (by omega) (by omega), ← h4, wi i (by omega)]
          exact ih k (i + 1) _ _ (by omega) (by omega) hgf (by omega) (by simp [hsn]) hmem'
    · rw [decide_eq_false c, if_neg (by simp), spec_StripsUsed.j2, if_pos rfl]
      simp
theorem ordW_range (n : Nat) : ∀ (L pre : List Int), ordW n pre L = true → ∀ x ∈ L, 0 ≤ x ∧ x < (n : Int) := by
  intro L
  induction L with
  | nil => intro pre _ x hx; simp at hx
  | cons y L ih =>
    intro pre h x hx
    unfold ordW at h
    rw [Bool.and_eq_true, Bool.and_eq_true] at h
    have := of_decide_eq_true h.1.1
    rcases List.mem_cons.1 hx with e | e
    · subst e
      omega
    · exact ih _ h.2 x e
/-- Both answer the same. -/
theorem used_same (l : List Int) (s : Int) (ord : List Int) (hl : l.length ≤ 1000000000) (ho : ord.length ≤ 1000000000) (k : Nat) (hk : l.length + 2 * ord.length + 1000 < k) : ∃ v, spec_StripsUsed.f k l s ord = some v ∧ impl_StripsUsed.f k l s ord = some v := by
  obtain ⟨k, rfl⟩ : ∃ m, k = m + 1 := ⟨k - 1, by omega⟩
  unfold spec_StripsUsed.f impl_StripsUsed.f
  rw [lens_spec l s (k + 1) (by omega) (by omega), lens_impl]
  simp only [Option.bind_some]
  by_cases hL : lensOk l s = true
  · obtain ⟨⟨hs, hl12⟩, hok⟩ := lensOk_iff.1 hL
    rw [if_pos hL, if_pos hL, order_ok ord l.length (by omega) (k + 1) (by omega) (by omega)]
    simp only [Option.bind_some]
    rw [spec_StripsUsed.j0, impl_StripsUsed.j0]
    by_cases c : ord.length = l.length
    · have e1 : ((ord.length : Int) != (l.length : Int)) = false := by rw [c]; simp
      rw [e1, if_neg (by simp), if_pos (by omega), if_pos (by rw [Int.toNat_natCast]; omega), decide_eq_true c, Bool.true_and, Int.toNat_natCast]
      have S := used_spec l s hL ord c ord.length k 0 (List.replicate l.length false) [] (by omega) (by omega) (fun x hx => by simp at hx) (by simp) (by simp) (fun x hx => by simp [rdOf, hx])
      have e0 : ((0 : Nat) : Int) = 0 := rfl
      rw [e0] at S
      rw [S]
      simp only [List.take_zero, List.drop_zero]
      by_cases c2 : ordW l.length [] ord = true
      · rw [if_pos c2, c2]
        have hr := ordW_range l.length ord [] c2
        have I := used_impl l s hL ord (by omega) hr ord.length k 0 [] (by omega) (by omega) (fun x hx => by simp at hx) (by simp)
        rw [e0] at I
        refine ⟨_, rfl, ?_⟩
        rw [if_neg (by simp)]
        simpa using I
      · rw [if_neg c2, Bool.eq_false_iff.2 c2]
        exact ⟨-1, rfl, by simp⟩
    · have e1 : ((ord.length : Int) != (l.length : Int)) = true := by
        rw [bne_iff_ne]
        omega
      rw [e1, if_pos rfl, decide_eq_false c]
      exact ⟨-1, rfl, by simp⟩
  · rw [if_neg hL, if_neg hL, spec_StripsUsed.j0, impl_StripsUsed.j0]
    exact ⟨-1, by simp, by simp⟩

end Go.Proofs.Ytcjbdbbnbhobbaa.Lem
