/- Plain lemmas on the printed functions: what they compute; conditions stand in each lemma. -/
import Derived.Test.YtcjbdbbnbhobbaaQx1
import Derived.Test.YtcjbdbbnbhobbaaQx2
import Derived.Test.YtcjbdbbnbhobbaaQx3
import Derived.Test.YtcjbdbbnbhobbaaQx4
import Derived.Test.YtcjbdbbnbhobbaaQx8
import Derived.Test.YtcjbdbbnbhobbaaQx9
import Derived.Test.YtcjbdbbnbhobbaaQx10
import Derived.Test.YtcjbdbbnbhobbaaQx12
import Derived.Test.YtcjbdbbnbhobbaaQx13
import Derived.Test.YtcjbdbbnbhobbaaQx26
import Derived.Test.YtcjbdbbnbhobbaaQx27
namespace Go.Proofs.Ytcjbdbbnbhobbaa.Lem
open Go.RowKit Go.Proofs.Ytcjbdbbnbhobbaa.Q Go.Proofs.YtcjbdbbnbhobbaaW.PrintWords Go.Proofs.YtcjbdbbnbhobbaaW.PrintLast Go.Proofs.YtcjbdbbnbhobbaaW.PrintMore
set_option linter.unusedVariables false
set_option linter.unusedSimpArgs false
-- LEM
theorem rd_nat (l : List Int) (i : Nat) : rd l (i : Int) = l.getD i 0 := by simp [rd]
theorem wf64 {n : Int} (h : (Lit.int .i64 n).wf = true) : -9223372036854775808 ≤ n ∧ n ≤ 9223372036854775807 := by
  simp only [Lit.wf, IntKind.min, IntKind.max, IntKind.signed, IntKind.bits, Bool.and_eq_true, decide_eq_true_eq, if_true] at h
  omega
theorem w64 {n : Int} (h : -9223372036854775808 ≤ n) (h2 : n ≤ 9223372036854775807) : wrap64 n = n := by
  unfold wrap64
  omega
theorem w64s {i : Int} {n : Nat} (h0 : 0 ≤ i) (h1 : i < (n : Int)) (hn : n ≤ 9223372036854775807) : wrap64 (i + 1) = i + 1 := by
  unfold wrap64
  omega
/-- A loop over places i .. n with a state, without a way out. -/
theorem run_fold {σ R : Type} (L : Nat → Int → σ → Option R) (n : Nat) (hn : n ≤ 9223372036854775807) (step : σ → Nat → σ) (fin : σ → Option R)
    (h1 : ∀ k (i : Nat) s, i < n → L (k + 1) i s = L k (wrap64 ((i : Int) + 1)) (step s i))
    (h2 : ∀ k s, L (k + 1) n s = fin s) :
    ∀ (d : Nat) (k : Nat) (i : Nat) (s : σ), i + d = n → d < k → L k i s = fin ((List.range' i d).foldl step s) := by
  intro d
  induction d with
  | zero =>
    intro k i s hd hk
    obtain ⟨k, rfl⟩ : ∃ m, k = m + 1 := ⟨k - 1, by omega⟩
    have : i = n := by omega
    subst this
    simpa using h2 k s
  | succ d ih =>
    intro k i s hd hk
    obtain ⟨k, rfl⟩ : ∃ m, k = m + 1 := ⟨k - 1, by omega⟩
    rw [h1 k i s (by omega), w64s (n := n) (by omega) (by omega) hn]
    have := ih k (i + 1) (step s i) (by omega) (by omega)
    rw [List.range'_succ, List.foldl_cons]
    simpa using this
/-- A loop over places i .. n with a state and a way out: 'none' of step: out with 'out'. -/
def foldX {σ R : Type} (step : σ → Nat → σ ⊕ R) (fin : σ → Option R) : List Nat → σ → Option R
  | [], s => fin s
  | i :: is, s => match step s i with
    | .inl s' => foldX step fin is s'
    | .inr r => some r
theorem run_foldX {σ R : Type} (L : Nat → Int → σ → Option R) (n : Nat) (hn : n ≤ 9223372036854775807) (step : σ → Nat → σ ⊕ R) (fin : σ → Option R)
    (h1 : ∀ k (i : Nat) s, i < n → L (k + 1) i s = match step s i with | .inl s' => L k (wrap64 ((i : Int) + 1)) s' | .inr r => some r)
    (h2 : ∀ k s, L (k + 1) n s = fin s) :
    ∀ (d : Nat) (k : Nat) (i : Nat) (s : σ), i + d = n → d < k → L k i s = foldX step fin (List.range' i d) s := by
  intro d
  induction d with
  | zero =>
    intro k i s hd hk
    obtain ⟨k, rfl⟩ : ∃ m, k = m + 1 := ⟨k - 1, by omega⟩
    have : i = n := by omega
    subst this
    simpa [foldX] using h2 k s
  | succ d ih =>
    intro k i s hd hk
    obtain ⟨k, rfl⟩ : ∃ m, k = m + 1 := ⟨k - 1, by omega⟩
    rw [h1 k i s (by omega), w64s (n := n) (by omega) (by omega) hn, List.range'_succ]
    simp only [foldX]
    cases hs : step s i with
    | inl s' => simpa using ih k (i + 1) s' (by omega) (by omega)
    | inr r => rfl
/-- A loop that only asks whether all places pass. -/
theorem run_all {R : Type} (L : Nat → Int → Option R) (n : Nat) (hn : n ≤ 9223372036854775807) (p : Nat → Bool) (no : R) (fin : Option R)
    (h1 : ∀ k (i : Nat), i < n → L (k + 1) i = if p i = true then L k (wrap64 ((i : Int) + 1)) else some no)
    (h2 : ∀ k, L (k + 1) n = fin) (k : Nat) (hk : n < k) : L k 0 = if (List.range n).all p then fin else some no := by
  have key : ∀ (d k i : Nat), i + d = n → d < k → L k i = if (List.range' i d).all p then fin else some no := by
    intro d
    induction d with
    | zero =>
      intro k i hd hk
      obtain ⟨k, rfl⟩ : ∃ m, k = m + 1 := ⟨k - 1, by omega⟩
      have : i = n := by omega
      subst this
      simpa using h2 k
    | succ d ih =>
      intro k i hd hk
      obtain ⟨k, rfl⟩ : ∃ m, k = m + 1 := ⟨k - 1, by omega⟩
      rw [h1 k i (by omega), w64s (n := n) (by omega) (by omega) hn, List.range'_succ, List.all_cons]
      by_cases hp : p i = true
      · have := ih k (i + 1) (by omega) (by omega)
        simp only [hp, if_true, Bool.true_and]
        simpa using this
      · simp [hp]
  have := key n k 0 (by omega) hk
  rw [List.range_eq_range']
  simpa using this
theorem all_range_getD {α : Type} (l : List α) (d : α) (p : α → Bool) : (List.range l.length).all (fun i => p (l.getD i d)) = l.all p := by
  rw [Bool.eq_iff_iff, List.all_eq_true, List.all_eq_true]
  constructor
  · intro h x hx
    obtain ⟨i, hi, rfl⟩ := List.mem_iff_getElem.1 hx
    have := h i (List.mem_range.2 hi)
    simpa [List.getD_eq_getElem?_getD, hi] using this
  · intro h i hi
    have hi' := List.mem_range.1 hi
    have := h l[i] (List.getElem_mem hi')
    simpa [List.getD_eq_getElem?_getD, hi'] using this
theorem foldl_range_getD {α σ : Type} (l : List α) (d : α) (f : σ → α → σ) (s : σ) : (List.range' 0 l.length).foldl (fun s i => f s (l.getD i d)) s = l.foldl f s := by
  have : l = (List.range' 0 l.length).map (fun i => l.getD i d) := by
    apply List.ext_getElem
    · simp
    · intro i h1 h2
      simp [List.getD_eq_getElem?_getD, h1]
  conv => rhs; rw [this, List.foldl_map]
/-- A loop that fills a row place by place. -/
theorem copy_loop {α : Type} (L : Nat → List α → Int → Option (List α)) (n : Nat) (hn : n ≤ 9223372036854775807) (v : Nat → α)
    (h1 : ∀ k (i : Nat) xs, i < n → xs.length = n → L (k + 1) xs i = L k (xs.set i (v i)) (wrap64 ((i : Int) + 1)))
    (h2 : ∀ k xs, xs.length = n → L (k + 1) xs n = some xs) (xs0 : List α) (hx : xs0.length = n) (k : Nat) (hk : n < k) : L k xs0 0 = some ((List.range n).map v) := by
  have key : ∀ (d k i : Nat) (xs : List α), i + d = n → d < k → xs.length = n → (∀ j, j < i → xs[j]? = some (v j)) → L k xs i = some ((List.range n).map v) := by
    intro d
    induction d with
    | zero =>
      intro k i xs hd hk hl hj
      obtain ⟨k, rfl⟩ : ∃ m, k = m + 1 := ⟨k - 1, by omega⟩
      have : i = n := by omega
      subst this
      rw [h2 k xs hl]
      congr 1
      apply List.ext_getElem?
      intro j
      by_cases h : j < i
      · rw [hj j h]
        simp [h]
      · rw [List.getElem?_eq_none (by omega), List.getElem?_eq_none (by simp; omega)]
    | succ d ih =>
      intro k i xs hd hk hl hj
      obtain ⟨k, rfl⟩ : ∃ m, k = m + 1 := ⟨k - 1, by omega⟩
      rw [h1 k i xs (by omega) hl, w64s (n := n) (by omega) (by omega) hn]
      have := ih k (i + 1) (xs.set i (v i)) (by omega) (by omega) (by simpa using hl) (fun j hj2 => by
        rw [List.getElem?_set]
        by_cases e : i = j
        · subst e
          simp; omega
        · rw [if_neg e]
          exact hj j (by omega))
      simpa using this
  exact key n k 0 xs0 (by omega) hk hx (fun j hj => by omega)
theorem map_range_getD {α β : Type} (l : List α) (d : α) (f : α → β) : (List.range l.length).map (fun i => f (l.getD i d)) = l.map f := by
  apply List.ext_getElem
  · simp
  · intro i h1 h2
    simp at h1
    simp [List.getD_eq_getElem?_getD, h1]
/-- A loop over the places 0 .. n with a state, what it calls wanting more than B rounds, and what holds of the state at each place. -/
theorem loop_fold {σ R : Type} (L : Nat → Int → σ → Option R) (n B : Nat) (hn : n ≤ 9223372036854775807) (P : Nat → σ → Prop) (step : σ → Nat → σ) (fin : σ → Option R)
    (h1 : ∀ k (i : Nat) s, B < k → i < n → P i s → L (k + 1) i s = L k (wrap64 ((i : Int) + 1)) (step s i))
    (hP : ∀ (i : Nat) s, i < n → P i s → P (i + 1) (step s i))
    (h2 : ∀ k s, B < k → P n s → L (k + 1) n s = fin s) (k : Nat) (s : σ) (h0 : P 0 s) (hk : n + B + 1 < k) :
    L k 0 s = fin ((List.range n).foldl step s) ∧ P n ((List.range n).foldl step s) := by
  have key : ∀ (d k i : Nat) (s : σ), i + d = n → d + B + 1 < k → P i s → L k i s = fin ((List.range' i d).foldl step s) ∧ P n ((List.range' i d).foldl step s) := by
    intro d
    induction d with
    | zero =>
      intro k i s hd hk hp
      obtain ⟨k, rfl⟩ : ∃ m, k = m + 1 := ⟨k - 1, by omega⟩
      have : i = n := by omega
      subst this
      exact ⟨by simpa using h2 k s (by omega) hp, by simpa using hp⟩
    | succ d ih =>
      intro k i s hd hk hp
      obtain ⟨k, rfl⟩ : ∃ m, k = m + 1 := ⟨k - 1, by omega⟩
      rw [h1 k i s (by omega) (by omega) hp, w64s (n := n) (by omega) (by omega) hn]
      have := ih k (i + 1) (step s i) (by omega) (by omega) (hP i s (by omega) hp)
      rw [List.range'_succ, List.foldl_cons]
      simpa using this
  have := key n k 0 s (by omega) (by omega) h0
  rw [List.range_eq_range']
  simpa using this
/-- The same without anything to hold of the state. -/
theorem loop_fold' {σ R : Type} (L : Nat → Int → σ → Option R) (n B : Nat) (hn : n ≤ 9223372036854775807) (step : σ → Nat → σ) (fin : σ → Option R)
    (h1 : ∀ k (i : Nat) s, B < k → i < n → L (k + 1) i s = L k (wrap64 ((i : Int) + 1)) (step s i))
    (h2 : ∀ k s, B < k → L (k + 1) n s = fin s) (k : Nat) (s : σ) (hk : n + B + 1 < k) :
    L k 0 s = fin ((List.range n).foldl step s) :=
  (loop_fold L n B hn (fun _ _ => True) step fin (fun k i s a b _ => h1 k i s a b) (fun _ _ _ _ => trivial) (fun k s a _ => h2 k s a) k s trivial hk).1
theorem foldl_range_getD' {α σ : Type} (l : List α) (d : α) (f : σ → α → σ) (s : σ) : (List.range l.length).foldl (fun s i => f s (l.getD i d)) s = l.foldl f s := by
  rw [List.range_eq_range']
  exact foldl_range_getD l d f s
/-- A loop with a way out. -/
theorem loop_foldX {σ R : Type} (L : Nat → Int → σ → Option R) (n B : Nat) (hn : n ≤ 9223372036854775807) (P : Nat → σ → Prop) (step : σ → Nat → σ ⊕ R) (fin : σ → Option R)
    (h1 : ∀ k (i : Nat) s, B < k → i < n → P i s → L (k + 1) i s = match step s i with | .inl s' => L k (wrap64 ((i : Int) + 1)) s' | .inr r => some r)
    (hP : ∀ (i : Nat) s s', i < n → P i s → step s i = .inl s' → P (i + 1) s')
    (h2 : ∀ k s, B < k → P n s → L (k + 1) n s = fin s) (k : Nat) (s : σ) (h0 : P 0 s) (hk : n + B + 1 < k) :
    L k 0 s = foldX step fin (List.range n) s := by
  have key : ∀ (d k i : Nat) (s : σ), i + d = n → d + B + 1 < k → P i s → L k i s = foldX step fin (List.range' i d) s := by
    intro d
    induction d with
    | zero =>
      intro k i s hd hk hp
      obtain ⟨k, rfl⟩ : ∃ m, k = m + 1 := ⟨k - 1, by omega⟩
      have : i = n := by omega
      subst this
      simpa [foldX] using h2 k s (by omega) hp
    | succ d ih =>
      intro k i s hd hk hp
      obtain ⟨k, rfl⟩ : ∃ m, k = m + 1 := ⟨k - 1, by omega⟩
      rw [h1 k i s (by omega) (by omega) hp, w64s (n := n) (by omega) (by omega) hn, List.range'_succ]
      simp only [foldX]
      cases hs : step s i with
      | inl s' => simpa using ih k (i + 1) s' (by omega) (by omega) (hP i s s' (by omega) hp hs)
      | inr r => rfl
  have := key n k 0 s (by omega) (by omega) h0
  rw [List.range_eq_range']
  simpa using this
/-- A loop that only asks whether all places pass. -/
theorem loop_all {R : Type} (L : Nat → Int → Option R) (n B : Nat) (hn : n ≤ 9223372036854775807) (p : Nat → Bool) (no : R) (fin : Option R)
    (h1 : ∀ k (i : Nat), B < k → i < n → L (k + 1) i = if p i = true then L k (wrap64 ((i : Int) + 1)) else some no)
    (h2 : ∀ k, B < k → L (k + 1) n = fin) (k : Nat) (hk : n + B + 1 < k) : L k 0 = if (List.range n).all p then fin else some no := by
  have key : ∀ (d k i : Nat), i + d = n → d + B + 1 < k → L k i = if (List.range' i d).all p then fin else some no := by
    intro d
    induction d with
    | zero =>
      intro k i hd hk
      obtain ⟨k, rfl⟩ : ∃ m, k = m + 1 := ⟨k - 1, by omega⟩
      have : i = n := by omega
      subst this
      simpa using h2 k (by omega)
    | succ d ih =>
      intro k i hd hk
      obtain ⟨k, rfl⟩ : ∃ m, k = m + 1 := ⟨k - 1, by omega⟩
      rw [h1 k i (by omega) (by omega), w64s (n := n) (by omega) (by omega) hn, List.range'_succ, List.all_cons]
      by_cases hp : p i = true
      · have := ih k (i + 1) (by omega) (by omega)
        simp only [hp, if_true, Bool.true_and]
        simpa using this
      · simp [hp]
  have := key n k 0 (by omega) hk
  rw [List.range_eq_range']
  simpa using this
/-- A loop from place i to n inside of a greater text: what it costs, and where it goes on. -/
theorem seg {σ R : Type} (L : Nat → Int → σ → Option R) (L' : Nat → σ → Option R) (n B : Nat) (C : Nat → Nat) (P : Nat → σ → Prop) (step : σ → Nat → σ)
    (h1 : ∀ k (i : Nat) s, B < k → i < n → P i s → L (k + C i) i s = L k ((i : Int) + 1) (step s i))
    (hP : ∀ (i : Nat) s, i < n → P i s → P (i + 1) (step s i))
    (h2 : ∀ k s, B < k → P n s → L (k + 1) n s = L' k s) :
    ∀ (d i k : Nat) (s : σ), i + d = n → B < k → P i s → L (k + 1 + ((List.range' i d).map C).sum) i s = L' k ((List.range' i d).foldl step s) ∧ P n ((List.range' i d).foldl step s) := by
  intro d
  induction d with
  | zero =>
    intro i k s hd hk hp
    have : i = n := by omega
    subst this
    exact ⟨by simpa using h2 k s hk hp, by simpa using hp⟩
  | succ d ih =>
    intro i k s hd hk hp
    rw [List.range'_succ, List.map_cons, List.sum_cons, List.foldl_cons]
    have e : k + 1 + (C i + ((List.range' (i + 1) d).map C).sum) = (k + 1 + ((List.range' (i + 1) d).map C).sum) + C i := by omega
    rw [e, h1 _ i s (by omega) (by omega) hp]
    have := ih (i + 1) k (step s i) (by omega) hk (hP i s (by omega) hp)
    simpa using this
theorem in_spec (a b c : Int) : spec_l01In.f a b c = some (decide (b ≤ a ∧ a ≤ c)) := by
  unfold spec_l01In.f
  by_cases h : b ≤ a <;> simp [h]
theorem in_impl (a b c : Int) : impl_in.f a b c = some (decide (b ≤ a ∧ a ≤ c)) := by
  unfold impl_in.f
  by_cases h : b ≤ a <;> simp [h]
theorem eqIntS_self (l : List Int) (k : Nat) (hl : l.length ≤ 9223372036854775807) (hk : l.length < k) : laws_eqIntS.f k l l = some true := by
  unfold laws_eqIntS.f
  rw [if_pos rfl]
  have := run_all (fun k x5 => laws_eqIntS.l0 k l l x5) l.length hl (fun _ => true) false (some true)
    (fun k i hi => by
      simp only [laws_eqIntS.l0]
      rw [if_pos (by omega), if_pos (by omega), if_pos (by omega)])
    (fun k => by
      simp only [laws_eqIntS.l0]
      rw [if_neg (by omega)]) k hk
  rw [this]
  simp
theorem toIntS_ok (l : List Int) (k : Nat) (hl : l.length ≤ 35184372088832) (hk : l.length < k) : laws_toIntS.f k l = some l := by
  unfold laws_toIntS.f
  rw [if_pos (by omega), if_pos (by simpa using hl)]
  have := copy_loop (fun k x3 x4 => laws_toIntS.l0 k l x3 x4) l.length (by omega) (fun i => id (l.getD i 0))
    (fun k i xs hi hx => by
      simp only [laws_toIntS.l0]
      rw [if_pos (by omega), if_pos (by omega), if_pos (by omega), rd_nat]
      simp)
    (fun k xs hx => by
      simp only [laws_toIntS.l0]
      rw [if_neg (by omega)]) (List.replicate l.length 0) (by simp) k hk
  rw [map_range_getD] at this
  simpa using this
def markL (n : Nat) : List Int := (List.range n).map fun i : Nat => (i : Int) + 1
theorem markIntS_ok (l : List Int) (k : Nat) (hl : l.length ≤ 4611686018427387904) (hk : l.length < k) : laws_markIntS.f k l 1 = some ((l.length : Int) + 1, markL l.length) := by
  unfold laws_markIntS.f
  have key : ∀ (d k i : Nat) (xs : List Int), i + d = l.length → d < k → xs.length = l.length → (∀ j, j < i → xs[j]? = some ((j : Int) + 1)) → laws_markIntS.l0 k xs ((i : Int) + 1) i = some ((l.length : Int) + 1, markL l.length) := by
    intro d
    induction d with
    | zero =>
      intro k i xs hd hk hx hj
      obtain ⟨k, rfl⟩ : ∃ m, k = m + 1 := ⟨k - 1, by omega⟩
      simp only [laws_markIntS.l0]
      rw [if_neg (by omega)]
      have : xs = markL l.length := by
        apply List.ext_getElem?
        intro j
        by_cases h : j < i
        · rw [hj j h]
          have : j < l.length := by omega
          simp [markL, this]
        · rw [List.getElem?_eq_none (by omega), List.getElem?_eq_none (by simp [markL]; omega)]
      rw [this]
      congr 2
      omega
    | succ d ih =>
      intro k i xs hd hk hx hj
      obtain ⟨k, rfl⟩ : ∃ m, k = m + 1 := ⟨k - 1, by omega⟩
      simp only [laws_markIntS.l0]
      rw [if_pos (by omega), if_pos (by omega), w64 (n := (i : Int) + 1) (by omega) (by omega), w64 (n := (i : Int) + 1 + 1) (by omega) (by omega)]
      have := ih k (i + 1) (xs.set i ((i : Int) + 1)) (by omega) (by omega) (by simpa using hx) (fun j hj2 => by
        rw [List.getElem?_set]
        by_cases e : i = j
        · subst e
          simp; omega
        · rw [if_neg e]
          exact hj j (by omega))
      simpa using this
  have := key l.length k 0 l (by omega) hk rfl (fun j hj => by omega)
  simpa using this
theorem heldIntS_ok (n : Nat) (k : Nat) (hl : n ≤ 4611686018427387904) (hk : n < k) : laws_heldIntS.f k (markL n) 1 = some ((n : Int) + 1) := by
  unfold laws_heldIntS.f
  have hlen : (markL n).length = n := by simp [markL]
  have key : ∀ (d k i : Nat), i + d = n → d < k → laws_heldIntS.l0 k (markL n) ((i : Int) + 1) i = some ((n : Int) + 1) := by
    intro d
    induction d with
    | zero =>
      intro k i hd hk
      obtain ⟨k, rfl⟩ : ∃ m, k = m + 1 := ⟨k - 1, by omega⟩
      simp only [laws_heldIntS.l0]
      rw [if_neg (by omega)]
      congr 2
      omega
    | succ d ih =>
      intro k i hd hk
      obtain ⟨k, rfl⟩ : ∃ m, k = m + 1 := ⟨k - 1, by omega⟩
      have e : rd (markL n) (i : Int) = (i : Int) + 1 := by
        have : i < n := by omega
        simp [rd, markL, List.getD_eq_getElem?_getD, this]
      simp only [laws_heldIntS.l0]
      rw [if_pos (by omega), if_pos (by omega), e, if_pos rfl, w64 (n := (i : Int) + 1 + 1) (by omega) (by omega), w64 (n := (i : Int) + 1) (by omega) (by omega)]
      have := ih k (i + 1) (by omega) (by omega)
      simpa using this
  have := key n k 0 (by omega) hk
  simpa using this
def lensOk (l : List Int) (s : Int) : Bool := decide ((1 ≤ s ∧ s ≤ 200) ∧ l.length ≤ 12) && l.all fun x => decide (1 ≤ x ∧ x ≤ s)
theorem lensOk_iff {l : List Int} {s : Int} : lensOk l s = true ↔ ((1 ≤ s ∧ s ≤ 200) ∧ l.length ≤ 12) ∧ ∀ x ∈ l, 1 ≤ x ∧ x ≤ s := by simp [lensOk, List.all_eq_true]
theorem lens_impl (l : List Int) (s : Int) : impl_LengthsOk.f l s = some (lensOk l s) := by
  simp only [impl_LengthsOk.f, in_impl, impl_allIn.f, Option.bind_some, lensOk]
  by_cases h : 1 ≤ s ∧ s ≤ 200
  · rw [decide_eq_true h, if_pos rfl]
    by_cases h2 : (l.length : Int) ≤ 12
    · rw [if_pos h2, decide_eq_true ⟨h, by omega⟩, Bool.true_and]
      simp [Bool.decide_and]
    · rw [if_neg h2, decide_eq_false (by omega), Bool.false_and]
  · rw [decide_eq_false h, if_neg (by simp), decide_eq_false (fun hh => h hh.1), Bool.false_and]
theorem lens_spec (l : List Int) (s : Int) (k : Nat) (hl : l.length ≤ 9223372036854775807) (hk : l.length < k) : spec_LengthsOk.f k l s = some (lensOk l s) := by
  unfold spec_LengthsOk.f
  rw [run_all (fun k x5 => spec_LengthsOk.l0 k l s x5) l.length hl (fun i => decide (1 ≤ l.getD i 0 ∧ l.getD i 0 ≤ s)) false (some (decide ((1 ≤ s ∧ s ≤ 200) ∧ l.length ≤ 12)))
    (fun k i hi => by
      simp only [spec_LengthsOk.l0, in_spec, Option.bind_some, rd_nat]
      rw [if_pos (by omega), if_pos (by omega)])
    (fun k => by
      simp only [spec_LengthsOk.l0, in_spec, Option.bind_some]
      rw [if_neg (by omega)]
      by_cases h : 1 ≤ s ∧ s ≤ 200
      · rw [decide_eq_true h, if_pos rfl]
        congr 1
        rw [decide_eq_decide]
        omega
      · rw [decide_eq_false h, if_neg (by simp), decide_eq_false (fun hh => h hh.1)]) k hk]
  rw [all_range_getD l 0 (fun x => decide (1 ≤ x ∧ x ≤ s))]
  unfold lensOk
  cases l.all (fun x => decide (1 ≤ x ∧ x ≤ s)) <;> simp
/-- Two neighbours change places. -/
def swp (xs : List Int) (j : Nat) : List Int := (xs.set j (xs.getD (j - 1) 0)).set (j - 1) (xs.getD j 0)
theorem swp_len (xs : List Int) (j : Nat) : (swp xs j).length = xs.length := by simp [swp]
theorem swp_get (xs : List Int) (j : Nat) (h0 : 0 < j) (hj : j < xs.length) (a : Nat) : (swp xs j).getD a 0 = if a = j - 1 then xs.getD j 0 else if a = j then xs.getD (j - 1) 0 else xs.getD a 0 := by
  unfold swp
  simp only [List.getD_eq_getElem?_getD, List.getElem?_set, List.length_set]
  by_cases e : a = j - 1
  · subst e
    rw [if_pos rfl, if_pos rfl, if_pos (by omega)]
    rfl
  · rw [if_neg (fun h => e h.symm), if_neg e]
    by_cases e2 : a = j
    · subst e2
      rw [if_pos rfl, if_pos rfl, if_pos hj]
      rfl
    · rw [if_neg (fun h => e2 h.symm), if_neg e2]
theorem swp_perm (xs : List Int) (j : Nat) (h0 : 0 < j) (hj : j < xs.length) : (swp xs j).Perm xs := by
  obtain ⟨i, rfl⟩ : ∃ i, j = i + 1 := ⟨j - 1, by omega⟩
  have e1 : xs.getD (i + 1) 0 = xs[i + 1] := by simp [List.getD_eq_getElem?_getD, hj]
  have e0 : xs.getD i 0 = xs[i]'(by omega) := by simp [List.getD_eq_getElem?_getD, show i < xs.length by omega]
  have hx : xs = xs.take i ++ xs[i]'(by omega) :: xs[i + 1] :: xs.drop (i + 2) := by
    conv => lhs; rw [← List.take_append_drop i xs, List.drop_eq_getElem_cons (by omega), List.drop_eq_getElem_cons hj]
  have hs : swp xs (i + 1) = xs.take i ++ xs[i + 1] :: xs[i]'(by omega) :: xs.drop (i + 2) := by
    apply List.ext_getElem
    · rw [swp_len]
      simp
      omega
    · intro a h1 h2
      have g := swp_get xs (i + 1) (by omega) hj a
      rw [List.getD_eq_getElem?_getD, List.getElem?_eq_getElem h1, Option.getD_some] at g
      rw [g]
      simp only [Nat.add_sub_cancel]
      have hl : (xs.take i).length = i := by simp; omega
      by_cases ea : a < i
      · rw [if_neg (by omega), if_neg (by omega), List.getElem_append_left (by omega), List.getElem_take]
        simp [List.getD_eq_getElem?_getD, show a < xs.length by omega]
      · rw [List.getElem_append_right (by omega)]
        by_cases e3 : a = i
        · subst e3
          simp [hl, List.getD_eq_getElem?_getD, hj]
        · by_cases e4 : a = i + 1
          · subst e4
            simp [hl, List.getD_eq_getElem?_getD, show i < xs.length by omega]
          · rw [if_neg e3, if_neg e4]
            obtain ⟨b, rfl⟩ : ∃ b, a = i + 2 + b := ⟨a - (i + 2), by omega⟩
            rw [swp_len] at h1
            simp [hl, show i + 2 + b - i = b + 1 + 1 by omega, List.getD_eq_getElem?_getD, h1]
  rw [hs]
  conv => rhs; rw [hx]
  exact List.Perm.append_left _ (List.Perm.swap _ _ _)
/-- The first i + 1 places are in order, but for place j's to those before it. -/
def Near (key : Int → Int) (xs : List Int) (i j : Nat) : Prop := ∀ a b : Nat, a < b → b ≤ i → b ≠ j → key (xs.getD a 0) ≤ key (xs.getD b 0)
def Upto (key : Int → Int) (xs : List Int) (i : Nat) : Prop := ∀ a b : Nat, a < b → b < i → key (xs.getD a 0) ≤ key (xs.getD b 0)
/-- Insertion sort by neighbours' swaps, of any two loops that do it. -/
theorem insertion (L0 : Nat → List Int → Int → Option (List Int)) (L1 : Nat → List Int → Int → Int → Option (List Int)) (key : Int → Int) (n : Nat) (V : List Int → Prop)
    (h0 : ∀ k xs (i : Nat), i < n → xs.length = n → V xs → L0 (k + 1) xs i = L1 k xs i i)
    (hend : ∀ k xs, xs.length = n → V xs → L0 (k + 1) xs n = some xs)
    (h1 : ∀ k xs (i j : Nat), 0 < j → j ≤ i → i < n → xs.length = n → V xs → L1 (k + 1) xs i j = if key (xs.getD j 0) < key (xs.getD (j - 1) 0) then L1 k (swp xs j) i ((j - 1 : Nat) : Int) else L0 k xs ((i + 1 : Nat) : Int))
    (h1z : ∀ k xs (i : Nat), i < n → xs.length = n → V xs → L1 (k + 1) xs i 0 = L0 k xs ((i + 1 : Nat) : Int))
    (hV : ∀ xs ys, V xs → ys.Perm xs → V ys) :
    ∀ (d k i : Nat) (xs : List Int), i + d = n → d * (n + 3) + 1 < k → xs.length = n → V xs → Upto key xs i → ∃ ys, L0 k xs i = some ys ∧ ys.Perm xs ∧ Upto key ys n := by
  have inner : ∀ (j k i : Nat) (xs : List Int), j ≤ i → i < n → j + 1 < k → xs.length = n → V xs → Near key xs i j → ∃ ys k', k - j - 1 ≤ k' ∧ L1 k xs i j = L0 k' ys ((i + 1 : Nat) : Int) ∧ ys.Perm xs ∧ Upto key ys (i + 1) := by
    intro j
    induction j with
    | zero =>
      intro k i xs hji hi hk hl hv hn
      obtain ⟨k, rfl⟩ : ∃ m, k = m + 1 := ⟨k - 1, by omega⟩
      exact ⟨xs, k, by omega, h1z k xs i hi hl hv, List.Perm.refl _, fun a b hab hb => hn a b hab (by omega) (by omega)⟩
    | succ j ih =>
      intro k i xs hji hi hk hl hv hn
      obtain ⟨k, rfl⟩ : ∃ m, k = m + 1 := ⟨k - 1, by omega⟩
      rw [h1 k xs i (j + 1) (by omega) hji hi hl hv, Nat.add_sub_cancel]
      by_cases c : key (xs.getD (j + 1) 0) < key (xs.getD j 0)
      · rw [if_pos c]
        have hp := swp_perm xs (j + 1) (by omega) (by omega)
        obtain ⟨ys, k', hk', e, p, u⟩ := ih k i (swp xs (j + 1)) (by omega) hi (by omega) (by rw [swp_len, hl]) (hV _ _ hv hp) (fun a b hab hb hbj => by
          rw [swp_get xs (j + 1) (by omega) (by omega) a, swp_get xs (j + 1) (by omega) (by omega) b, Nat.add_sub_cancel]
          by_cases eb : b = j + 1
          · subst eb
            rw [if_neg (c := j + 1 = j) (by omega), if_pos (c := j + 1 = j + 1) rfl]
            by_cases ea : a = j
            · rw [if_pos ea]
              omega
            · rw [if_neg ea, if_neg (c := a = j + 1) (by omega)]
              exact hn a j (by omega) (by omega) (by omega)
          · rw [if_neg (c := b = j) hbj, if_neg (c := b = j + 1) eb]
            by_cases ea : a = j
            · rw [if_pos ea]
              exact hn (j + 1) b (by omega) hb eb
            · rw [if_neg ea]
              by_cases ea2 : a = j + 1
              · rw [if_pos ea2]
                exact hn j b (by omega) hb eb
              · rw [if_neg ea2]
                exact hn a b hab hb eb)
        exact ⟨ys, k', by omega, e, p.trans hp, u⟩
      · rw [if_neg c]
        refine ⟨xs, k, by omega, rfl, List.Perm.refl _, fun a b hab hb => ?_⟩
        by_cases eb : b = j + 1
        · subst eb
          by_cases ea : a = j
          · subst ea
            omega
          · have := hn a j (by omega) (by omega) (by omega)
            omega
        · exact hn a b hab (by omega) eb
  intro d
  induction d with
  | zero =>
    intro k i xs hi hk hl hv hu
    obtain ⟨k, rfl⟩ : ∃ m, k = m + 1 := ⟨k - 1, by omega⟩
    have : i = n := by omega
    subst this
    exact ⟨xs, hend k xs hl hv, List.Perm.refl _, hu⟩
  | succ d ih =>
    intro k i xs hi hk hl hv hu
    have hmul : (d + 1) * (n + 3) = d * (n + 3) + (n + 3) := Nat.succ_mul _ _
    obtain ⟨k, rfl⟩ : ∃ m, k = m + 1 := ⟨k - 1, by omega⟩
    rw [h0 k xs i (by omega) hl hv]
    obtain ⟨ys, k', hk', e, p, u⟩ := inner i k i xs (Nat.le_refl _) (by omega) (by omega) hl hv (fun a b hab hb hbi => hu a b hab (by omega))
    obtain ⟨zs, e2, p2, u2⟩ := ih k' (i + 1) ys (by omega) (by omega) (by rw [p.length_eq, hl]) (hV _ _ hv p) u
    rw [e]
    exact ⟨zs, e2, p2.trans p, u2⟩
/-- In order by a key, and by themselves where the keys agree. -/
def Lex (key : Int → Int) (x y : Int) : Prop := key x < key y ∨ (key x = key y ∧ x < y)
def UptoL (key : Int → Int) (xs : List Int) (i : Nat) : Prop := ∀ a b : Nat, a < b → b < i → Lex key (xs.getD a 0) (xs.getD b 0)
def NearL (key : Int → Int) (xs : List Int) (i j : Nat) : Prop := ∀ a b : Nat, a < b → b ≤ i → b ≠ j → Lex key (xs.getD a 0) (xs.getD b 0)
def TopL (xs : List Int) (i j : Nat) : Prop := ∀ a : Nat, a ≤ i → a ≠ j → xs.getD a 0 < xs.getD j 0
def RestL (xs : List Int) (n i : Nat) : Prop := ∀ a b : Nat, a < b → i ≤ b → b < n → xs.getD a 0 < xs.getD b 0
/-- Insertion sort by neighbours' swaps of ascending numbers: stable, of any two loops that do it. -/
theorem insertion_st (L0 : Nat → List Int → Int → Option (List Int)) (L1 : Nat → List Int → Int → Int → Option (List Int)) (key : Int → Int) (n : Nat) (V : List Int → Prop)
    (h0 : ∀ k xs (i : Nat), i < n → xs.length = n → V xs → L0 (k + 1) xs i = L1 k xs i i)
    (hend : ∀ k xs, xs.length = n → V xs → L0 (k + 1) xs n = some xs)
    (h1 : ∀ k xs (i j : Nat), 0 < j → j ≤ i → i < n → xs.length = n → V xs → L1 (k + 1) xs i j = if key (xs.getD j 0) < key (xs.getD (j - 1) 0) then L1 k (swp xs j) i ((j - 1 : Nat) : Int) else L0 k xs ((i + 1 : Nat) : Int))
    (h1z : ∀ k xs (i : Nat), i < n → xs.length = n → V xs → L1 (k + 1) xs i 0 = L0 k xs ((i + 1 : Nat) : Int))
    (hV : ∀ xs ys, V xs → ys.Perm xs → V ys) :
    ∀ (d k i : Nat) (xs : List Int), i + d = n → d * (n + 3) + 1 < k → xs.length = n → V xs → UptoL key xs i → RestL xs n i → ∃ ys, L0 k xs i = some ys ∧ ys.Perm xs ∧ UptoL key ys n := by
  have inner : ∀ (j k i : Nat) (xs : List Int), j ≤ i → i < n → j + 1 < k → xs.length = n → V xs → NearL key xs i j → TopL xs i j → RestL xs n (i + 1) → ∃ ys k', k - j - 1 ≤ k' ∧ L1 k xs i j = L0 k' ys ((i + 1 : Nat) : Int) ∧ ys.Perm xs ∧ UptoL key ys (i + 1) ∧ RestL ys n (i + 1) := by
    intro j
    induction j with
    | zero =>
      intro k i xs hji hi hk hl hv hn ht hr
      obtain ⟨k, rfl⟩ : ∃ m, k = m + 1 := ⟨k - 1, by omega⟩
      exact ⟨xs, k, by omega, h1z k xs i hi hl hv, List.Perm.refl _, fun a b hab hb => hn a b hab (by omega) (by omega), hr⟩
    | succ j ih =>
      intro k i xs hji hi hk hl hv hn ht hr
      obtain ⟨k, rfl⟩ : ∃ m, k = m + 1 := ⟨k - 1, by omega⟩
      rw [h1 k xs i (j + 1) (by omega) hji hi hl hv, Nat.add_sub_cancel]
      by_cases c : key (xs.getD (j + 1) 0) < key (xs.getD j 0)
      · rw [if_pos c]
        have hp := swp_perm xs (j + 1) (by omega) (by omega)
        have hg := fun a => swp_get xs (j + 1) (by omega) (by omega) a
        simp only [Nat.add_sub_cancel] at hg
        obtain ⟨ys, k', hk', e, p, u, r⟩ := ih k i (swp xs (j + 1)) (by omega) hi (by omega) (by rw [swp_len, hl]) (hV _ _ hv hp) (fun a b hab hb hbj => by
          rw [hg a, hg b]
          by_cases eb : b = j + 1
          · subst eb
            rw [if_neg (c := j + 1 = j) (by omega), if_pos (c := j + 1 = j + 1) rfl]
            by_cases ea : a = j
            · rw [if_pos ea]
              exact .inl c
            · rw [if_neg ea, if_neg (c := a = j + 1) (by omega)]
              exact hn a j (by omega) (by omega) (by omega)
          · rw [if_neg (c := b = j) hbj, if_neg (c := b = j + 1) eb]
            by_cases ea : a = j
            · rw [if_pos ea]
              exact hn (j + 1) b (by omega) hb eb
            · rw [if_neg ea]
              by_cases ea2 : a = j + 1
              · rw [if_pos ea2]
                exact hn j b (by omega) hb eb
              · rw [if_neg ea2]
                exact hn a b hab hb eb) (fun a ha haj => by
          rw [hg a, hg j, if_pos (c := j = j) rfl, if_neg haj]
          by_cases ea : a = j + 1
          · rw [if_pos ea]
            exact ht j (by omega) (by omega)
          · rw [if_neg ea]
            exact ht a ha ea) (fun a b hab hb hbn => by
          rw [hg a, hg b, if_neg (c := b = j) (by omega), if_neg (c := b = j + 1) (by omega)]
          by_cases ea : a = j
          · rw [if_pos ea]
            exact hr (j + 1) b (by omega) hb hbn
          · rw [if_neg ea]
            by_cases ea2 : a = j + 1
            · rw [if_pos ea2]
              exact hr j b (by omega) hb hbn
            · rw [if_neg ea2]
              exact hr a b hab hb hbn)
        exact ⟨ys, k', by omega, e, p.trans hp, u, r⟩
      · rw [if_neg c]
        refine ⟨xs, k, by omega, rfl, List.Perm.refl _, fun a b hab hb => ?_, hr⟩
        by_cases eb : b = j + 1
        · subst eb
          have hj := ht j (by omega) (by omega)
          by_cases ea : a = j
          · subst ea
            unfold Lex
            omega
          · have := hn a j (by omega) (by omega) (by omega)
            unfold Lex at this ⊢
            omega
        · exact hn a b hab (by omega) eb
  intro d
  induction d with
  | zero =>
    intro k i xs hi hk hl hv hu hr
    obtain ⟨k, rfl⟩ : ∃ m, k = m + 1 := ⟨k - 1, by omega⟩
    have : i = n := by omega
    subst this
    exact ⟨xs, hend k xs hl hv, List.Perm.refl _, hu⟩
  | succ d ih =>
    intro k i xs hi hk hl hv hu hr
    have hmul : (d + 1) * (n + 3) = d * (n + 3) + (n + 3) := Nat.succ_mul _ _
    obtain ⟨k, rfl⟩ : ∃ m, k = m + 1 := ⟨k - 1, by omega⟩
    rw [h0 k xs i (by omega) hl hv]
    obtain ⟨ys, k', hk', e, p, u, r⟩ := inner i k i xs (Nat.le_refl _) (by omega) (by omega) hl hv (fun a b hab hb hbi => hu a b hab (by omega)) (fun a ha hai => hr a i (by omega) (by omega) (by omega)) (fun a b hab hb hbn => hr a b hab (by omega) hbn)
    obtain ⟨zs, e2, p2, u2⟩ := ih k' (i + 1) ys (by omega) (by omega) (by rw [p.length_eq, hl]) (hV _ _ hv p) u r
    rw [e]
    exact ⟨zs, e2, p2.trans p, u2⟩
/-- Two rows of the same numbers in the same strict order are the same row. -/
theorem lex_unique (key : Int → Int) : ∀ (xs ys : List Int), xs.Perm ys → xs.Pairwise (Lex key) → ys.Pairwise (Lex key) → xs = ys := by
  intro xs
  induction xs with
  | nil => intro ys p _ _; exact (List.nil_perm.1 p).symm ▸ rfl
  | cons x xs ih =>
    intro ys p hx hy
    match ys, p, hy with
    | [], p, _ => simp at p
    | y :: ys, p, hy =>
      have e : x = y := by
        apply Classical.byContradiction
        intro ne
        have h1 : x ∈ ys := by
          have := p.mem_iff.1 (List.mem_cons_self (a := x) (l := xs))
          rcases List.mem_cons.1 this with h | h
          · exact absurd h ne
          · exact h
        have h2 : y ∈ xs := by
          have := p.mem_iff.2 (List.mem_cons_self (a := y) (l := ys))
          rcases List.mem_cons.1 this with h | h
          · exact absurd h.symm ne
          · exact h
        have a := (List.pairwise_cons.1 hx).1 y h2
        have b := (List.pairwise_cons.1 hy).1 x h1
        unfold Lex at a b
        omega
      subst e
      rw [ih ys (List.Perm.cons_inv p) (List.pairwise_cons.1 hx).2 (List.pairwise_cons.1 hy).2]
theorem uptoL_pairwise (key : Int → Int) (xs : List Int) (h : UptoL key xs xs.length) : xs.Pairwise (Lex key) := by
  rw [List.pairwise_iff_getElem]
  intro i j hi hj hij
  have := h i j hij hj
  simpa [List.getD_eq_getElem?_getD, hi, hj] using this
theorem indices_ok (n k : Nat) (hn : n ≤ 1000000) (hk : n + 1 < k) : impl_indices.f k n = some ((List.range n).map fun i : Nat => (i : Int)) := by
  unfold impl_indices.f
  have h := (loop_fold (fun k i xs => impl_indices.l0 k xs n i) n 0 (by omega) (fun i xs => xs.length = i) (fun xs i => xs ++ [(i : Int)]) (fun xs => some xs)
    (fun k i s _ hi hp => by
      simp only [impl_indices.l0]
      rw [if_pos (by omega), if_pos (by omega)])
    (fun i s _ hp => by simp [hp])
    (fun k s _ hp => by
      simp only [impl_indices.l0]
      rw [if_neg (by omega)]) k [] rfl (by omega)).1
  rw [h]
  have key : ∀ (is : List Nat) (acc : List Int), is.foldl (fun (xs : List Int) (i : Nat) => xs ++ [(i : Int)]) acc = acc ++ is.map (fun i : Nat => (i : Int)) := by
    intro is
    induction is with
    | nil => intro acc; simp
    | cons i is ih => intro acc; simp [ih]
  rw [key]
  rfl
/-- The key the lengths are sorted by. -/
def lnKey (l : List Int) (x : Int) : Int := - (l.getD x.toNat 0)
theorem long_sort (l : List Int) (s : Int) (hL : lensOk l s = true) (k : Nat) (hk : l.length * (l.length + 3) + 30 < k) :
    ∃ ys, slices_SortStableFunc_int_int.f k ((List.range l.length).map fun i : Nat => (i : Int)) l = some ys ∧ ys.Perm ((List.range l.length).map fun i : Nat => (i : Int)) ∧ UptoL (lnKey l) ys l.length := by
  obtain ⟨⟨hs, hl⟩, hok⟩ := lensOk_iff.1 hL
  unfold slices_SortStableFunc_int_int.f slices_stableCmpFunc_int.f
  have hlen : ((List.range l.length).map fun i : Nat => (i : Int)).length = l.length := by simp
  obtain ⟨k, rfl⟩ : ∃ m, k = m + 1 + 1 := ⟨k - 2, by omega⟩
  have main : ∃ ys, slices_insertionSortCmpFunc_int.f (k + 1) ((List.range l.length).map fun i : Nat => (i : Int)) 0 l.length l = some ys ∧ ys.Perm ((List.range l.length).map fun i : Nat => (i : Int)) ∧ UptoL (lnKey l) ys l.length := by
    unfold slices_insertionSortCmpFunc_int.f
    rw [w64 (n := 0 + 1) (by omega) (by omega)]
    by_cases h0 : l.length = 0
    · refine ⟨_, ?_, List.Perm.refl _, fun a b _ hb => by omega⟩
      simp only [slices_insertionSortCmpFunc_int.l0]
      rw [if_neg (by omega)]
    · have rdm : ∀ (xs : List Int) (j : Nat), xs.length = l.length → j < l.length → (∀ x ∈ xs, 0 ≤ x ∧ x < (l.length : Int)) → 0 ≤ xs.getD j 0 ∧ xs.getD j 0 < (l.length : Int) := by
        intro xs j hxl hj hV
        exact hV _ (by simp [List.getD_eq_getElem?_getD, show j < xs.length by omega])
      have h := insertion_st (fun k xs i => slices_insertionSortCmpFunc_int.l0 k xs 0 l.length i l) (fun k xs i j => slices_insertionSortCmpFunc_int.l1 k xs 0 l.length i j l) (lnKey l) l.length (fun xs => ∀ x ∈ xs, 0 ≤ x ∧ x < (l.length : Int))
        (fun k xs i hi hxl hV => by
          simp only [slices_insertionSortCmpFunc_int.l0]
          rw [if_pos (by omega)])
        (fun k xs hxl hV => by
          simp only [slices_insertionSortCmpFunc_int.l0]
          rw [if_neg (by omega)])
        (fun k xs i j hj hji hi hxl hV => by
          have a1 := rdm xs j hxl (by omega) hV
          have a0 := rdm xs (j - 1) hxl (by omega) hV
          have ej : wrap64 ((j : Int) - 1) = ((j - 1 : Nat) : Int) := by rw [w64 (by omega) (by omega)]; omega
          simp only [slices_insertionSortCmpFunc_int.l1, ej]
          rw [if_pos (by omega), if_pos (by omega), if_pos (by omega), if_pos (by omega), if_pos (by omega), rd_nat, rd_nat]
          simp only [impl_LongFirst_1.f]
          rw [if_pos a0.1, if_pos a0.2, if_pos a1.1, if_pos a1.2]
          simp only [Option.bind_some]
          obtain ⟨p, hp⟩ : ∃ p : Nat, xs.getD j 0 = (p : Int) := ⟨(xs.getD j 0).toNat, by omega⟩
          obtain ⟨q, hq⟩ : ∃ q : Nat, xs.getD (j - 1) 0 = (q : Int) := ⟨(xs.getD (j - 1) 0).toNat, by omega⟩
          have hpl : p < l.length := by omega
          have hql : q < l.length := by omega
          have fp := hok (l.getD p 0) (by simp [List.getD_eq_getElem?_getD, hpl])
          have fq := hok (l.getD q 0) (by simp [List.getD_eq_getElem?_getD, hql])
          have hc : (wrap64 (rd l (xs.getD (j - 1) 0) - rd l (xs.getD j 0)) < 0) ↔ lnKey l (xs.getD j 0) < lnKey l (xs.getD (j - 1) 0) := by
            rw [hp, hq, rd_nat, rd_nat, w64 (by omega) (by omega)]
            unfold lnKey
            rw [Int.toNat_natCast, Int.toNat_natCast]
            omega
          by_cases c : lnKey l (xs.getD j 0) < lnKey l (xs.getD (j - 1) 0)
          · rw [if_pos (hc.2 c), if_pos c, Int.toNat_natCast, Int.toNat_natCast]
            rfl
          · rw [if_neg (fun h => c (hc.1 h)), if_neg c, w64 (by omega) (by omega)]
            rfl)
        (fun k xs i hi hxl hV => by
          simp only [slices_insertionSortCmpFunc_int.l1]
          rw [if_neg (by omega), w64 (by omega) (by omega)]
          rfl)
        (fun xs ys hV hp x hx => hV x (hp.mem_iff.1 hx))
      have e2 : (l.length - 1) * (l.length + 3) ≤ l.length * (l.length + 3) := Nat.mul_le_mul_right _ (by omega)
      have hget : ∀ a : Nat, a < l.length → ((List.range l.length).map fun i : Nat => (i : Int)).getD a 0 = (a : Int) := by
        intro a ha
        simp [List.getD_eq_getElem?_getD, ha]
      obtain ⟨ys, e, p, u⟩ := h (l.length - 1) (k + 1) 1 ((List.range l.length).map fun i : Nat => (i : Int)) (by omega) (by omega) hlen (fun x hx => by
        obtain ⟨i, hi, rfl⟩ := List.mem_map.1 hx
        have := List.mem_range.1 hi
        omega) (fun a b hab hb => by omega) (fun a b hab hb hbn => by
        rw [hget a (by omega), hget b hbn]
        omega)
      exact ⟨ys, e, p, u⟩
  obtain ⟨ys, e, p, u⟩ := main
  refine ⟨ys, ?_, p, u⟩
  rw [hlen]
  simp only [slices_stableCmpFunc_int.l0]
  rw [if_neg (by omega), e]
  simp only [Option.bind_some, slices_stableCmpFunc_int.l1]
  rw [if_neg (by omega)]
  rfl
theorem near_swap (key : Int → Int) (xs : List Int) (i j : Nat) (hji : j + 1 ≤ i) (hi : i < xs.length) (hn : NearL key xs i (j + 1)) (ht : TopL xs i (j + 1)) (c : key (xs.getD (j + 1) 0) < key (xs.getD j 0)) : NearL key (swp xs (j + 1)) i j ∧ TopL (swp xs (j + 1)) i j := by
  have hg := fun a => swp_get xs (j + 1) (by omega) (by omega) a
  simp only [Nat.add_sub_cancel] at hg
  refine ⟨fun a b hab hb hbj => ?_, fun a ha haj => ?_⟩
  · rw [hg a, hg b]
    by_cases eb : b = j + 1
    · subst eb
      rw [if_neg (c := j + 1 = j) (by omega), if_pos (c := j + 1 = j + 1) rfl]
      by_cases ea : a = j
      · rw [if_pos ea]
        exact .inl c
      · rw [if_neg ea, if_neg (c := a = j + 1) (by omega)]
        exact hn a j (by omega) (by omega) (by omega)
    · rw [if_neg (c := b = j) hbj, if_neg (c := b = j + 1) eb]
      by_cases ea : a = j
      · rw [if_pos ea]
        exact hn (j + 1) b (by omega) hb eb
      · rw [if_neg ea]
        by_cases ea2 : a = j + 1
        · rw [if_pos ea2]
          exact hn j b (by omega) hb eb
        · rw [if_neg ea2]
          exact hn a b hab hb eb
  · rw [hg a, hg j, if_pos (c := j = j) rfl, if_neg haj]
    by_cases ea : a = j + 1
    · rw [if_pos ea]
      exact ht j (by omega) (by omega)
    · rw [if_neg ea]
      exact ht a ha ea
theorem near_stop (key : Int → Int) (xs : List Int) (i j : Nat) (hji : j + 1 ≤ i) (hn : NearL key xs i (j + 1)) (ht : TopL xs i (j + 1)) (c : ¬ key (xs.getD (j + 1) 0) < key (xs.getD j 0)) : UptoL key xs (i + 1) := by
  intro a b hab hb
  by_cases eb : b = j + 1
  · subst eb
    have hj := ht j (by omega) (by omega)
    by_cases ea : a = j
    · subst ea
      unfold Lex
      omega
    · have := hn a j (by omega) (by omega) (by omega)
      unfold Lex at this ⊢
      omega
  · exact hn a b hab (by omega) eb
/-- The reference's shift of greater ones. -/
theorem shift_loop (l : List Int) (s : Int) (hL : lensOk l s = true) (c : Nat) (hc : c < l.length) : ∀ (j k : Nat) (xs vs : List Int), xs.length = c + 1 → vs = xs.set j c → j ≤ c → j + 1 < k → (∀ x ∈ vs, 0 ≤ x ∧ x < (l.length : Int)) → NearL (lnKey l) vs c j → TopL vs c j → ∃ ys k', k - j - 1 ≤ k' ∧ spec_LongFirst.l1 k l s xs c j = spec_LongFirst.l0 k' l s ys ((c + 1 : Nat) : Int) ∧ ys.Perm vs ∧ UptoL (lnKey l) ys (c + 1) := by
  obtain ⟨⟨hs, hl⟩, hok⟩ := lensOk_iff.1 hL
  intro j
  induction j with
  | zero =>
    intro k xs vs hx hvs hj hk hv hn ht
    obtain ⟨k, rfl⟩ : ∃ m, k = m + 1 := ⟨k - 1, by omega⟩
    refine ⟨vs, k, by omega, ?_, List.Perm.refl _, fun a b hab hb => hn a b hab (by omega) (by omega)⟩
    rw [spec_LongFirst.l1, if_neg (by omega), if_pos (by omega), if_pos (by omega), w64 (by omega) (by omega), hvs]
    rfl
  | succ j ih =>
    intro k xs vs hx hvs hj hk hv hn ht
    obtain ⟨k, rfl⟩ : ∃ m, k = m + 1 := ⟨k - 1, by omega⟩
    have ej : wrap64 (((j + 1 : Nat) : Int) - 1) = (j : Int) := by rw [w64 (by omega) (by omega)]; omega
    have hvl : vs.length = c + 1 := by rw [hvs, List.length_set, hx]
    have g1 : vs.getD (j + 1) 0 = c := by
      rw [hvs]
      simp [List.getD_eq_getElem?_getD, show j + 1 < xs.length by omega]
    have g0 : vs.getD j 0 = xs.getD j 0 := by
      rw [hvs, List.getD_eq_getElem?_getD, List.getElem?_set, if_neg (by omega), ← List.getD_eq_getElem?_getD]
    have hm : vs.getD j 0 ∈ vs := by simp [List.getD_eq_getElem?_getD, show j < vs.length by omega]
    have hb := hv _ hm
    rw [g0] at hb
    obtain ⟨q, hq⟩ : ∃ q : Nat, xs.getD j 0 = (q : Int) := ⟨(xs.getD j 0).toNat, by omega⟩
    have hql : q < l.length := by omega
    have hkey : (l.getD q 0 < l.getD c 0) ↔ lnKey l (vs.getD (j + 1) 0) < lnKey l (vs.getD j 0) := by
      rw [g1, g0, hq]
      unfold lnKey
      rw [Int.toNat_natCast, Int.toNat_natCast]
      omega
    rw [spec_LongFirst.l1, if_pos (by omega), ej, if_pos (by omega), if_pos (by omega), rd_nat xs j, hq, if_pos (by omega), if_pos (by omega), if_pos (by omega), if_pos (by omega), rd_nat, rd_nat]
    by_cases cc : l.getD q 0 < l.getD c 0
    · rw [if_pos cc, if_pos (by omega), if_pos (by omega), Int.toNat_natCast]
      obtain ⟨n1, t1⟩ := near_swap (lnKey l) vs c j hj (by omega) hn ht (hkey.1 cc)
      have hsw : swp vs (j + 1) = (xs.set (j + 1) (q : Int)).set j (c : Int) := by
        unfold swp
        rw [Nat.add_sub_cancel, g1, g0, hq, hvs, List.set_set]
      have hp := swp_perm vs (j + 1) (by omega) (by omega)
      obtain ⟨ys, k', hk', e, p, u⟩ := ih k (xs.set (j + 1) (q : Int)) (swp vs (j + 1)) (by simp [hx]) hsw (by omega) (by omega) (fun x hx => hv x (hp.mem_iff.1 hx)) n1 t1
      exact ⟨ys, k', by omega, e, p.trans hp, u⟩
    · rw [if_neg cc, if_pos (by omega), if_pos (by omega), Int.toNat_natCast, w64 (by omega) (by omega), ← hvs]
      exact ⟨vs, k, by omega, rfl, List.Perm.refl _, near_stop (lnKey l) vs c j hj hn ht (fun h => cc (hkey.2 h))⟩
theorem long_spec (l : List Int) (s : Int) (hL : lensOk l s = true) : ∀ (d k c : Nat) (xs : List Int), c + d = l.length → d * (l.length + 5) + l.length + 20 < k → xs.Perm ((List.range c).map fun i : Nat => (i : Int)) → UptoL (lnKey l) xs c → ∃ ys, spec_LongFirst.l0 k l s xs c = some ys ∧ ys.Perm ((List.range l.length).map fun i : Nat => (i : Int)) ∧ UptoL (lnKey l) ys l.length := by
  obtain ⟨⟨hs, hl⟩, hok⟩ := lensOk_iff.1 hL
  intro d
  induction d with
  | zero =>
    intro k c xs hc hk hp hu
    obtain ⟨k, rfl⟩ : ∃ m, k = m + 1 + 1 := ⟨k - 2, by omega⟩
    have : c = l.length := by omega
    subst this
    refine ⟨xs, ?_, hp, hu⟩
    rw [spec_LongFirst.l0, if_neg (by omega), spec_LongFirst.j1, if_neg (by simp)]
  | succ d ih =>
    intro k c xs hc hk hp hu
    have hmul : (d + 1) * (l.length + 5) = d * (l.length + 5) + (l.length + 5) := Nat.succ_mul _ _
    obtain ⟨k, rfl⟩ : ∃ m, k = m + 1 + 1 := ⟨k - 2, by omega⟩
    have hxl : xs.length = c := by rw [hp.length_eq]; simp
    have hmem : ∀ x ∈ xs, 0 ≤ x ∧ x < (c : Int) := by
      intro x hx
      obtain ⟨i, hi, rfl⟩ := List.mem_map.1 (hp.mem_iff.1 hx)
      have := List.mem_range.1 hi
      omega
    rw [spec_LongFirst.l0, if_pos (by omega), lens_spec l s (k + 1) (by omega) (by omega), hL]
    simp only [Option.bind_some]
    rw [spec_LongFirst.j1, if_pos rfl, if_pos (by omega), hxl]
    have gl : ∀ a : Nat, a < c → (xs ++ [(c : Int)]).getD a 0 = xs.getD a 0 := by
      intro a ha
      simp [List.getD_eq_getElem?_getD, List.getElem?_append_left (show a < xs.length by omega)]
    have gc : (xs ++ [(c : Int)]).getD c 0 = c := by
      simp [List.getD_eq_getElem?_getD, ← hxl]
    have hset : xs ++ [(c : Int)] = (xs ++ [(c : Int)]).set c (c : Int) := by
      apply List.ext_getElem?
      intro a
      rw [List.getElem?_set]
      by_cases e : c = a
      · subst e
        rw [if_pos rfl, if_pos (by simp; omega)]
        simp [← hxl]
      · rw [if_neg e]
    obtain ⟨ys, k', hk', e, p, u⟩ := shift_loop l s hL c (by omega) c k (xs ++ [(c : Int)]) (xs ++ [(c : Int)]) (by simp [hxl]) hset (Nat.le_refl _) (by omega) (fun x hx => by
      rcases List.mem_append.1 hx with h | h
      · have := hmem x h
        omega
      · have := List.mem_singleton.1 h
        omega) (fun a b hab hb hbc => by
      rw [gl a (by omega), gl b (by omega)]
      exact hu a b hab (by omega)) (fun a ha hac => by
      rw [gl a (by omega), gc]
      exact (hmem _ (by simp [List.getD_eq_getElem?_getD, show a < xs.length by omega])).2)
    rw [e]
    refine ih k' (c + 1) ys (by omega) (by omega) ?_ u
    rw [List.range_succ, List.map_append]
    exact p.trans (hp.append_right _)
/-- Both answer the same row. -/
theorem long_same (l : List Int) (s : Int) (hl : l.length ≤ 1000000000) (k : Nat) (hk : l.length + 1000 < k) : ∃ v, v.length ≤ 12 ∧ spec_LongFirst.f k l s = some v ∧ impl_LongFirst.f k l s = some v := by
  unfold spec_LongFirst.f impl_LongFirst.f
  rw [lens_impl]
  simp only [Option.bind_some]
  by_cases hL : lensOk l s = true
  · obtain ⟨⟨hs, hl12⟩, hok⟩ := lensOk_iff.1 hL
    rw [if_pos hL, indices_ok l.length k (by omega) (by omega)]
    simp only [Option.bind_some]
    have hb : l.length * (l.length + 3) ≤ 12 * 15 := Nat.mul_le_mul hl12 (by omega)
    have hb2 : l.length * (l.length + 5) ≤ 12 * 17 := Nat.mul_le_mul hl12 (by omega)
    obtain ⟨ys, e, p, u⟩ := long_sort l s hL k (by omega)
    obtain ⟨zs, e2, p2, u2⟩ := long_spec l s hL l.length k 0 [] (by omega) (by omega) (by simp) (fun a b _ hb => by omega)
    have hy : ys.length = l.length := by rw [p.length_eq]; simp
    have hz : zs.length = l.length := by rw [p2.length_eq]; simp
    have same : ys = zs := lex_unique (lnKey l) ys zs (p.trans p2.symm) (uptoL_pairwise _ ys (by rw [hy]; exact u)) (uptoL_pairwise _ zs (by rw [hz]; exact u2))
    rw [e]
    refine ⟨zs, by omega, e2, by rw [same]; rfl⟩
  · rw [if_neg hL]
    refine ⟨[], by simp, ?_, rfl⟩
    obtain ⟨k, rfl⟩ : ∃ m, k = m + 1 + 1 := ⟨k - 2, by omega⟩
    have hf : lensOk l s = false := Bool.eq_false_iff.2 hL
    rw [spec_LongFirst.l0]
    by_cases h0 : (0 : Int) < l.length
    · rw [if_pos h0, lens_spec l s (k + 1) (by omega) (by omega), hf]
      simp only [Option.bind_some]
      rw [spec_LongFirst.j1, if_neg (by simp)]
    · rw [if_neg h0, spec_LongFirst.j1, if_neg (by simp)]

end Go.Proofs.Ytcjbdbbnbhobbaa.Lem
