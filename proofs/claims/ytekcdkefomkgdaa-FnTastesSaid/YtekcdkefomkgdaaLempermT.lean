/- Plain lemmas on the printed functions: what they compute; conditions stand in each lemma. -/
import Derived.Test.YtekcdkefomkgdaaQx0
import Derived.Test.YtekcdkefomkgdaaQx4
import Derived.Test.YtekcdkefomkgdaaQx5
import Derived.Test.YtekcdkefomkgdaaQx6
import Derived.Test.YtekcdkefomkgdaaQx7
import Derived.Test.YtekcdkefomkgdaaQx8
import Derived.Test.YtekcdkefomkgdaaQx13
import Derived.Test.YtekcdkefomkgdaaQx14
import Derived.Test.YtekcdkefomkgdaaQx16
import Derived.Test.YtekcdkefomkgdaaQx20
import Derived.Test.YtekcdkefomkgdaaQx21
import Derived.Test.YtekcdkefomkgdaaQx22
import Derived.Test.YtekcdkefomkgdaaQx23
import Derived.Test.YtekcdkefomkgdaaQx24
import Derived.Test.YtekcdkefomkgdaaQx25
import Derived.Test.YtekcdkefomkgdaaQx26
import Derived.Laws.BitsLemmas
namespace Go.Proofs.Ytekcdkefomkgdaa.Lem
open Go.RowKit Go.Proofs.Ytekcdkefomkgdaa.Q Go.Proofs.YtekcdkefomkgdaaW.PrintWords Go.Proofs.YtekcdkefomkgdaaW.PrintLast Go.Proofs.YtekcdkefomkgdaaW.PrintMore
set_option linter.unusedVariables false
set_option linter.unusedSimpArgs false
-- LEM
theorem rd_nat (l : List Int) (i : Nat) : rd l (i : Int) = l.getD i 0 := by simp [rd]
theorem wf64 {n : Int} (h : (Lit.int .i64 n).wf = true) : -9223372036854775808 ≤ n ∧ n ≤ 9223372036854775807 := by
  simp only [Lit.wf, IntKind.min, IntKind.max, IntKind.signed, IntKind.bits, Bool.and_eq_true, decide_eq_true_eq, if_true] at h
  omega
theorem w64 {n : Int} (h : -9223372036854775808 ≤ n) (h2 : n ≤ 9223372036854775807) : wrap64 n = n := by
  unfold wrap64
  omega
theorem w64s {i : Int} {n : Nat} (h0 : 0 ≤ i) (h1 : i < (n : Int)) (hn : n ≤ 9223372036854775807) : wrap64 (i + 1) = i + 1 := by
  unfold wrap64
  omega
/-- A loop over places i .. n with a state, without a way out. -/
theorem run_fold {σ R : Type} (L : Nat → Int → σ → Option R) (n : Nat) (hn : n ≤ 9223372036854775807) (step : σ → Nat → σ) (fin : σ → Option R)
    (h1 : ∀ k (i : Nat) s, i < n → L (k + 1) i s = L k (wrap64 ((i : Int) + 1)) (step s i))
    (h2 : ∀ k s, L (k + 1) n s = fin s) :
    ∀ (d : Nat) (k : Nat) (i : Nat) (s : σ), i + d = n → d < k → L k i s = fin ((List.range' i d).foldl step s) := by
  intro d
  induction d with
  | zero =>
    intro k i s hd hk
    obtain ⟨k, rfl⟩ : ∃ m, k = m + 1 := ⟨k - 1, by omega⟩
    have : i = n := by omega
    subst this
    simpa using h2 k s
  | succ d ih =>
    intro k i s hd hk
    obtain ⟨k, rfl⟩ : ∃ m, k = m + 1 := ⟨k - 1, by omega⟩
    rw [h1 k i s (by omega), w64s (n := n) (by omega) (by omega) hn]
    have := ih k (i + 1) (step s i) (by omega) (by omega)
    rw [List.range'_succ, List.foldl_cons]
    simpa using this
/-- A loop over places i .. n with a state and a way out: 'none' of step: out with 'out'. -/
def foldX {σ R : Type} (step : σ → Nat → σ ⊕ R) (fin : σ → Option R) : List Nat → σ → Option R
  | [], s => fin s
  | i :: is, s => match step s i with
    | .inl s' => foldX step fin is s'
    | .inr r => some r
theorem run_foldX {σ R : Type} (L : Nat → Int → σ → Option R) (n : Nat) (hn : n ≤ 9223372036854775807) (step : σ → Nat → σ ⊕ R) (fin : σ → Option R)
    (h1 : ∀ k (i : Nat) s, i < n → L (k + 1) i s = match step s i with | .inl s' => L k (wrap64 ((i : Int) + 1)) s' | .inr r => some r)
    (h2 : ∀ k s, L (k + 1) n s = fin s) :
    ∀ (d : Nat) (k : Nat) (i : Nat) (s : σ), i + d = n → d < k → L k i s = foldX step fin (List.range' i d) s := by
  intro d
  induction d with
  | zero =>
    intro k i s hd hk
    obtain ⟨k, rfl⟩ : ∃ m, k = m + 1 := ⟨k - 1, by omega⟩
    have : i = n := by omega
    subst this
    simpa [foldX] using h2 k s
  | succ d ih =>
    intro k i s hd hk
    obtain ⟨k, rfl⟩ : ∃ m, k = m + 1 := ⟨k - 1, by omega⟩
    rw [h1 k i s (by omega), w64s (n := n) (by omega) (by omega) hn, List.range'_succ]
    simp only [foldX]
    cases hs : step s i with
    | inl s' => simpa using ih k (i + 1) s' (by omega) (by omega)
    | inr r => rfl
/-- A loop that only asks whether all places pass. -/
theorem run_all {R : Type} (L : Nat → Int → Option R) (n : Nat) (hn : n ≤ 9223372036854775807) (p : Nat → Bool) (no : R) (fin : Option R)
    (h1 : ∀ k (i : Nat), i < n → L (k + 1) i = if p i = true then L k (wrap64 ((i : Int) + 1)) else some no)
    (h2 : ∀ k, L (k + 1) n = fin) (k : Nat) (hk : n < k) : L k 0 = if (List.range n).all p then fin else some no := by
  have key : ∀ (d k i : Nat), i + d = n → d < k → L k i = if (List.range' i d).all p then fin else some no := by
    intro d
    induction d with
    | zero =>
      intro k i hd hk
      obtain ⟨k, rfl⟩ : ∃ m, k = m + 1 := ⟨k - 1, by omega⟩
      have : i = n := by omega
      subst this
      simpa using h2 k
    | succ d ih =>
      intro k i hd hk
      obtain ⟨k, rfl⟩ : ∃ m, k = m + 1 := ⟨k - 1, by omega⟩
      rw [h1 k i (by omega), w64s (n := n) (by omega) (by omega) hn, List.range'_succ, List.all_cons]
      by_cases hp : p i = true
      · have := ih k (i + 1) (by omega) (by omega)
        simp only [hp, if_true, Bool.true_and]
        simpa using this
      · simp [hp]
  have := key n k 0 (by omega) hk
  rw [List.range_eq_range']
  simpa using this
theorem all_range_getD {α : Type} (l : List α) (d : α) (p : α → Bool) : (List.range l.length).all (fun i => p (l.getD i d)) = l.all p := by
  rw [Bool.eq_iff_iff, List.all_eq_true, List.all_eq_true]
  constructor
  · intro h x hx
    obtain ⟨i, hi, rfl⟩ := List.mem_iff_getElem.1 hx
    have := h i (List.mem_range.2 hi)
    simpa [List.getD_eq_getElem?_getD, hi] using this
  · intro h i hi
    have hi' := List.mem_range.1 hi
    have := h l[i] (List.getElem_mem hi')
    simpa [List.getD_eq_getElem?_getD, hi'] using this
theorem foldl_range_getD {α σ : Type} (l : List α) (d : α) (f : σ → α → σ) (s : σ) : (List.range' 0 l.length).foldl (fun s i => f s (l.getD i d)) s = l.foldl f s := by
  have : l = (List.range' 0 l.length).map (fun i => l.getD i d) := by
    apply List.ext_getElem
    · simp
    · intro i h1 h2
      simp [List.getD_eq_getElem?_getD, h1]
  conv => rhs; rw [this, List.foldl_map]
/-- A loop that fills a row place by place. -/
theorem copy_loop {α : Type} (L : Nat → List α → Int → Option (List α)) (n : Nat) (hn : n ≤ 9223372036854775807) (v : Nat → α)
    (h1 : ∀ k (i : Nat) xs, i < n → xs.length = n → L (k + 1) xs i = L k (xs.set i (v i)) (wrap64 ((i : Int) + 1)))
    (h2 : ∀ k xs, xs.length = n → L (k + 1) xs n = some xs) (xs0 : List α) (hx : xs0.length = n) (k : Nat) (hk : n < k) : L k xs0 0 = some ((List.range n).map v) := by
  have key : ∀ (d k i : Nat) (xs : List α), i + d = n → d < k → xs.length = n → (∀ j, j < i → xs[j]? = some (v j)) → L k xs i = some ((List.range n).map v) := by
    intro d
    induction d with
    | zero =>
      intro k i xs hd hk hl hj
      obtain ⟨k, rfl⟩ : ∃ m, k = m + 1 := ⟨k - 1, by omega⟩
      have : i = n := by omega
      subst this
      rw [h2 k xs hl]
      congr 1
      apply List.ext_getElem?
      intro j
      by_cases h : j < i
      · rw [hj j h]
        simp [h]
      · rw [List.getElem?_eq_none (by omega), List.getElem?_eq_none (by simp; omega)]
    | succ d ih =>
      intro k i xs hd hk hl hj
      obtain ⟨k, rfl⟩ : ∃ m, k = m + 1 := ⟨k - 1, by omega⟩
      rw [h1 k i xs (by omega) hl, w64s (n := n) (by omega) (by omega) hn]
      have := ih k (i + 1) (xs.set i (v i)) (by omega) (by omega) (by simpa using hl) (fun j hj2 => by
        rw [List.getElem?_set]
        by_cases e : i = j
        · subst e
          simp; omega
        · rw [if_neg e]
          exact hj j (by omega))
      simpa using this
  exact key n k 0 xs0 (by omega) hk hx (fun j hj => by omega)
theorem map_range_getD {α β : Type} (l : List α) (d : α) (f : α → β) : (List.range l.length).map (fun i => f (l.getD i d)) = l.map f := by
  apply List.ext_getElem
  · simp
  · intro i h1 h2
    simp at h1
    simp [List.getD_eq_getElem?_getD, h1]
/-- A loop over the places 0 .. n with a state, what it calls wanting more than B rounds, and what holds of the state at each place. -/
theorem loop_fold {σ R : Type} (L : Nat → Int → σ → Option R) (n B : Nat) (hn : n ≤ 9223372036854775807) (P : Nat → σ → Prop) (step : σ → Nat → σ) (fin : σ → Option R)
    (h1 : ∀ k (i : Nat) s, B < k → i < n → P i s → L (k + 1) i s = L k (wrap64 ((i : Int) + 1)) (step s i))
    (hP : ∀ (i : Nat) s, i < n → P i s → P (i + 1) (step s i))
    (h2 : ∀ k s, B < k → P n s → L (k + 1) n s = fin s) (k : Nat) (s : σ) (h0 : P 0 s) (hk : n + B + 1 < k) :
    L k 0 s = fin ((List.range n).foldl step s) ∧ P n ((List.range n).foldl step s) := by
  have key : ∀ (d k i : Nat) (s : σ), i + d = n → d + B + 1 < k → P i s → L k i s = fin ((List.range' i d).foldl step s) ∧ P n ((List.range' i d).foldl step s) := by
    intro d
    induction d with
    | zero =>
      intro k i s hd hk hp
      obtain ⟨k, rfl⟩ : ∃ m, k = m + 1 := ⟨k - 1, by omega⟩
      have : i = n := by omega
      subst this
      exact ⟨by simpa using h2 k s (by omega) hp, by simpa using hp⟩
    | succ d ih =>
      intro k i s hd hk hp
      obtain ⟨k, rfl⟩ : ∃ m, k = m + 1 := ⟨k - 1, by omega⟩
      rw [h1 k i s (by omega) (by omega) hp, w64s (n := n) (by omega) (by omega) hn]
      have := ih k (i + 1) (step s i) (by omega) (by omega) (hP i s (by omega) hp)
      rw [List.range'_succ, List.foldl_cons]
      simpa using this
  have := key n k 0 s (by omega) (by omega) h0
  rw [List.range_eq_range']
  simpa using this
/-- The same without anything to hold of the state. -/
theorem loop_fold' {σ R : Type} (L : Nat → Int → σ → Option R) (n B : Nat) (hn : n ≤ 9223372036854775807) (step : σ → Nat → σ) (fin : σ → Option R)
    (h1 : ∀ k (i : Nat) s, B < k → i < n → L (k + 1) i s = L k (wrap64 ((i : Int) + 1)) (step s i))
    (h2 : ∀ k s, B < k → L (k + 1) n s = fin s) (k : Nat) (s : σ) (hk : n + B + 1 < k) :
    L k 0 s = fin ((List.range n).foldl step s) :=
  (loop_fold L n B hn (fun _ _ => True) step fin (fun k i s a b _ => h1 k i s a b) (fun _ _ _ _ => trivial) (fun k s a _ => h2 k s a) k s trivial hk).1
theorem foldl_range_getD' {α σ : Type} (l : List α) (d : α) (f : σ → α → σ) (s : σ) : (List.range l.length).foldl (fun s i => f s (l.getD i d)) s = l.foldl f s := by
  rw [List.range_eq_range']
  exact foldl_range_getD l d f s
/-- A loop with a way out. -/
theorem loop_foldX {σ R : Type} (L : Nat → Int → σ → Option R) (n B : Nat) (hn : n ≤ 9223372036854775807) (P : Nat → σ → Prop) (step : σ → Nat → σ ⊕ R) (fin : σ → Option R)
    (h1 : ∀ k (i : Nat) s, B < k → i < n → P i s → L (k + 1) i s = match step s i with | .inl s' => L k (wrap64 ((i : Int) + 1)) s' | .inr r => some r)
    (hP : ∀ (i : Nat) s s', i < n → P i s → step s i = .inl s' → P (i + 1) s')
    (h2 : ∀ k s, B < k → P n s → L (k + 1) n s = fin s) (k : Nat) (s : σ) (h0 : P 0 s) (hk : n + B + 1 < k) :
    L k 0 s = foldX step fin (List.range n) s := by
  have key : ∀ (d k i : Nat) (s : σ), i + d = n → d + B + 1 < k → P i s → L k i s = foldX step fin (List.range' i d) s := by
    intro d
    induction d with
    | zero =>
      intro k i s hd hk hp
      obtain ⟨k, rfl⟩ : ∃ m, k = m + 1 := ⟨k - 1, by omega⟩
      have : i = n := by omega
      subst this
      simpa [foldX] using h2 k s (by omega) hp
    | succ d ih =>
      intro k i s hd hk hp
      obtain ⟨k, rfl⟩ : ∃ m, k = m + 1 := ⟨k - 1, by omega⟩
      rw [h1 k i s (by omega) (by omega) hp, w64s (n := n) (by omega) (by omega) hn, List.range'_succ]
      simp only [foldX]
      cases hs : step s i with
      | inl s' => simpa using ih k (i + 1) s' (by omega) (by omega) (hP i s s' (by omega) hp hs)
      | inr r => rfl
  have := key n k 0 s (by omega) (by omega) h0
  rw [List.range_eq_range']
  simpa using this
/-- A loop that only asks whether all places pass. -/
theorem loop_all {R : Type} (L : Nat → Int → Option R) (n B : Nat) (hn : n ≤ 9223372036854775807) (p : Nat → Bool) (no : R) (fin : Option R)
    (h1 : ∀ k (i : Nat), B < k → i < n → L (k + 1) i = if p i = true then L k (wrap64 ((i : Int) + 1)) else some no)
    (h2 : ∀ k, B < k → L (k + 1) n = fin) (k : Nat) (hk : n + B + 1 < k) : L k 0 = if (List.range n).all p then fin else some no := by
  have key : ∀ (d k i : Nat), i + d = n → d + B + 1 < k → L k i = if (List.range' i d).all p then fin else some no := by
    intro d
    induction d with
    | zero =>
      intro k i hd hk
      obtain ⟨k, rfl⟩ : ∃ m, k = m + 1 := ⟨k - 1, by omega⟩
      have : i = n := by omega
      subst this
      simpa using h2 k (by omega)
    | succ d ih =>
      intro k i hd hk
      obtain ⟨k, rfl⟩ : ∃ m, k = m + 1 := ⟨k - 1, by omega⟩
      rw [h1 k i (by omega) (by omega), w64s (n := n) (by omega) (by omega) hn, List.range'_succ, List.all_cons]
      by_cases hp : p i = true
      · have := ih k (i + 1) (by omega) (by omega)
        simp only [hp, if_true, Bool.true_and]
        simpa using this
      · simp [hp]
  have := key n k 0 (by omega) hk
  rw [List.range_eq_range']
  simpa using this
/-- A loop from place i to n inside of a greater text: what it costs, and where it goes on. -/
theorem seg {σ R : Type} (L : Nat → Int → σ → Option R) (L' : Nat → σ → Option R) (n B : Nat) (C : Nat → Nat) (P : Nat → σ → Prop) (step : σ → Nat → σ)
    (h1 : ∀ k (i : Nat) s, B < k → i < n → P i s → L (k + C i) i s = L k ((i : Int) + 1) (step s i))
    (hP : ∀ (i : Nat) s, i < n → P i s → P (i + 1) (step s i))
    (h2 : ∀ k s, B < k → P n s → L (k + 1) n s = L' k s) :
    ∀ (d i k : Nat) (s : σ), i + d = n → B < k → P i s → L (k + 1 + ((List.range' i d).map C).sum) i s = L' k ((List.range' i d).foldl step s) ∧ P n ((List.range' i d).foldl step s) := by
  intro d
  induction d with
  | zero =>
    intro i k s hd hk hp
    have : i = n := by omega
    subst this
    exact ⟨by simpa using h2 k s hk hp, by simpa using hp⟩
  | succ d ih =>
    intro i k s hd hk hp
    rw [List.range'_succ, List.map_cons, List.sum_cons, List.foldl_cons]
    have e : k + 1 + (C i + ((List.range' (i + 1) d).map C).sum) = (k + 1 + ((List.range' (i + 1) d).map C).sum) + C i := by omega
    rw [e, h1 _ i s (by omega) (by omega) hp]
    have := ih (i + 1) k (step s i) (by omega) hk (hP i s (by omega) hp)
    simpa using this
theorem in_impl (a b c : Int) : impl_in.f a b c = some (decide (b ≤ a ∧ a ≤ c)) := by
  unfold impl_in.f
  by_cases h : b ≤ a <;> simp [h]
theorem rdL1 (l : List (List Int)) (i : Nat) : rd_L1 l (i : Int) = l.getD i [] := by simp [rd_L1]
/-- A set of small numbers as a number: x put into m. -/
def orN (m x : Nat) : Nat := if m / 2 ^ x % 2 = 1 then m else m + 2 ^ x
def pcN (m : Nat) : Nat := m % 2 + m / 2 % 2 + m / 4 % 2 + m / 8 % 2 + m / 16 % 2 + m / 32 % 2
theorem or_tab : ∀ (m : Fin 64) (x : Fin 6), Go.bits .or .i64 ((m.val : Nat) : Int) (shl .i64 1 ((x.val : Nat) : Int)) = ((orN m.val x.val : Nat) : Int) := by decide +kernel
theorem full_tab : ∀ (n : Fin 7), wrap64 (shl .i64 1 ((n.val : Nat) : Int) - 1) = ((2 ^ n.val - 1 : Nat) : Int) := by decide +kernel
theorem pc_tab : ∀ (m : Fin 64) (x : Fin 6), pcN (orN m.val x.val) = if m.val / 2 ^ x.val % 2 = 1 then pcN m.val else pcN m.val + 1 := by decide +kernel
theorem bit_tab : ∀ (m : Fin 64) (x y : Fin 6), orN m.val x.val / 2 ^ y.val % 2 = 1 ↔ (x = y ∨ m.val / 2 ^ y.val % 2 = 1) := by decide +kernel
theorem lt_tab : ∀ (n : Fin 7) (m : Fin 64) (x : Fin 6), x.val < n.val → m.val < 2 ^ n.val → orN m.val x.val < 2 ^ n.val := by decide +kernel
theorem pcfull_tab : ∀ (n : Fin 7) (m : Fin 64), m.val < 2 ^ n.val → (pcN m.val = n.val ↔ m.val = 2 ^ n.val - 1) := by decide +kernel
theorem fullbit_tab : ∀ (n : Fin 7) (x : Fin 6), x.val < n.val → (2 ^ n.val - 1) / 2 ^ x.val % 2 = 1 := by decide +kernel
theorem or_eq {m x : Nat} (hm : m < 64) (hx : x < 6) : Go.bits .or .i64 (m : Int) (shl .i64 1 (x : Int)) = ((orN m x : Nat) : Int) := or_tab ⟨m, hm⟩ ⟨x, hx⟩
theorem pc_or {m x : Nat} (hm : m < 64) (hx : x < 6) : pcN (orN m x) = if m / 2 ^ x % 2 = 1 then pcN m else pcN m + 1 := pc_tab ⟨m, hm⟩ ⟨x, hx⟩
theorem bit_or {m x y : Nat} (hm : m < 64) (hx : x < 6) (hy : y < 6) : orN m x / 2 ^ y % 2 = 1 ↔ (x = y ∨ m / 2 ^ y % 2 = 1) := by
  have := bit_tab ⟨m, hm⟩ ⟨x, hx⟩ ⟨y, hy⟩
  simpa using this
theorem or_lt {n m x : Nat} (hn : n < 7) (hm : m < 64) (hx : x < 6) (h1 : x < n) (h2 : m < 2 ^ n) : orN m x < 2 ^ n := lt_tab ⟨n, hn⟩ ⟨m, hm⟩ ⟨x, hx⟩ h1 h2
theorem pow_le64 {n : Nat} (hn : n < 7) : 2 ^ n ≤ 64 := by
  have : (2 : Nat) ^ n ≤ 2 ^ 6 := Nat.pow_le_pow_right (by omega) (by omega)
  simpa using this
theorem pc_full {n m : Nat} (hn : n < 7) (h : m < 2 ^ n) : pcN m = n ↔ m = 2 ^ n - 1 := pcfull_tab ⟨n, hn⟩ ⟨m, by have := pow_le64 hn; omega⟩ h
theorem full_bit {n x : Nat} (hn : n < 7) (hx : x < n) : (2 ^ n - 1) / 2 ^ x % 2 = 1 := fullbit_tab ⟨n, hn⟩ ⟨x, by omega⟩ hx
/-- The reference's check of a vote's rest, with the set so far. -/
def specW (n : Nat) : Nat → List Int → Bool
  | m, [] => decide (m = 2 ^ n - 1)
  | m, x :: xs => decide (0 ≤ x ∧ x ≤ (n : Int) - 1) && specW n (orN m x.toNat) xs
/-- The program's check of a vote's rest, with the elements so far. -/
def implW (n : Nat) : List Int → List Int → Bool
  | _, [] => true
  | pre, x :: xs => decide (0 ≤ x ∧ x ≤ (n : Int) - 1) && !decide (x ∈ pre) && implW n (pre ++ [x]) xs
theorem specW_small {n : Nat} (hn : n < 7) : ∀ (L : List Int) (m : Nat), m < 2 ^ n → pcN m + L.length < n → specW n m L = false := by
  intro L
  induction L with
  | nil =>
    intro m hm h
    unfold specW
    rw [decide_eq_false]
    intro e
    have := (pc_full hn hm).2 e
    simp at h
    omega
  | cons x L ih =>
    intro m hm h
    unfold specW
    by_cases c : 0 ≤ x ∧ x ≤ (n : Int) - 1
    · rw [decide_eq_true c, Bool.true_and]
      have h64 := pow_le64 hn
      have hx : x.toNat < 6 := by omega
      have hp := pc_or (m := m) (x := x.toNat) (by omega) hx
      refine ih _ (or_lt hn (by omega) hx (by omega) hm) ?_
      rw [hp]
      rw [List.length_cons] at h
      split <;> omega
    · rw [decide_eq_false c]
      rfl
theorem same_W {n : Nat} (hn : n < 7) : ∀ (L pre : List Int) (m : Nat), m < 2 ^ n → pcN m + L.length = n → (∀ y : Nat, y < n → (m / 2 ^ y % 2 = 1 ↔ (y : Int) ∈ pre)) → specW n m L = implW n pre L := by
  intro L
  induction L with
  | nil =>
    intro pre m hm h hb
    unfold specW implW
    rw [decide_eq_true]
    exact (pc_full hn hm).1 (by simpa using h)
  | cons x L ih =>
    intro pre m hm h hb
    unfold specW implW
    by_cases c : 0 ≤ x ∧ x ≤ (n : Int) - 1
    · rw [decide_eq_true c, Bool.true_and, Bool.true_and]
      have h64 := pow_le64 hn
      have hx : x.toNat < 6 := by omega
      have hxx : ((x.toNat : Nat) : Int) = x := by omega
      have hp := pc_or (m := m) (x := x.toNat) (by omega) hx
      have hlt := or_lt (m := m) (x := x.toNat) hn (by omega) hx (by omega) hm
      have hbx := hb x.toNat (by omega)
      rw [hxx] at hbx
      rw [List.length_cons] at h
      by_cases c2 : x ∈ pre
      · rw [decide_eq_true c2]
        simp only [Bool.not_true, Bool.false_and]
        refine specW_small hn L _ hlt ?_
        rw [hp, if_pos (hbx.2 c2)]
        omega
      · rw [decide_eq_false c2]
        simp only [Bool.not_false, Bool.true_and]
        refine ih _ _ hlt ?_ (fun y hy => ?_)
        · rw [hp, if_neg (fun hh => c2 (hbx.1 hh))]
          omega
        · rw [bit_or (by omega) hx (by omega), hb y hy, List.mem_append, List.mem_singleton]
          constructor
          · rintro (e | e)
            · right
              omega
            · exact .inl e
          · rintro (e | e)
            · exact .inr e
            · left
              omega
    · rw [decide_eq_false c]
      simp
theorem specW_mem {n : Nat} (hn : n < 7) : ∀ (L : List Int) (m : Nat), m < 2 ^ n → specW n m L = true → (∀ x ∈ L, 0 ≤ x ∧ x ≤ (n : Int) - 1) ∧ ∀ y : Nat, y < n → m / 2 ^ y % 2 = 1 ∨ (y : Int) ∈ L := by
  intro L
  induction L with
  | nil =>
    intro m hm h
    unfold specW at h
    have e := of_decide_eq_true h
    exact ⟨fun x hx => by simp at hx, fun y hy => .inl (by rw [e]; exact full_bit hn hy)⟩
  | cons x L ih =>
    intro m hm h
    unfold specW at h
    rw [Bool.and_eq_true] at h
    have c := of_decide_eq_true h.1
    have h64 := pow_le64 hn
    have hx : x.toNat < 6 := by omega
    obtain ⟨h1, h2⟩ := ih _ (or_lt hn (by omega) hx (by omega) hm) h.2
    refine ⟨fun z hz => ?_, fun y hy => ?_⟩
    · rcases List.mem_cons.1 hz with e | e
      · subst e; exact c
      · exact h1 z e
    · rcases h2 y hy with e | e
      · rw [bit_or (by omega) hx (by omega)] at e
        rcases e with e | e
        · right
          rw [List.mem_cons]
          left
          omega
        · exact .inl e
      · exact .inr (List.mem_cons_of_mem _ e)
/-- A vote of the n breads. -/
def voteOk (n : Nat) (v : List Int) : Bool := decide (v.length = n) && specW n 0 v
theorem index_ok (l : List Int) (a : Int) (k : Nat) (hl : l.length ≤ 9223372036854775807) (hk : l.length < k) : slices_Index_int_int.f k l a = some (if a ∈ l then (l.idxOf a : Int) else -1) := by
  unfold slices_Index_int_int.f
  have key : ∀ (d k i : Nat), i + d = l.length → d < k → slices_Index_int_int.l0 k l a l.length i = some (if a ∈ l.drop i then (i : Int) + ((l.drop i).idxOf a : Nat) else -1) := by
    intro d
    induction d with
    | zero =>
      intro k i hi hk
      obtain ⟨k, rfl⟩ : ∃ m, k = m + 1 := ⟨k - 1, by omega⟩
      have : i = l.length := by omega
      subst this
      rw [slices_Index_int_int.l0, if_neg (by omega)]
      simp
    | succ d ih =>
      intro k i hi hk
      obtain ⟨k, rfl⟩ : ∃ m, k = m + 1 := ⟨k - 1, by omega⟩
      have hil : i < l.length := by omega
      rw [slices_Index_int_int.l0, if_pos (by omega), if_pos (by omega), if_pos (by omega), rd_nat, List.drop_eq_getElem_cons hil]
      have e : l.getD i 0 = l[i] := by simp [List.getD_eq_getElem?_getD, hil]
      rw [e]
      by_cases c : a = l[i]
      · rw [if_pos c, ← c, if_pos List.mem_cons_self, List.idxOf_cons_self]
        simp
      · rw [if_neg c, w64 (n := (i : Int) + 1) (by omega) (by omega)]
        have e2 : (i : Int) + 1 = ((i + 1 : Nat) : Int) := by omega
        rw [e2, ih k (i + 1) (by omega) (by omega)]
        by_cases c2 : a ∈ l.drop (i + 1)
        · have hne : (l[i] == a) = false := beq_eq_false_iff_ne.2 (fun h => c h.symm)
          rw [if_pos c2, if_pos (List.mem_cons_of_mem _ c2), List.idxOf_cons, hne]
          simp only [cond_false]
          congr 1
          omega
        · rw [if_neg c2, if_neg]
          intro h
          rcases List.mem_cons.1 h with h | h
          · exact c h
          · exact c2 h
  have := key l.length k 0 (by omega) hk
  simpa using this
theorem contains_ok (l : List Int) (a : Int) (k : Nat) (hl : l.length ≤ 9223372036854775807) (hk : l.length < k) : slices_Contains_int_int.f k l a = some (decide (a ∈ l)) := by
  unfold slices_Contains_int_int.f
  rw [index_ok l a k hl hk]
  simp only [Option.bind_some]
  by_cases c : a ∈ l
  · rw [if_pos c, decide_eq_true c, decide_eq_true (by omega)]
  · rw [if_neg c, decide_eq_false c, decide_eq_false (by omega)]
theorem order_ok (v : List Int) (n : Nat) (hn : 1 ≤ n ∧ n < 7) (k : Nat) (hv : v.length ≤ 1000000000) (hk : 2 * v.length + 2 < k) : impl_isOrder.f k v n = some (voteOk n v) := by
  unfold impl_isOrder.f
  have key : ∀ (d k i : Nat), i + d = v.length → d + v.length + 1 < k → impl_isOrder.l0 k v n v v.length i = some (implW n (v.take i) (v.drop i) && decide (v.length = n)) := by
    intro d
    induction d with
    | zero =>
      intro k i hi hk
      obtain ⟨k, rfl⟩ : ∃ m, k = m + 1 := ⟨k - 1, by omega⟩
      have : i = v.length := by omega
      subst this
      rw [impl_isOrder.l0, if_neg (by omega), List.drop_length]
      unfold implW
      rw [Bool.true_and]
      congr 1
      rw [Bool.eq_iff_iff, beq_iff_eq, decide_eq_true_iff]
      omega
    | succ d ih =>
      intro k i hi hk
      obtain ⟨k, rfl⟩ : ∃ m, k = m + 1 := ⟨k - 1, by omega⟩
      have hil : i < v.length := by omega
      have e : v.getD i 0 = v[i] := by simp [List.getD_eq_getElem?_getD, hil]
      have hw : wrap64 ((n : Int) - 1) = (n : Int) - 1 := w64 (by omega) (by omega)
      rw [impl_isOrder.l0, if_pos (by omega), if_pos (by omega), if_pos (by omega), rd_nat, e, hw, in_impl, List.drop_eq_getElem_cons hil]
      simp only [Option.bind_some]
      conv => rhs; unfold implW
      by_cases c : 0 ≤ v[i] ∧ v[i] ≤ (n : Int) - 1
      · rw [decide_eq_true c, if_pos rfl, if_pos (by omega), Int.toNat_natCast, contains_ok _ _ k (by simp; omega) (by simp; omega)]
        simp only [Option.bind_some, Bool.true_and]
        by_cases c2 : v[i] ∈ v.take i
        · rw [decide_eq_true c2, if_pos rfl]
          simp
        · rw [decide_eq_false c2, if_neg (by simp), w64 (n := (i : Int) + 1) (by omega) (by omega)]
          have e2 : (i : Int) + 1 = ((i + 1 : Nat) : Int) := by omega
          rw [e2, ih k (i + 1) (by omega) (by omega), List.take_succ_eq_append_getElem hil]
          simp
      · rw [decide_eq_false c, if_neg (by simp)]
        simp
  have e0 := key v.length k 0 (by omega) (by omega)
  have e1 : ((0 : Nat) : Int) = 0 := rfl
  rw [e1] at e0
  rw [e0]
  congr 1
  unfold voteOk
  by_cases c : v.length = n
  · rw [decide_eq_true c, Bool.and_true, Bool.true_and]
    have := same_W (n := n) (by omega) v [] 0 (Nat.pos_of_ne_zero (by simp)) (by rw [← c]; simp [pcN]) (fun y hy => by simp)
    rw [this]
    simp
  · rw [decide_eq_false c]
    simp
def votesOk (l : List (List Int)) (n : Int) : Bool := decide ((1 ≤ n ∧ n ≤ 6) ∧ 1 ≤ l.length ∧ l.length ≤ 15) && l.all (voteOk n.toNat)
theorem votesOk_iff {l : List (List Int)} {n : Int} : votesOk l n = true ↔ ((1 ≤ n ∧ n ≤ 6) ∧ 1 ≤ l.length ∧ l.length ≤ 15) ∧ ∀ v ∈ l, voteOk n.toNat v = true := by simp [votesOk, List.all_eq_true]
theorem votes_impl (l : List (List Int)) (n : Int) (B k : Nat) (hl : l.length ≤ 1000000000) (hv : ∀ v ∈ l, v.length ≤ B) (hB : B ≤ 1000000000) (hk : 2 * B + 10 < k) : impl_VotesOk.f k l n = some (votesOk l n) := by
  unfold impl_VotesOk.f
  simp only [in_impl, Option.bind_some]
  unfold votesOk
  by_cases h1 : 1 ≤ n ∧ n ≤ 6
  · rw [decide_eq_true h1, if_pos rfl]
    by_cases h2 : (1 : Int) ≤ l.length ∧ (l.length : Int) ≤ 15
    · rw [decide_eq_true h2, if_pos rfl]
      have h3 : (1 ≤ n ∧ n ≤ 6) ∧ 1 ≤ l.length ∧ l.length ≤ 15 := ⟨h1, by omega, by omega⟩
      rw [decide_eq_true h3, Bool.true_and]
      obtain ⟨N, rfl⟩ : ∃ N : Nat, n = N := ⟨n.toNat, by omega⟩
      rw [Int.toNat_natCast]
      have ho : ∀ v ∈ l, impl_isOrder.f k v N = some (voteOk N v) := fun v hv2 => by
        have := hv v hv2
        exact order_ok v N (by omega) k (by omega) (by omega)
      unfold impl_VotesOk.all
      have ha : l.all (fun v => (impl_isOrder.f k v N).isSome) = true := by
        rw [List.all_eq_true]
        intro v hv2
        rw [ho v hv2]
        rfl
      rw [if_pos ha]
      congr 1
      rw [Bool.eq_iff_iff, List.all_eq_true, List.all_eq_true]
      constructor
      · intro h v hv2
        have := of_decide_eq_true (h v hv2)
        rw [ho v hv2] at this
        exact Option.some.inj this
      · intro h v hv2
        rw [ho v hv2, h v hv2]
        simp
    · rw [decide_eq_false h2, if_neg (by simp)]
      have h3 : ¬ ((1 ≤ n ∧ n ≤ 6) ∧ 1 ≤ l.length ∧ l.length ≤ 15) := fun h => h2 (by omega)
      rw [decide_eq_false h3]
      simp
  · rw [decide_eq_false h1, if_neg (by simp)]
    have h3 : ¬ ((1 ≤ n ∧ n ≤ 6) ∧ 1 ≤ l.length ∧ l.length ≤ 15) := fun h => h1 h.1
    rw [decide_eq_false h3]
    simp
/-- Whether a comes ahead of b. -/
def firstA (a b : Int) : List Int → Bool
  | [] => false
  | x :: xs => if x = a then true else if x = b then false else firstA a b xs
theorem first_idx {a b : Int} (hab : a ≠ b) : ∀ (L : List Int), b ∈ L → firstA a b L = decide (L.idxOf a < L.idxOf b) := by
  intro L
  induction L with
  | nil => intro h; simp at h
  | cons x L ih =>
    intro h
    unfold firstA
    by_cases c1 : x = a
    · have h1 : (x == a) = true := by simp [c1]
      have h2 : (x == b) = false := beq_eq_false_iff_ne.2 (fun e => hab (c1.symm.trans e))
      rw [if_pos c1, List.idxOf_cons, List.idxOf_cons, h1, h2]
      simp
    · have h1 : (x == a) = false := beq_eq_false_iff_ne.2 c1
      by_cases c2 : x = b
      · have h2 : (x == b) = true := by simp [c2]
        rw [if_neg c1, if_pos c2, List.idxOf_cons, List.idxOf_cons, h1, h2]
        simp
      · have h2 : (x == b) = false := beq_eq_false_iff_ne.2 c2
        have hb : b ∈ L := by
          rcases List.mem_cons.1 h with e | e
          · exact absurd e.symm c2
          · exact e
        rw [if_neg c1, if_neg c2, List.idxOf_cons, List.idxOf_cons, h1, h2, ih hb]
        simp
theorem voteOk_mem {n : Nat} (hn : n < 7) {v : List Int} (h : voteOk n v = true) : v.length = n ∧ (∀ x ∈ v, 0 ≤ x ∧ x ≤ (n : Int) - 1) ∧ ∀ x : Int, 0 ≤ x → x < n → x ∈ v := by
  unfold voteOk at h
  rw [Bool.and_eq_true] at h
  obtain ⟨h1, h2⟩ := specW_mem hn v 0 (Nat.pos_of_ne_zero (by simp)) h.2
  refine ⟨of_decide_eq_true h.1, h1, fun x h0 hx => ?_⟩
  rcases h2 x.toNat (by omega) with e | e
  · simp at e
  · have : ((x.toNat : Nat) : Int) = x := by omega
    rw [this] at e
    exact e
def prefC (a b : Int) (l : List (List Int)) : Int := (l.countP (firstA a b) : Int)
theorem prefs_impl (l : List (List Int)) (n : Nat) (a b : Int) (hab : a ≠ b) (hl : l.length ≤ 15) (hn : n < 7) (hv : ∀ v ∈ l, v.length = n ∧ a ∈ v ∧ b ∈ v) (k : Nat) (hk : 60 < k) : impl_prefers.f k l a b = some (prefC a b l) := by
  unfold impl_prefers.f
  have key : ∀ (d k i : Nat) (c : Int), i + d = l.length → d + 10 < k → 0 ≤ c ∧ c ≤ i → impl_prefers.l0 k a b c l l.length i = some (c + prefC a b (l.drop i)) := by
    intro d
    induction d with
    | zero =>
      intro k i c hi hk hc
      obtain ⟨k, rfl⟩ : ∃ m, k = m + 1 := ⟨k - 1, by omega⟩
      have e : l.drop i = [] := List.drop_eq_nil_iff.2 (by omega)
      rw [impl_prefers.l0, if_neg (by omega), e]
      simp [prefC]
    | succ d ih =>
      intro k i c hi hk hc
      obtain ⟨k, rfl⟩ : ∃ m, k = m + 1 := ⟨k - 1, by omega⟩
      have hil : i < l.length := by omega
      have e : l.getD i [] = l[i] := by simp [List.getD_eq_getElem?_getD, hil]
      obtain ⟨h1, h2, h3⟩ := hv l[i] (List.getElem_mem hil)
      rw [impl_prefers.l0, if_pos (by omega), if_pos (by omega), if_pos (by omega), rdL1, e, index_ok _ a k (by omega) (by omega), index_ok _ b k (by omega) (by omega), if_pos h2, if_pos h3]
      simp only [Option.bind_some]
      rw [List.drop_eq_getElem_cons hil]
      have hf := first_idx hab l[i] h3
      unfold prefC
      rw [List.countP_cons, hf, w64 (n := (i : Int) + 1) (by omega) (by omega)]
      have e2 : (i : Int) + 1 = ((i + 1 : Nat) : Int) := by omega
      rw [e2]
      by_cases cc : l[i].idxOf a < l[i].idxOf b
      · rw [if_pos (by omega), w64 (by omega) (by omega), ih k (i + 1) (c + 1) (by omega) (by omega) (by omega), decide_eq_true cc, if_pos rfl]
        unfold prefC
        congr 1
        omega
      · rw [if_neg (by omega), ih k (i + 1) c (by omega) (by omega) (by omega), decide_eq_false cc, if_neg (by simp)]
        unfold prefC
        congr 1
  have := key l.length k 0 0 (by omega) (by omega) (by omega)
  simpa using this
def prefers (l : List (List Int)) (n a b : Int) : Int := if votesOk l n = true ∧ (0 ≤ a ∧ a ≤ n - 1) ∧ (0 ≤ b ∧ b ≤ n - 1) ∧ a ≠ b then prefC a b l else -1
theorem prefers_impl (l : List (List Int)) (n a b : Int) (B k : Nat) (hl : l.length ≤ 1000000000) (hv : ∀ v ∈ l, v.length ≤ B) (hB : B ≤ 1000000000) (hk : 15 * (B + 3) + 500 < k) : impl_Prefers.f k l n a b = some (prefers l n a b) := by
  unfold impl_Prefers.f
  rw [votes_impl l n B k hl hv hB (by omega)]
  simp only [in_impl, Option.bind_some]
  unfold prefers
  by_cases h : votesOk l n = true
  · obtain ⟨⟨h1, h2, h3⟩, h4⟩ := votesOk_iff.1 h
    rw [if_pos h, w64 (n := n - 1) (by omega) (by omega)]
    by_cases ha : 0 ≤ a ∧ a ≤ n - 1
    · rw [decide_eq_true ha, if_pos rfl]
      by_cases hb : 0 ≤ b ∧ b ≤ n - 1
      · rw [decide_eq_true hb, if_pos rfl]
        by_cases hab : a = b
        · rw [if_pos hab, if_neg (fun hh => hh.2.2.2 hab)]
        · rw [if_neg hab, if_pos ⟨h, ha, hb, hab⟩]
          obtain ⟨N, rfl⟩ : ∃ N : Nat, n = N := ⟨n.toNat, by omega⟩
          rw [prefs_impl l N a b hab h3 (by omega) (fun v hv2 => by
            obtain ⟨m1, m2, m3⟩ := voteOk_mem (n := (N : Int).toNat) (by omega) (h4 v hv2)
            exact ⟨by rw [m1]; rfl, m3 a ha.1 (by omega), m3 b hb.1 (by omega)⟩) k (by omega)]
          rfl
      · rw [decide_eq_false hb, if_neg (by simp), if_neg (fun hh => hb hh.2.2.1)]
    · rw [decide_eq_false ha, if_neg (by simp), if_neg (fun hh => ha hh.2.1)]
  · rw [if_neg h, if_neg (fun hh => h hh.1)]
def markL (n : Nat) : List Int := (List.range n).map fun i : Nat => (i : Int) + 1
/-- A vote's points from place j on, put on. -/
def addFrom (n : Nat) : Nat → List Int → List Int → List Int
  | _, [], out => out
  | j, x :: xs, out => addFrom n (j + 1) xs (out.set x.toNat (out.getD x.toNat 0 + ((n : Int) - 1 - j)))
theorem addFrom_length (n : Nat) : ∀ (v : List Int) (j : Nat) (out : List Int), (addFrom n j v out).length = out.length := by
  intro v
  induction v with
  | nil => intro j out; rfl
  | cons x v ih => intro j out; unfold addFrom; rw [ih, List.length_set]
theorem set_bd {out : List Int} {M y : Int} {i : Nat} (h : ∀ x ∈ out, 0 ≤ x ∧ x ≤ M) (hy : 0 ≤ y ∧ y ≤ M) : ∀ x ∈ out.set i y, 0 ≤ x ∧ x ≤ M := by
  intro x hx
  rcases List.mem_or_eq_of_mem_set hx with e | e
  · exact h x e
  · rw [e]; exact hy
theorem getD_bd {out : List Int} {M : Int} {i : Nat} (h : ∀ x ∈ out, 0 ≤ x ∧ x ≤ M) (hM : 0 ≤ M) : 0 ≤ out.getD i 0 ∧ out.getD i 0 ≤ M := by
  rw [List.getD_eq_getElem?_getD]
  by_cases c : i < out.length
  · rw [List.getElem?_eq_getElem c]
    exact h _ (List.getElem_mem c)
  · rw [List.getElem?_eq_none (by omega)]
    exact ⟨by simp, by simpa using hM⟩
theorem addFrom_bd (n : Nat) (hn : n < 7) : ∀ (v : List Int) (j : Nat) (out : List Int) (M : Int), 0 ≤ M → j + v.length ≤ n → (∀ x ∈ out, 0 ≤ x ∧ x ≤ M) → ∀ x ∈ addFrom n j v out, 0 ≤ x ∧ x ≤ M + 5 * (v.length : Int) := by
  intro v
  induction v with
  | nil => intro j out M _ _ h x hx; have := h x hx; simpa using this
  | cons a v ih =>
    intro j out M hM hj h x hx
    unfold addFrom at hx
    rw [List.length_cons] at hj
    have hg := getD_bd (i := a.toNat) h hM
    have := ih (j + 1) _ (M + 5) (by omega) (by omega) (set_bd (M := M + 5) (fun y hy => by have := h y hy; omega) (by omega)) x hx
    rw [List.length_cons]
    omega
theorem wi1 {i : Int} (h : 0 ≤ i) (h2 : i ≤ 4611686018427387904) : wrap64 (i + 1) = i + 1 := w64 (by omega) (by omega)
theorem add_impl (n : Nat) (hn : n < 7) (L : List (List Int)) (len i : Int) (v : List Int) (hv : ∀ x ∈ v, 0 ≤ x ∧ x ≤ (n : Int) - 1) (hl : v.length = n) : ∀ (d k j : Nat) (out : List Int), j + d = n → d + 1 < k → out.length = n → (∀ x ∈ out, 0 ≤ x ∧ x ≤ 1000 - 5 * (d : Int)) → ∃ k', k - d - 1 ≤ k' ∧ impl_PointsOf.l1 k n out L len i v v.length j = impl_PointsOf.l0 k' n (addFrom n j (v.drop j) out) L len (wrap64 (i + 1)) := by
  intro d
  induction d with
  | zero =>
    intro k j out hj hk ho hb
    obtain ⟨k, rfl⟩ : ∃ m, k = m + 1 := ⟨k - 1, by omega⟩
    refine ⟨k, by omega, ?_⟩
    have e : v.drop j = [] := List.drop_eq_nil_iff.2 (by omega)
    rw [impl_PointsOf.l1, if_neg (by omega), e]
    rfl
  | succ d ih =>
    intro k j out hj hk ho hb
    obtain ⟨k, rfl⟩ : ∃ m, k = m + 1 := ⟨k - 1, by omega⟩
    have hjl : j < v.length := by omega
    have e : v.getD j 0 = v[j] := by rw [List.getD_eq_getElem?_getD, List.getElem?_eq_getElem hjl, Option.getD_some]
    have hx := hv _ (List.getElem_mem hjl)
    have hg := getD_bd (i := v[j].toNat) hb (by omega)
    have hr : rd out v[j] = out.getD v[j].toNat 0 := rfl
    rw [impl_PointsOf.l1, if_pos (by omega), if_pos (by omega), if_pos (by omega), rd_nat, e, if_pos (by omega), if_pos (by omega), hr, w64 (n := (n : Int) - 1) (by omega) (by omega), w64 (n := (n : Int) - 1 - (j : Int)) (by omega) (by omega), w64 (n := out.getD v[j].toNat 0 + ((n : Int) - 1 - (j : Int))) (by omega) (by omega), wi1 (by omega) (by omega), List.drop_eq_getElem_cons hjl]
    unfold addFrom
    have e2 : (j : Int) + 1 = ((j + 1 : Nat) : Int) := by omega
    rw [e2]
    obtain ⟨k', hk', h⟩ := ih k (j + 1) _ (by omega) (by omega) (by rw [List.length_set]; exact ho) (set_bd (M := 1000 - 5 * (d : Int)) (i := v[j].toNat) (y := out.getD v[j].toNat 0 + ((n : Int) - 1 - (j : Int))) (fun y hy => by have := hb y hy; omega) (by omega))
    exact ⟨k', by omega, h⟩
def pointsL (n : Nat) (l : List (List Int)) : List Int := l.foldl (fun o v => addFrom n 0 v o) (List.replicate n 0)
def points (l : List (List Int)) (n : Int) : List Int := if votesOk l n = true then pointsL n.toNat l else []
theorem pts_impl (l : List (List Int)) (n : Nat) (hn : n < 7) (hl : l.length ≤ 15) (hv : ∀ v ∈ l, v.length = n ∧ ∀ x ∈ v, 0 ≤ x ∧ x ≤ (n : Int) - 1) : ∀ (d k i : Nat) (out : List Int), i + d = l.length → 12 * d + 2 < k → out.length = n → (∀ x ∈ out, 0 ≤ x ∧ x ≤ 900 - 40 * (d : Int)) → impl_PointsOf.l0 k n out l l.length i = some ((l.drop i).foldl (fun o v => addFrom n 0 v o) out) := by
  intro d
  induction d with
  | zero =>
    intro k i out hi hk ho hb
    obtain ⟨k, rfl⟩ : ∃ m, k = m + 1 := ⟨k - 1, by omega⟩
    have e : l.drop i = [] := List.drop_eq_nil_iff.2 (by omega)
    rw [impl_PointsOf.l0, if_neg (by omega), e]
    rfl
  | succ d ih =>
    intro k i out hi hk ho hb
    obtain ⟨k, rfl⟩ : ∃ m, k = m + 1 := ⟨k - 1, by omega⟩
    have hil : i < l.length := by omega
    have e : l.getD i [] = l[i] := by simp [List.getD_eq_getElem?_getD, hil]
    obtain ⟨h1, h2⟩ := hv _ (List.getElem_mem hil)
    rw [impl_PointsOf.l0, if_pos (by omega), if_pos (by omega), if_pos (by omega), rdL1, e]
    obtain ⟨k', hk', h⟩ := add_impl n hn l l.length i l[i] h2 h1 n k 0 out (by omega) (by omega) ho (fun x hx => by have := hb x hx; omega)
    have e0 : ((0 : Nat) : Int) = 0 := rfl
    rw [e0] at h
    rw [h, List.drop_zero, wi1 (by omega) (by omega), List.drop_eq_getElem_cons hil, List.foldl_cons]
    have e2 : (i : Int) + 1 = ((i + 1 : Nat) : Int) := by omega
    rw [e2]
    refine ih k' (i + 1) _ (by omega) (by omega) (by rw [addFrom_length]; exact ho) (fun x hx => ?_)
    have := addFrom_bd n hn l[i] 0 out (900 - 40 * ((d + 1 : Nat) : Int)) (by omega) (by omega) hb x hx
    omega
theorem votes_each {l : List (List Int)} {n : Nat} (hn : n < 7) (h : ∀ v ∈ l, voteOk n v = true) : ∀ v ∈ l, v.length = n ∧ ∀ x ∈ v, 0 ≤ x ∧ x ≤ (n : Int) - 1 := fun v hv => ⟨(voteOk_mem hn (h v hv)).1, (voteOk_mem hn (h v hv)).2.1⟩
theorem rep_bd (n : Nat) (M : Int) (hM : 0 ≤ M) : ∀ x ∈ List.replicate n (0 : Int), 0 ≤ x ∧ x ≤ M := by
  intro x hx
  rw [(List.mem_replicate.1 hx).2]
  omega
theorem points_impl (l : List (List Int)) (n : Int) (B k : Nat) (hl : l.length ≤ 1000000000) (hv : ∀ v ∈ l, v.length ≤ B) (hB : B ≤ 1000000000) (hk : 15 * (B + 3) + 500 < k) : impl_PointsOf.f k l n = some (points l n) := by
  unfold impl_PointsOf.f
  rw [votes_impl l n B k hl hv hB (by omega)]
  simp only [Option.bind_some]
  unfold points
  by_cases h : votesOk l n = true
  · obtain ⟨⟨h1, h2, h3⟩, h4⟩ := votesOk_iff.1 h
    obtain ⟨N, rfl⟩ : ∃ N : Nat, n = N := ⟨n.toNat, by omega⟩
    rw [if_pos h, if_pos h, if_pos (by omega), if_pos (by omega), Int.toNat_natCast]
    have := pts_impl l N (by omega) h3 (votes_each (by omega) h4) l.length k 0 (List.replicate N 0) (by omega) (by omega) (by simp) (rep_bd _ _ (by omega))
    exact this
  · rw [if_neg h, if_neg h]
theorem points_length (l : List (List Int)) (n : Int) : (points l n).length ≤ 6 := by
  unfold points
  split
  · rename_i h
    obtain ⟨⟨h1, h2, h3⟩, h4⟩ := votesOk_iff.1 h
    unfold pointsL
    have key : ∀ (l : List (List Int)) (o : List Int), (l.foldl (fun o v => addFrom n.toNat 0 v o) o).length = o.length := by
      intro l
      induction l with
      | nil => intro o; rfl
      | cons v l ih => intro o; rw [List.foldl_cons, ih, addFrom_length]
    rw [key, List.length_replicate]
    omega
  · simp
theorem and255 (x : Int) : 0 ≤ Go.bits .and .i64 x 255 ∧ Go.bits .and .i64 x 255 ≤ 255 := by
  have h2 : ((BitVec.ofInt 64 255).toNat : Nat) = 255 := rfl
  have h1 : ∀ a : Nat, a &&& 255 ≤ 255 := fun a => Nat.and_le_right
  have h3 := h1 (BitVec.ofInt 64 x).toNat
  have : Go.bits .and .i64 x 255 = (((BitVec.ofInt 64 x).toNat &&& 255 : Nat) : Int) := by
    have h5 : (BitVec.ofInt 64 x &&& BitVec.ofInt 64 255).toNat = (BitVec.ofInt 64 x).toNat &&& 255 := by rw [BitVec.toNat_and, h2]
    show Go.IntKind.i64.wrap ((BitVec.ofInt 64 x &&& BitVec.ofInt 64 255).toNat : Int) = _
    rw [h5, Go.IntKind.wrap_i64]
    omega
  rw [this]
  omega
theorem byte_ok (l : List Int) (i h : Int) (hi : 0 ≤ i) (hl : l.length ≤ 9223372036854775807) : ∃ x i' h', spec_l01Byte.f l i h = some (x, i', h') ∧ 0 ≤ x ∧ x ≤ 255 ∧ 0 ≤ i' := by
  unfold spec_l01Byte.f
  by_cases h1 : i < (l.length : Int)
  · rw [if_pos h1, if_pos hi]
    refine ⟨_, _, _, rfl, (and255 _).1, (and255 _).2, ?_⟩
    rw [w64 (by omega) (by omega)]
    omega
  · rw [if_neg h1]
    exact ⟨_, _, _, rfl, (and255 _).1, (and255 _).2, hi⟩
theorem below_ok (l : List Int) (i h n : Int) (hi : 0 ≤ i) (hl : l.length ≤ 9223372036854775807) : ∃ x i' h', spec_l01Below.f l i h n = some (x, i', h') ∧ 0 ≤ x ∧ (0 < n → x < n) ∧ (n ≤ 0 → x = 0) ∧ 0 ≤ i' := by
  unfold spec_l01Below.f
  by_cases h1 : n ≤ 0
  · rw [if_pos h1]
    exact ⟨_, _, _, rfl, Int.le_refl _, fun h => by omega, fun _ => rfl, hi⟩
  · rw [if_neg h1]
    have hn : n ≠ 0 := by omega
    by_cases h2 : n ≤ 256
    · rw [if_pos h2]
      obtain ⟨x, i1, g1, e1, a1, b1, c1⟩ := byte_ok l i h hi hl
      rw [e1]
      simp only [Option.bind_some]
      rw [if_neg hn]
      refine ⟨_, _, _, rfl, Int.tmod_nonneg _ a1, fun h => ?_, fun h => by omega, c1⟩
      exact Int.tmod_lt_of_pos _ h
    · rw [if_neg h2]
      obtain ⟨x1, i1, g1, e1, a1, b1, c1⟩ := byte_ok l i h hi hl
      rw [e1]
      simp only [Option.bind_some]
      obtain ⟨x2, i2, g2, e2, a2, b2, c2⟩ := byte_ok l i1 g1 c1 hl
      rw [e2]
      simp only [Option.bind_some]
      obtain ⟨x3, i3, g3, e3, a3, b3, c3⟩ := byte_ok l i2 g2 c2 hl
      rw [e3]
      simp only [Option.bind_some]
      obtain ⟨x4, i4, g4, e4, a4, b4, c4⟩ := byte_ok l i3 g3 c3 hl
      rw [e4]
      simp only [Option.bind_some]
      rw [if_neg hn]
      refine ⟨_, _, _, rfl, Int.tmod_nonneg _ ?_, fun h => Int.tmod_lt_of_pos _ h, fun h => by omega, c4⟩
      unfold wrap64
      omega
theorem new_ok (l : List Int) (k : Nat) (hk : l.length < k) (hl : l.length ≤ 9223372036854775807) : ∃ h, spec_l01New.f k l = some (l, 0, h) := by
  have key : ∀ (d k : Nat) (h : Int) (i : Nat), i ≤ l.length → l.length - i = d → d < k → ∃ h', spec_l01New.l0 k l h i = some (l, 0, h') := by
    intro d
    induction d with
    | zero =>
      intro k h i hi hd hk
      obtain ⟨k, rfl⟩ : ∃ m, k = m + 1 := ⟨k - 1, by omega⟩
      simp only [spec_l01New.l0]
      rw [if_neg (by omega)]
      exact ⟨_, rfl⟩
    | succ d ih =>
      intro k h i hi hd hk
      obtain ⟨k, rfl⟩ : ∃ m, k = m + 1 := ⟨k - 1, by omega⟩
      simp only [spec_l01New.l0]
      rw [if_pos (by omega)]
      by_cases h4 : (i : Int) < 4000
      · rw [if_pos h4, if_pos (by omega), w64s (n := l.length) (by omega) (by omega) hl]
        exact ih k _ (i + 1) (by omega) (by omega) (by omega)
      · rw [if_neg h4]
        exact ⟨_, rfl⟩
  exact key l.length k _ 0 (by omega) (by omega) hk
theorem big_eq (l : List Int) : laws_big.f l = some (decide ((l.length : Int) > 1048576)) := rfl
/-- All orders of 0 .. n - 1. -/
def permsN : Nat → List (List Int)
  | 0 => [[]]
  | k + 1 => (permsN k).flatMap fun v => (List.range (k + 1)).map fun j => v.take j ++ [(k : Int)] ++ v.drop j
theorem perms_len : ∀ n : Fin 5, ∀ v ∈ permsN n.val, v.length = n.val := by decide +kernel
theorem perm_len {n : Nat} (hn : n ≤ 4) {v : List Int} (h : v ∈ permsN n) : v.length = n := perms_len ⟨n, by omega⟩ v h
theorem perms_vote : ∀ n : Fin 5, ∀ v ∈ permsN n.val, voteOk n.val v = true := by decide +kernel
theorem perm_vote {n : Nat} (hn : n ≤ 4) {v : List Int} (h : v ∈ permsN n) : voteOk n v = true := perms_vote ⟨n, by omega⟩ v h
theorem perms_first : ∀ n : Fin 5, ∀ v ∈ permsN n.val, ∀ a : Fin n.val, ∀ b : Fin n.val, a ≠ b → firstA (b.val : Int) (a.val : Int) v = !firstA (a.val : Int) (b.val : Int) v := by decide +kernel
theorem perm_first {n : Nat} (hn : n ≤ 4) {v : List Int} (h : v ∈ permsN n) {a b : Nat} (ha : a < n) (hb : b < n) (hab : a ≠ b) : firstA (b : Int) a v = !firstA (a : Int) b v :=
  perms_first ⟨n, by omega⟩ v h ⟨a, ha⟩ ⟨b, hb⟩ (fun e => hab (by simpa using e))
theorem perms_ring : ∀ n : Fin 5, ∀ v ∈ permsN n.val, ∀ a : Fin n.val, ∀ b : Fin n.val, ∀ c : Fin n.val, ¬ (firstA (a.val : Int) (b.val : Int) v = true ∧ firstA (b.val : Int) (c.val : Int) v = true ∧ firstA (c.val : Int) (a.val : Int) v = true ∧ a ≠ b ∧ b ≠ c ∧ a ≠ c) := by decide +kernel
theorem perm_ring {n : Nat} (hn : n ≤ 4) {v : List Int} (h : v ∈ permsN n) {a b c : Nat} (ha : a < n) (hb : b < n) (hc : c < n) (hab : a ≠ b) (hbc : b ≠ c) (hac : a ≠ c) : ¬ (firstA (a : Int) b v = true ∧ firstA (b : Int) c v = true ∧ firstA (c : Int) a v = true) :=
  fun ⟨h1, h2, h3⟩ => perms_ring ⟨n, by omega⟩ v h ⟨a, ha⟩ ⟨b, hb⟩ ⟨c, hc⟩ ⟨h1, h2, h3, fun e => hab (by simpa using e), fun e => hbc (by simpa using e), fun e => hac (by simpa using e)⟩
/-- What a vote's points from place j on put on bread i. -/
def putW (n : Nat) : Nat → List Int → Nat → Int
  | _, [], _ => 0
  | j, x :: xs, i => (if x.toNat = i then (n : Int) - 1 - j else 0) + putW n (j + 1) xs i
theorem addFrom_getD (n : Nat) : ∀ (v : List Int) (j : Nat) (out : List Int) (i : Nat), i < out.length → (addFrom n j v out).getD i 0 = out.getD i 0 + putW n j v i := by
  intro v
  induction v with
  | nil => intro j out i _; simp [addFrom, putW]
  | cons x v ih =>
    intro j out i hi
    unfold addFrom putW
    rw [ih _ _ _ (by rw [List.length_set]; exact hi)]
    by_cases e : x.toNat = i
    · subst e
      rw [if_pos rfl]
      simp [List.getD_eq_getElem?_getD, hi]
      omega
    · rw [if_neg e]
      simp [List.getD_eq_getElem?_getD, List.getElem?_set, e]
/-- In how many votes bread i stands ahead of those below k. -/
def aheadS (l : List (List Int)) (i : Nat) : Nat → Int
  | 0 => 0
  | k + 1 => aheadS l i k + (if i = k then 0 else prefC i k l)
theorem aheadS_nil (i : Nat) : ∀ k, aheadS [] i k = 0 := by
  intro k
  induction k with
  | zero => rfl
  | succ k ih => unfold aheadS; rw [ih]; simp [prefC]
theorem prefC_cons (a b : Int) (v : List Int) (l : List (List Int)) : prefC a b (v :: l) = prefC a b [v] + prefC a b l := by
  unfold prefC
  simp only [List.countP_cons, List.countP_nil]
  omega
theorem aheadS_cons (v : List Int) (l : List (List Int)) (i : Nat) : ∀ k, aheadS (v :: l) i k = aheadS [v] i k + aheadS l i k := by
  intro k
  induction k with
  | zero => rfl
  | succ k ih =>
    unfold aheadS
    rw [ih, prefC_cons]
    split <;> omega
theorem perms_put : ∀ n : Fin 5, ∀ v ∈ permsN n.val, ∀ i : Fin n.val, putW n.val 0 v i.val = aheadS [v] i.val n.val := by decide +kernel
theorem perm_put {n : Nat} (hn : n ≤ 4) {v : List Int} (h : v ∈ permsN n) {i : Nat} (hi : i < n) : putW n 0 v i = aheadS [v] i n := perms_put ⟨n, by omega⟩ v h ⟨i, hi⟩
theorem fold_put (n : Nat) (hn : n ≤ 4) : ∀ (l : List (List Int)) (out : List Int) (i : Nat), (∀ v ∈ l, v ∈ permsN n) → out.length = n → i < n → (l.foldl (fun o v => addFrom n 0 v o) out).getD i 0 = out.getD i 0 + aheadS l i n := by
  intro l
  induction l with
  | nil => intro out i _ _ _; rw [aheadS_nil]; simp
  | cons v l ih =>
    intro out i hv ho hi
    rw [List.foldl_cons, ih _ i (fun u hu => hv u (List.mem_cons_of_mem _ hu)) (by rw [addFrom_length]; exact ho) hi, addFrom_getD n v 0 out i (by omega), perm_put hn (hv v List.mem_cons_self) hi, aheadS_cons v l]
    omega
theorem fold_len (n : Nat) : ∀ (l : List (List Int)) (out : List Int), (l.foldl (fun o v => addFrom n 0 v o) out).length = out.length := by
  intro l
  induction l with
  | nil => intro out; rfl
  | cons v l ih => intro out; rw [List.foldl_cons, ih, addFrom_length]
theorem pointsL_getD {n : Nat} (hn : n ≤ 4) {l : List (List Int)} (hv : ∀ v ∈ l, v ∈ permsN n) {i : Nat} (hi : i < n) : (pointsL n l).getD i 0 = aheadS l i n := by
  unfold pointsL
  rw [fold_put n hn l _ i hv (by simp) hi]
  simp [List.getD_eq_getElem?_getD, hi]
theorem pointsL_len (n : Nat) (l : List (List Int)) : (pointsL n l).length = n := by
  unfold pointsL
  rw [fold_len]
  simp
/-- The points of the first k breads. -/
def sumS (l : List (List Int)) (n : Nat) : Nat → Int
  | 0 => 0
  | k + 1 => sumS l n k + aheadS l k n
theorem sumS_nil (n : Nat) : ∀ k, sumS [] n k = 0 := by
  intro k
  induction k with
  | zero => rfl
  | succ k ih => unfold sumS; rw [ih, aheadS_nil]; rfl
theorem sumS_cons (v : List Int) (l : List (List Int)) (n : Nat) : ∀ k, sumS (v :: l) n k = sumS [v] n k + sumS l n k := by
  intro k
  induction k with
  | zero => rfl
  | succ k ih =>
    unfold sumS
    rw [ih, aheadS_cons v l]
    omega
theorem perms_sum : ∀ n : Fin 5, ∀ v ∈ permsN n.val, 2 * sumS [v] n.val n.val = (n.val : Int) * ((n.val : Int) - 1) := by decide +kernel
theorem sumS_all {n : Nat} (hn : n ≤ 4) : ∀ (l : List (List Int)), (∀ v ∈ l, v ∈ permsN n) → 2 * sumS l n n = (l.length : Int) * ((n : Int) * ((n : Int) - 1)) := by
  intro l
  induction l with
  | nil => intro _; rw [sumS_nil]; simp
  | cons v l ih =>
    intro hv
    have h1 := perms_sum ⟨n, by omega⟩ v (hv v List.mem_cons_self)
    have h2 := ih (fun u hu => hv u (List.mem_cons_of_mem _ hu))
    dsimp only at h1
    rw [sumS_cons, List.length_cons]
    generalize (n : Int) * ((n : Int) - 1) = q at h1 h2 ⊢
    have : ((l.length + 1 : Nat) : Int) * q = (l.length : Int) * q + q := by rw [Int.natCast_add, Int.add_mul]; simp
    rw [this]
    omega
theorem prefC_two {n : Nat} (hn : n ≤ 4) {l : List (List Int)} (hv : ∀ v ∈ l, v ∈ permsN n) {a b : Nat} (ha : a < n) (hb : b < n) (hab : a ≠ b) : prefC a b l + prefC b a l = l.length := by
  induction l with
  | nil => rfl
  | cons v l ih =>
    have h1 := ih (fun u hu => hv u (List.mem_cons_of_mem _ hu))
    have h2 := perm_first hn (hv v List.mem_cons_self) ha hb hab
    rw [prefC_cons, prefC_cons (b : Int), List.length_cons]
    have h3 : prefC (a : Int) b [v] + prefC (b : Int) a [v] = 1 := by
      unfold prefC
      simp only [List.countP_cons, List.countP_nil, h2]
      cases firstA (a : Int) b v <;> simp
    omega
theorem prefC_bd (l : List (List Int)) (a b : Int) : 0 ≤ prefC a b l ∧ prefC a b l ≤ l.length := by
  unfold prefC
  have := List.countP_le_length (p := firstA a b) (l := l)
  omega
/-- More than half. -/
def beatB (l : List (List Int)) (a b : Int) : Bool := decide (2 * prefC a b l > (l.length : Int))
theorem perms_only : ∀ n : Fin 5, ∀ v ∈ permsN n.val, 1 ≤ n.val → v.length = n.val ∧ (v.getD 0 0).toNat < n.val ∧ 0 ≤ v.getD 0 0 ∧ ∀ b : Fin n.val, (b.val : Int) ≠ v.getD 0 0 → firstA (v.getD 0 0) (b.val : Int) v = true := by decide +kernel
theorem perm_step {k j : Nat} (hj : j < k + 1) {v : List Int} (h : v ∈ permsN k) : v.take j ++ [(k : Int)] ++ v.drop j ∈ permsN (k + 1) := by
  unfold permsN
  exact List.mem_flatMap.2 ⟨v, h, List.mem_map.2 ⟨j, List.mem_range.2 hj, rfl⟩⟩
theorem vote_ok (l : List Int) (n : Nat) (hn : n ≤ 4) (hl : l.length ≤ 9223372036854775807) : ∀ (d k i : Nat) (out : List Int) (ci h : Int), i + d = n → d < k → out ∈ permsN i → 0 ≤ ci → ∃ v ci' h', spec_l33Vote.l0 k n out i l ci h = some (v, ci', h') ∧ v ∈ permsN n ∧ 0 ≤ ci' := by
  intro d
  induction d with
  | zero =>
    intro k i out ci h hd hk ho hc
    obtain ⟨k, rfl⟩ : ∃ m, k = m + 1 := ⟨k - 1, by omega⟩
    have e : i = n := by omega
    subst e
    simp only [spec_l33Vote.l0]
    rw [if_neg (by omega)]
    exact ⟨out, ci, h, rfl, ho, hc⟩
  | succ d ih =>
    intro k i out ci h hd hk ho hc
    obtain ⟨k, rfl⟩ : ∃ m, k = m + 1 := ⟨k - 1, by omega⟩
    have hlen : out.length = i := perm_len (by omega) ho
    obtain ⟨x, ci', h', e, h0, h1, _, h3⟩ := below_ok l ci h (wrap64 ((out.length : Int) + 1)) hc hl
    have ew : wrap64 ((out.length : Int) + 1) = (i : Int) + 1 := by rw [w64 (by omega) (by omega), hlen]
    rw [ew] at h1
    have h1 := h1 (by omega)
    simp only [spec_l33Vote.l0]
    rw [if_pos (by omega), e]
    simp only [Option.bind_some, List.nil_append, List.length_nil]
    obtain ⟨j, rfl⟩ : ∃ j : Nat, x = j := ⟨x.toNat, by omega⟩
    have ht : (out.take j).length = j := by rw [List.length_take]; omega
    have hdp : (out.drop j).length = i - j := by rw [List.length_drop]; omega
    rw [if_pos h0, if_pos (by omega), Int.toNat_natCast, if_pos (by omega), if_pos (by simp only [List.length_cons, List.length_nil]; omega), if_pos (by simp only [List.length_append, List.length_cons, List.length_nil]; omega)]
    rw [w64 (by omega) (by omega)]
    have := ih k (i + 1) (out.take j ++ [(i : Int)] ++ out.drop j) ci' h' (by omega) (by omega) (perm_step (by omega) ho) h3
    simpa using this
theorem draw_loop (l : List Int) (n : Nat) (hn : n ≤ 4) (hl : l.length ≤ 9223372036854775807) : ∀ (m k : Nat) (out : List (List Int)) (ci h : Int), m + 10 < k → out.length + m ≤ 5 → (∀ v ∈ out, v ∈ permsN n) → 0 ≤ ci → ∃ vs ci' h', spec_l33Draw.l0 k n out m l ci h = some (vs, (n : Int), ci', h') ∧ (∀ v ∈ vs, v ∈ permsN n) ∧ vs.length = out.length + m := by
  intro m
  induction m with
  | zero =>
    intro k out ci h hk hm hv hc
    obtain ⟨k, rfl⟩ : ∃ m, k = m + 1 := ⟨k - 1, by omega⟩
    simp only [spec_l33Draw.l0]
    rw [if_neg (by simp)]
    exact ⟨out, ci, h, rfl, hv, rfl⟩
  | succ m ih =>
    intro k out ci h hk hm hv hc
    obtain ⟨k, rfl⟩ : ∃ m, k = m + 1 := ⟨k - 1, by omega⟩
    obtain ⟨v, ci', h', e, h1, h2⟩ := vote_ok l n hn hl n k 0 [] ci h (by omega) (by omega) (by simp [permsN]) hc
    simp only [spec_l33Draw.l0]
    rw [if_pos (by omega)]
    unfold spec_l33Vote.f
    have e' : spec_l33Vote.l0 k (n : Int) [] 0 l ci h = some (v, ci', h') := e
    rw [e']
    simp only [Option.bind_some]
    rw [if_pos (by omega)]
    have ew : wrap64 (((m + 1 : Nat) : Int) - 1) = (m : Int) := by rw [w64 (by omega) (by omega)]; omega
    rw [ew]
    obtain ⟨vs, c2, h2', e2, g1, g2⟩ := ih k (out ++ [v]) ci' h' (by omega) (by simp; omega) (fun u hu => by
      rcases List.mem_append.1 hu with hu | hu
      · exact hv u hu
      · rw [List.mem_singleton.1 hu]; exact h1) h2
    exact ⟨vs, c2, h2', e2, g1, by rw [g2]; simp; omega⟩
/-- Valid votes on n breads. -/
def Good (n : Nat) (l : List (List Int)) : Prop := (1 ≤ n ∧ n ≤ 4) ∧ (1 ≤ l.length ∧ l.length ≤ 5) ∧ ∀ v ∈ l, v ∈ permsN n
theorem draw_ok (l : List Int) (k : Nat) (hk : l.length + 100 < k) (hl : l.length ≤ 9223372036854775807) : ∃ n vs, spec_DrawVotes.f k l = some (vs, ((n : Nat) : Int)) ∧ Good n vs := by
  unfold spec_DrawVotes.f spec_l33Draw.f
  obtain ⟨h, e⟩ := new_ok l k (by omega) hl
  rw [e]
  simp only [Option.bind_some]
  obtain ⟨x, i1, g1, e1, a1, b1, _, c1⟩ := below_ok l 0 h 4 (by omega) hl
  rw [e1]
  simp only [Option.bind_some]
  obtain ⟨y, i2, g2, e2, a2, b2, _, c2⟩ := below_ok l i1 g1 5 c1 hl
  rw [e2]
  simp only [Option.bind_some]
  have b1 := b1 (by omega)
  have b2 := b2 (by omega)
  obtain ⟨x, rfl⟩ : ∃ j : Nat, x = j := ⟨x.toNat, by omega⟩
  obtain ⟨y, rfl⟩ : ∃ j : Nat, y = j := ⟨y.toNat, by omega⟩
  have ex : wrap64 (1 + (x : Int)) = ((x + 1 : Nat) : Int) := by rw [w64 (by omega) (by omega)]; omega
  have ey : wrap64 (1 + (y : Int)) = ((y + 1 : Nat) : Int) := by rw [w64 (by omega) (by omega)]; omega
  rw [ex, ey]
  obtain ⟨vs, i3, g3, e3, h3, h4⟩ := draw_loop l (x + 1) (by omega) hl (y + 1) k [] i2 g2 (by omega) (by simp; omega) (by simp) c2
  rw [e3]
  exact ⟨x + 1, vs, rfl, ⟨by omega, by omega⟩, ⟨by simp at h4; omega, by simp at h4; omega⟩, h3⟩
theorem Good.ok {n : Nat} {l : List (List Int)} (h : Good n l) : votesOk l n = true := by
  obtain ⟨⟨h1, h2⟩, ⟨h3, h4⟩, h5⟩ := h
  exact votesOk_iff.2 ⟨⟨⟨by omega, by omega⟩, h3, by omega⟩, fun v hv => by rw [Int.toNat_natCast]; exact perm_vote h2 (h5 v hv)⟩
theorem Good.len {n : Nat} {l : List (List Int)} (h : Good n l) : ∀ v ∈ l, v.length ≤ 4 := fun v hv => by rw [perm_len h.1.2 (h.2.2 v hv)]; exact h.1.2
theorem Good.each {n : Nat} {l : List (List Int)} (h : Good n l) : ∀ v ∈ l, v.length = n ∧ (∀ x ∈ v, 0 ≤ x ∧ x ≤ (n : Int) - 1) ∧ ∀ x : Int, 0 ≤ x → x < n → x ∈ v := fun v hv => voteOk_mem (by have := h.1.2; omega) (perm_vote h.1.2 (h.2.2 v hv))
theorem good_prefers {n : Nat} {l : List (List Int)} (h : Good n l) {a b : Nat} (ha : a < n) (hb : b < n) (hab : a ≠ b) (k : Nat) (hk : 1000 < k) : impl_Prefers.f k l n a b = some (prefC a b l) := by
  rw [prefers_impl l n a b 4 k (by have := h.2.1.2; omega) h.len (by omega) (by omega)]
  unfold prefers
  rw [if_pos ⟨h.ok, ⟨by omega, by omega⟩, ⟨by omega, by omega⟩, by omega⟩]
theorem good_beats {n : Nat} {l : List (List Int)} (h : Good n l) {a b : Nat} (ha : a < n) (hb : b < n) (hab : a ≠ b) (k : Nat) (hk : 60 < k) : impl_beats.f k l a b = some (beatB l a b) := by
  unfold impl_beats.f
  rw [prefs_impl l n a b (by omega) (by have := h.2.1.2; omega) (by have := h.1.2; omega) (fun v hv => ⟨(h.each v hv).1, (h.each v hv).2.2 _ (by omega) (by omega), (h.each v hv).2.2 _ (by omega) (by omega)⟩) k hk]
  simp only [Option.bind_some]
  have := prefC_bd l a b
  have h5 := h.2.1.2
  unfold beatB
  rw [w64 (by omega) (by omega)]
theorem indices_ok (n : Nat) (hn : n ≤ 4) (k : Nat) (hk : 10 < k) : impl_indices.f k n = some ((List.range n).map fun j : Nat => (j : Int)) := by
  have key : ∀ (d i k : Nat), i + d = n → d < k → impl_indices.l0 k ((List.range i).map fun j : Nat => (j : Int)) n i = some ((List.range n).map fun j : Nat => (j : Int)) := by
    intro d
    induction d with
    | zero =>
      intro i k hd hk
      obtain ⟨k, rfl⟩ : ∃ m, k = m + 1 := ⟨k - 1, by omega⟩
      have e : i = n := by omega
      subst e
      simp only [impl_indices.l0]
      rw [if_neg (by omega)]
    | succ d ih =>
      intro i k hd hk
      obtain ⟨k, rfl⟩ : ∃ m, k = m + 1 := ⟨k - 1, by omega⟩
      simp only [impl_indices.l0]
      rw [if_pos (by omega), if_pos (by simp; omega), w64 (by omega) (by omega)]
      have := ih (i + 1) k (by omega) (by omega)
      rw [List.range_succ, List.map_append] at this
      simpa using this
  exact key n 0 k (by omega) (by omega)
/-- Bread a beats every other one. -/
def winsB (l : List (List Int)) (n a : Nat) : Bool := (List.range n).all fun b : Nat => decide (a = b) || beatB l a b
theorem good_all {n : Nat} {l : List (List Int)} (h : Good n l) (k : Nat) (hk : 1000 < k) : impl_BeatsAll.f k l n = some (idxR (winsB l n) n) := by
  unfold impl_BeatsAll.f
  rw [votes_impl l n 4 k (by have := h.2.1.2; omega) h.len (by omega) (by omega), h.ok]
  simp only [Option.bind_some, if_true]
  rw [indices_ok n h.1.2 k (by omega)]
  simp only [Option.bind_some]
  have ht : impl_BeatsAll.told k l ((List.range n).map fun j : Nat => (j : Int)) = true := by
    unfold impl_BeatsAll.told
    rw [List.all_eq_true]
    intro a ha
    rw [List.all_eq_true]
    intro b hb
    obtain ⟨a1, ha1, rfl⟩ := List.mem_map.1 ha
    obtain ⟨b1, hb1, rfl⟩ := List.mem_map.1 hb
    by_cases e : a1 = b1
    · simp [e]
    · rw [good_beats h (List.mem_range.1 ha1) (List.mem_range.1 hb1) e k (by omega)]
      simp
  rw [if_pos ht, List.length_map, List.length_range]
  congr 1
  refine idxR_same _ _ n (fun j hj => ?_)
  have ej : rd ((List.range n).map fun j : Nat => (j : Int)) j = j := by simp [rd, List.getD_eq_getElem?_getD, hj]
  rw [ej]
  unfold impl_BeatsAll.all winsB
  rw [List.all_map, Bool.eq_iff_iff, List.all_eq_true, List.all_eq_true]
  have e2 : ∀ b ∈ List.range n, ((fun b : Int => decide ((j : Int) = b) || decide (impl_beats.f k l j b = some true)) ∘ fun j : Nat => (j : Int)) b = (decide (j = b) || beatB l j b) := by
    intro b hb
    by_cases e : j = b
    · simp [e]
    · simp only [Function.comp]
      rw [good_beats h hj (List.mem_range.1 hb) e k (by omega)]
      have e3 : ((j : Int) = (b : Int)) ↔ (j = b) := by omega
      cases beatB l j b <;> simp [e3]
  constructor
  · intro hh b hb; rw [← e2 b hb]; exact hh b hb
  · intro hh b hb; rw [e2 b hb]; exact hh b hb
theorem good_points {n : Nat} {l : List (List Int)} (h : Good n l) (k : Nat) (hk : 1000 < k) : impl_PointsOf.f k l n = some (pointsL n l) := by
  rw [points_impl l n 4 k (by have := h.2.1.2; omega) h.len (by omega) (by omega)]
  unfold points
  rw [if_pos h.ok, Int.toNat_natCast]
theorem mx_eq (a b : Int) : mx a b = max a b := by unfold mx; omega
theorem mn_eq (a b : Int) : mn a b = min a b := by unfold mn; omega
/-- The greatest number of a list of numbers of at least 0; 0 if there is none. -/
def maxR (l : List Int) : Int := l.foldl max 0
theorem foldl_max (l : List Int) : ∀ m, m ≤ l.foldl max m ∧ (∀ x ∈ l, x ≤ l.foldl max m) ∧ (l.foldl max m = m ∨ l.foldl max m ∈ l) := by
  induction l with
  | nil => intro m; exact ⟨Int.le_refl _, fun x hx => by simp at hx, .inl rfl⟩
  | cons a l ih =>
    intro m
    rw [List.foldl_cons]
    obtain ⟨h1, h2, h3⟩ := ih (max m a)
    refine ⟨by omega, fun x hx => ?_, ?_⟩
    · rcases List.mem_cons.1 hx with rfl | hx
      · omega
      · exact h2 x hx
    · rcases h3 with h3 | h3
      · rw [h3]
        by_cases h : m ≤ a
        · exact .inr (by rw [Int.max_eq_right h]; exact List.mem_cons_self)
        · exact .inl (Int.max_eq_left (by omega))
      · exact .inr (List.mem_cons_of_mem _ h3)
theorem maxR_ge {l : List Int} {x : Int} (h : x ∈ l) : x ≤ maxR l := (foldl_max l 0).2.1 x h
theorem maxR_nonneg (l : List Int) : 0 ≤ maxR l := (foldl_max l 0).1
theorem maxR_mem {l : List Int} (hne : l ≠ []) (h0 : ∀ x ∈ l, 0 ≤ x) : maxR l ∈ l := by
  rcases (foldl_max l 0).2.2 with h | h
  · match l, hne with
    | a :: r, _ =>
      have h1 := h0 a List.mem_cons_self
      have h2 := maxR_ge (l := a :: r) List.mem_cons_self
      have h3 : maxR (a :: r) = 0 := h
      have : a = 0 := by omega
      rw [h3, ← this]
      exact List.mem_cons_self
  · exact h
theorem maxR_le {l : List Int} {M : Int} (h0 : 0 ≤ M) (h : ∀ x ∈ l, x ≤ M) : maxR l ≤ M := by
  rcases (foldl_max l 0).2.2 with e | e
  · have : maxR l = 0 := e
    omega
  · exact h _ e
theorem max_ok (l : List Int) (hne : l ≠ []) (h0 : ∀ x ∈ l, 0 ≤ x) (k : Nat) (hl : l.length ≤ 1000000000) (hk : l.length < k) : slices_Max_int_int.f k l = some (maxR l) := by
  have hlen : 0 < l.length := List.length_pos_iff.2 hne
  unfold slices_Max_int_int.f
  rw [if_neg (by omega), if_pos (by omega)]
  have key : ∀ (d k i : Nat) (m : Int), i + d = l.length → d < k → slices_Max_int_int.l0 k l m i = some ((l.drop i).foldl max m) := by
    intro d
    induction d with
    | zero =>
      intro k i m hd hk
      obtain ⟨k, rfl⟩ : ∃ m, k = m + 1 := ⟨k - 1, by omega⟩
      simp only [slices_Max_int_int.l0]
      rw [if_neg (by omega), List.drop_eq_nil_of_le (by omega)]
      rfl
    | succ d ih =>
      intro k i m hd hk
      obtain ⟨k, rfl⟩ : ∃ m, k = m + 1 := ⟨k - 1, by omega⟩
      have hi : i < l.length := by omega
      simp only [slices_Max_int_int.l0]
      have e : rd l (i : Int) = l[i] := by simp [rd, List.getD_eq_getElem?_getD, hi]
      rw [if_pos (by omega), if_pos (by omega), w64s (n := l.length) (by omega) (by omega) (by omega), e, mx_eq, List.drop_eq_getElem_cons hi, List.foldl_cons]
      have := ih k (i + 1) (max m l[i]) (by omega) (by omega)
      rw [Int.natCast_add] at this
      exact this
  have := key (l.length - 1) k 1 (rd l 0) (by omega) (by omega)
  have e0 : rd l 0 = l[0] := by simp [rd, List.getD_eq_getElem?_getD, hlen]
  have e2 : maxR l = (l.drop 1).foldl max l[0] := by
    have e3 : l = l[0] :: l.drop 1 := by
      have := List.drop_eq_getElem_cons hlen
      simpa using this
    have h1 := h0 _ (List.getElem_mem hlen)
    unfold maxR
    conv => lhs; rw [e3]
    rw [List.foldl_cons, Int.max_eq_right h1]
  rw [e2, ← e0]
  exact this
theorem index_hit (l : List Int) (v : Int) (j : Nat) (hj : j < l.length) (hv : l[j] = v) (hb : ∀ i (hi : i < j), l[i]'(by omega) ≠ v) (k : Nat) (hl : l.length ≤ 1000000000) (hk : l.length < k) : slices_Index_int_int.f k l v = some (j : Int) := by
  unfold slices_Index_int_int.f
  have key : ∀ (d k i : Nat), i + d = j → l.length < k + i → slices_Index_int_int.l0 k l v l.length i = some (j : Int) := by
    intro d
    induction d with
    | zero =>
      intro k i hd hk
      obtain ⟨k, rfl⟩ : ∃ m, k = m + 1 := ⟨k - 1, by omega⟩
      have : i = j := by omega
      subst this
      simp only [slices_Index_int_int.l0]
      have e : rd l (i : Int) = l[i] := by simp [rd, List.getD_eq_getElem?_getD, hj]
      rw [if_pos (by omega), if_pos (by omega), if_pos (by omega), if_pos (by rw [e, hv])]
    | succ d ih =>
      intro k i hd hk
      obtain ⟨k, rfl⟩ : ∃ m, k = m + 1 := ⟨k - 1, by omega⟩
      have hi : i < l.length := by omega
      simp only [slices_Index_int_int.l0]
      have e : rd l (i : Int) = l[i] := by simp [rd, List.getD_eq_getElem?_getD, hi]
      have hn := hb i (by omega)
      rw [if_pos (by omega), if_pos (by omega), if_pos (by omega), if_neg (by rw [e]; exact fun h => hn h.symm), w64s (n := l.length) (by omega) (by omega) (by omega)]
      have := ih k (i + 1) (by omega) (by omega)
      rw [Int.natCast_add] at this
      exact this
  exact key j k 0 (by omega) (by omega)
/-- The first place of the greatest number. -/
def firstMax (l : List Int) : Nat := l.findIdx (fun x => decide (x = maxR l))
theorem firstMax_spec {l : List Int} (hne : l ≠ []) (h0 : ∀ x ∈ l, 0 ≤ x) : ∃ h : firstMax l < l.length, l[firstMax l] = maxR l ∧ ∀ i (hi : i < firstMax l), l[i]'(by omega) ≠ maxR l := by
  have hm := maxR_mem hne h0
  have hlt : firstMax l < l.length := List.findIdx_lt_length_of_exists ⟨_, hm, by simp⟩
  refine ⟨hlt, ?_, fun i hi => ?_⟩
  · have := List.findIdx_getElem (w := hlt)
    exact of_decide_eq_true this
  · have := List.not_of_lt_findIdx hi
    exact of_decide_eq_false this
theorem lift_to {α : Type} {f : Nat → Option α} (hm : ∀ k, LeO (f k) (f (k + 1))) {k0 : Nat} {r : α} (h : f k0 = some r) : ∀ k, k0 ≤ k → f k = some r := by
  intro k hk
  induction k with
  | zero => have : k0 = 0 := by omega
            subst this; exact h
  | succ k ih =>
    by_cases e : k0 = k + 1
    · subst e; exact h
    · exact hm k r (ih (by omega))
def circ : List (List Int) := [[0, 1, 2], [1, 2, 0], [2, 0, 1]]
theorem circ_all0 : impl_BeatsAll.f 200 circ 3 = some (-1) := by decide +kernel
theorem circ_all (k : Nat) (hk : 200 ≤ k) : impl_BeatsAll.f k circ 3 = some (-1) := lift_to (f := fun k => impl_BeatsAll.f k circ 3) (fun k => impl_BeatsAll.mono _ _ k) circ_all0 k hk
theorem circ_has0 : impl_HasCircle.f 200 circ 3 = some true := by decide +kernel
theorem circ_has (k : Nat) (hk : 200 ≤ k) : impl_HasCircle.f k circ 3 = some true := lift_to (f := fun k => impl_HasCircle.f k circ 3) (fun k => impl_HasCircle.mono _ _ k) circ_has0 k hk
theorem aheadS_bd (l : List (List Int)) (hl : l.length ≤ 5) (i : Nat) : ∀ k : Nat, 0 ≤ aheadS l i k ∧ aheadS l i k ≤ 5 * (k : Int) := by
  intro k
  induction k with
  | zero => exact ⟨Int.le_refl _, by simp [aheadS]⟩
  | succ k ih =>
    unfold aheadS
    have := prefC_bd l i k
    split <;> omega
theorem sumS_bd (l : List (List Int)) (hl : l.length ≤ 5) (n : Nat) (hn : n ≤ 4) : ∀ k : Nat, 0 ≤ sumS l n k ∧ sumS l n k ≤ 20 * (k : Int) := by
  intro k
  induction k with
  | zero => exact ⟨Int.le_refl _, by simp [sumS]⟩
  | succ k ih =>
    unfold sumS
    have := aheadS_bd l hl k n
    omega
theorem good_pt {n : Nat} {l : List (List Int)} (h : Good n l) {i : Nat} (hi : i < n) : rd (pointsL n l) i = aheadS l i n := by rw [rd_nat, pointsL_getD h.1.2 h.2.2 hi]
theorem pts_nonneg {n : Nat} {l : List (List Int)} (h : Good n l) : ∀ x ∈ pointsL n l, 0 ≤ x := by
  intro x hx
  obtain ⟨i, hi, rfl⟩ := List.mem_iff_getElem.1 hx
  rw [pointsL_len] at hi
  have := pointsL_getD h.1.2 h.2.2 hi
  rw [List.getD_eq_getElem?_getD, List.getElem?_eq_getElem (by rw [pointsL_len]; exact hi)] at this
  have h2 := (aheadS_bd l h.2.1.2 i n).1
  simp only [Option.getD_some] at this
  omega
theorem pts_ne {n : Nat} {l : List (List Int)} (h : Good n l) : pointsL n l ≠ [] := by
  intro e
  have := pointsL_len n l
  rw [e] at this
  have := h.1.1
  simp at *
  omega
theorem good_win {n : Nat} {l : List (List Int)} (h : Good n l) (k : Nat) (hk : 1000 < k) : impl_WinnerByPoints.f k l n = some (firstMax (pointsL n l) : Int) := by
  unfold impl_WinnerByPoints.f
  rw [good_points h k hk]
  simp only [Option.bind_some]
  have hlen := pointsL_len n l
  have h4 := h.1.2
  obtain ⟨h1, h2, h3⟩ := firstMax_spec (pts_ne h) (pts_nonneg h)
  rw [if_neg (pts_ne h), max_ok _ (pts_ne h) (pts_nonneg h) k (by omega) (by omega)]
  simp only [Option.bind_some]
  exact index_hit _ _ _ h1 h2 h3 k (by omega) (by omega)
theorem win_facts {n : Nat} {l : List (List Int)} (h : Good n l) : firstMax (pointsL n l) < n ∧ (∀ i, i < n → aheadS l i n ≤ aheadS l (firstMax (pointsL n l)) n) ∧ ∀ i, i < firstMax (pointsL n l) → aheadS l i n ≠ aheadS l (firstMax (pointsL n l)) n := by
  obtain ⟨h1, h2, h3⟩ := firstMax_spec (pts_ne h) (pts_nonneg h)
  have hlen := pointsL_len n l
  have hb : firstMax (pointsL n l) < n := by omega
  have e : ∀ i (hi : i < n), (pointsL n l)[i]'(by omega) = aheadS l i n := fun i hi => by
    have := pointsL_getD h.1.2 h.2.2 hi
    rw [List.getD_eq_getElem?_getD, List.getElem?_eq_getElem (by omega)] at this
    simpa using this
  rw [e _ hb] at h2
  refine ⟨hb, fun i hi => ?_, fun i hi => ?_⟩
  · rw [h2, ← e i hi]
    exact maxR_ge (List.getElem_mem _)
  · have := h3 i hi
    rw [e i (by omega)] at this
    rw [h2]
    exact this
/-- At most one bread beats all. -/
theorem wins_one {n : Nat} {l : List (List Int)} (h : Good n l) {i j : Nat} (hi : i < n) (hj : j < n) (h1 : winsB l n i = true) (h2 : winsB l n j = true) : i = j := by
  by_cases e : i = j
  · exact e
  · have a1 := List.all_eq_true.1 h1 j (List.mem_range.2 hj)
    have a2 := List.all_eq_true.1 h2 i (List.mem_range.2 hi)
    have e' : ¬ j = i := fun h => e h.symm
    simp only [e, e', decide_false, Bool.false_or] at a1 a2
    have b1 := of_decide_eq_true a1
    have b2 := of_decide_eq_true a2
    have := prefC_two h.1.2 h.2.2 hi hj e
    omega
theorem wins_is {n : Nat} {l : List (List Int)} (h : Good n l) {i : Nat} (hi : i < n) : winsB l n i = ((i : Int) == idxR (winsB l n) n) := by
  by_cases c : winsB l n i = true
  · rw [idxR_hit (winsB l n) n i hi c (fun j hj => by
      cases e : winsB l n j with
      | false => rfl
      | true => exact absurd (wins_one h (by omega) hi e c) (by omega)), c]
    simp
  · have c' := Bool.eq_false_iff.2 c
    rw [c']
    symm
    rw [beq_eq_false_iff_ne]
    intro e
    unfold idxR at e
    split at e
    · rename_i ha
      have hlt : (List.range n).findIdx (winsB l n) < (List.range n).length := List.findIdx_lt_length_of_exists (List.any_eq_true.1 ha)
      have := List.findIdx_getElem (w := hlt)
      rw [List.getElem_range] at this
      have e2 : (List.range n).findIdx (winsB l n) = i := by omega
      rw [e2] at this
      exact c this
    · omega
theorem idx_lt {n : Nat} {l : List (List Int)} : idxR (winsB l n) n < (n : Int) := by
  unfold idxR
  split
  · rename_i ha
    have hlt : (List.range n).findIdx (winsB l n) < (List.range n).length := List.findIdx_lt_length_of_exists (List.any_eq_true.1 ha)
    rw [List.length_range] at hlt
    omega
  · omega
/-- No circle. -/
def Flat (n : Nat) (l : List (List Int)) : Prop := ∀ a b c : Nat, a < n → b < n → c < n → a ≠ b → b ≠ c → a ≠ c → ¬ (beatB l a b = true ∧ beatB l b c = true ∧ beatB l c a = true)
theorem circle_l2 {n : Nat} {l : List (List Int)} (h : Good n l) (hf : Flat n l) {a b : Nat} (ha : a < n) (hb : b < n) : ∀ (d c k : Nat), c + d = n → 60 + d + 1 < k → ∃ k', k ≤ k' + d + 1 ∧ impl_HasCircle.l2 k l n a b n a n b n c = impl_HasCircle.l1 k' l n a n a n ((b + 1 : Nat) : Int) := by
  intro d
  induction d with
  | zero =>
    intro c k hd hk
    obtain ⟨k, rfl⟩ : ∃ m, k = m + 1 := ⟨k - 1, by omega⟩
    have e : c = n := by omega
    subst e
    have := h.1.2
    simp only [impl_HasCircle.l2]
    rw [if_neg (by omega), w64 (by omega) (by omega)]
    exact ⟨k, by omega, rfl⟩
  | succ d ih =>
    intro c k hd hk
    obtain ⟨k, rfl⟩ : ∃ m, k = m + 1 := ⟨k - 1, by omega⟩
    have hn := h.1.2
    have hc : c < n := by omega
    obtain ⟨k', hk', e⟩ := ih (c + 1) k (by omega) (by omega)
    have ew : wrap64 ((c : Int) + 1) = ((c + 1 : Nat) : Int) := by rw [w64 (by omega) (by omega)]; rfl
    refine ⟨k', by omega, ?_⟩
    simp only [impl_HasCircle.l2]
    rw [if_pos (by omega), ew, e]
    by_cases c1 : a = b
    · rw [if_pos (by omega)]
    rw [if_neg (by omega)]
    by_cases c2 : b = c
    · rw [if_pos (by omega)]
    rw [if_neg (by omega)]
    by_cases c3 : a = c
    · rw [if_pos (by omega)]
    rw [if_neg (by omega), good_beats h ha hb c1 k (by omega)]
    simp only [Option.bind_some]
    by_cases d1 : beatB l a b = true
    · rw [if_pos d1, good_beats h hb hc c2 k (by omega)]
      simp only [Option.bind_some]
      by_cases d2 : beatB l b c = true
      · rw [if_pos d2, good_beats h hc ha (fun e => c3 e.symm) k (by omega)]
        simp only [Option.bind_some]
        rw [if_neg (fun d3 => hf a b c ha hb hc c1 c2 c3 ⟨d1, d2, d3⟩)]
      · rw [if_neg d2]
    · rw [if_neg d1]
theorem circle_l1 {n : Nat} {l : List (List Int)} (h : Good n l) (hf : Flat n l) {a : Nat} (ha : a < n) : ∀ (d b k : Nat), b + d = n → 70 + 8 * d < k → ∃ k', k ≤ k' + 8 * d + 1 ∧ impl_HasCircle.l1 k l n a n a n b = impl_HasCircle.l0 k' l n n ((a + 1 : Nat) : Int) := by
  intro d
  induction d with
  | zero =>
    intro b k hd hk
    obtain ⟨k, rfl⟩ : ∃ m, k = m + 1 := ⟨k - 1, by omega⟩
    have e : b = n := by omega
    subst e
    have := h.1.2
    simp only [impl_HasCircle.l1]
    rw [if_neg (by omega), w64 (by omega) (by omega)]
    exact ⟨k, by omega, rfl⟩
  | succ d ih =>
    intro b k hd hk
    obtain ⟨k, rfl⟩ : ∃ m, k = m + 1 := ⟨k - 1, by omega⟩
    have hn := h.1.2
    obtain ⟨k1, hk1, e1⟩ := circle_l2 h hf ha (b := b) (by omega) n 0 k (by omega) (by omega)
    obtain ⟨k2, hk2, e2⟩ := ih (b + 1) k1 (by omega) (by omega)
    refine ⟨k2, by omega, ?_⟩
    simp only [impl_HasCircle.l1]
    rw [if_pos (by omega)]
    exact e1.trans e2
theorem circle_l0 {n : Nat} {l : List (List Int)} (h : Good n l) (hf : Flat n l) : ∀ (d a k : Nat), a + d = n → 120 + 40 * d < k → impl_HasCircle.l0 k l n n a = some false := by
  intro d
  induction d with
  | zero =>
    intro a k hd hk
    obtain ⟨k, rfl⟩ : ∃ m, k = m + 1 := ⟨k - 1, by omega⟩
    simp only [impl_HasCircle.l0]
    rw [if_neg (by omega)]
  | succ d ih =>
    intro a k hd hk
    obtain ⟨k, rfl⟩ : ∃ m, k = m + 1 := ⟨k - 1, by omega⟩
    have hn := h.1.2
    obtain ⟨k1, hk1, e1⟩ := circle_l1 h hf (a := a) (by omega) n 0 k (by omega) (by omega)
    have e2 := ih (a + 1) k1 (by omega) (by omega)
    simp only [impl_HasCircle.l0]
    rw [if_pos (by omega)]
    exact e1.trans e2
theorem circle_no {n : Nat} {l : List (List Int)} (h : Good n l) (hf : Flat n l) (k : Nat) (hk : 1000 < k) : impl_HasCircle.f k l n = some false := by
  unfold impl_HasCircle.f
  rw [votes_impl l n 4 k (by have := h.2.1.2; omega) h.len (by omega) (by omega), h.ok]
  simp only [Option.bind_some, if_true]
  exact circle_l0 h hf n 0 k (by omega) (by have := h.1.2; omega)
theorem flat_few {n : Nat} {l : List (List Int)} (hn : n < 3) : Flat n l := fun a b c ha hb hc h1 h2 h3 => by omega
theorem flat_one {n : Nat} {v : List Int} (h : Good n [v]) : Flat n [v] := fun a b c ha hb hc h1 h2 h3 ⟨e1, e2, e3⟩ => by
  have key : ∀ x y : Int, beatB [v] x y = true → firstA x y v = true := fun x y e => by
    have := of_decide_eq_true e
    unfold prefC at this
    simp only [List.countP_cons, List.countP_nil, List.length_cons, List.length_nil] at this
    cases f : firstA x y v with
    | true => rfl
    | false => rw [f] at this; simp at this
  exact perm_ring h.1.2 (h.2.2 v List.mem_cons_self) ha hb hc h1 h2 h3 ⟨key _ _ e1, key _ _ e2, key _ _ e3⟩
theorem one_wins {n : Nat} {v : List Int} (h : Good n [v]) : idxR (winsB [v] n) n = v.getD 0 0 := by
  have hn := h.1.2
  obtain ⟨_, h1, h0, h2⟩ := perms_only ⟨n, by omega⟩ v (h.2.2 v List.mem_cons_self) h.1.1
  dsimp only at h1 h2
  generalize v.getD 0 0 = x at h1 h0 h2
  obtain ⟨x, rfl⟩ : ∃ j : Nat, x = j := ⟨x.toNat, by omega⟩
  rw [Int.toNat_natCast] at h1
  have hw : winsB [v] n x = true := by
    unfold winsB
    rw [List.all_eq_true]
    intro b hb
    by_cases e : x = b
    · simp [e]
    · have := h2 ⟨b, List.mem_range.1 hb⟩ (by dsimp only; omega)
      dsimp only at this
      unfold beatB prefC
      simp only [List.countP_cons, List.countP_nil, this, List.length_cons, List.length_nil]
      simp
  have := wins_is h h1
  rw [hw] at this
  have := (beq_iff_eq.1 this.symm)
  exact this.symm


end Go.Proofs.Ytekcdkefomkgdaa.Lem
