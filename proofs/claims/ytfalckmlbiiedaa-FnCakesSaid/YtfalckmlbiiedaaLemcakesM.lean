/- Plain lemmas on the printed functions: what they compute; conditions stand in each lemma. -/
import Derived.Test.YtfalckmlbiiedaaQx0
import Derived.Test.YtfalckmlbiiedaaQx1
import Derived.Test.YtfalckmlbiiedaaQx2
import Derived.Test.YtfalckmlbiiedaaQx3
import Derived.Test.YtfalckmlbiiedaaQx4
import Derived.Test.YtfalckmlbiiedaaQx5
import Derived.Test.YtfalckmlbiiedaaQx6
import Derived.Test.YtfalckmlbiiedaaQx7
import Derived.Test.YtfalckmlbiiedaaQx8
import Derived.Test.YtfalckmlbiiedaaQx9
import Derived.Test.YtfalckmlbiiedaaQx10
import Derived.Test.YtfalckmlbiiedaaQx11
import Derived.Test.YtfalckmlbiiedaaQx13
import Derived.Test.YtfalckmlbiiedaaQx14
import Derived.Test.YtfalckmlbiiedaaQx15
import Derived.Test.YtfalckmlbiiedaaQx16
import Derived.Test.YtfalckmlbiiedaaQx17
import Derived.Test.YtfalckmlbiiedaaQx19
import Derived.Test.YtfalckmlbiiedaaQx20
import Derived.Test.YtfalckmlbiiedaaQx22
import Derived.Test.YtfalckmlbiiedaaQx24
import Derived.Laws.BitsLemmas
namespace Go.Proofs.Ytfalckmlbiiedaa.Lem
open Go.RowKit Go.Proofs.Ytfalckmlbiiedaa.Q Go.Proofs.YtfalckmlbiiedaaW.PrintWords Go.Proofs.YtfalckmlbiiedaaW.PrintLast Go.Proofs.YtfalckmlbiiedaaW.PrintMore
set_option linter.unusedVariables false
set_option linter.unusedSimpArgs false
-- LEM
theorem rd_nat (l : List Int) (i : Nat) : rd l (i : Int) = l.getD i 0 := by simp [rd]
theorem wf64 {n : Int} (h : (Lit.int .i64 n).wf = true) : -9223372036854775808 ≤ n ∧ n ≤ 9223372036854775807 := by
  simp only [Lit.wf, IntKind.min, IntKind.max, IntKind.signed, IntKind.bits, Bool.and_eq_true, decide_eq_true_eq, if_true] at h
  omega
theorem w64 {n : Int} (h : -9223372036854775808 ≤ n) (h2 : n ≤ 9223372036854775807) : wrap64 n = n := by
  unfold wrap64
  omega
theorem w64s {i : Int} {n : Nat} (h0 : 0 ≤ i) (h1 : i < (n : Int)) (hn : n ≤ 9223372036854775807) : wrap64 (i + 1) = i + 1 := by
  unfold wrap64
  omega
/-- A loop over places i .. n with a state, without a way out. -/
theorem run_fold {σ R : Type} (L : Nat → Int → σ → Option R) (n : Nat) (hn : n ≤ 9223372036854775807) (step : σ → Nat → σ) (fin : σ → Option R)
    (h1 : ∀ k (i : Nat) s, i < n → L (k + 1) i s = L k (wrap64 ((i : Int) + 1)) (step s i))
    (h2 : ∀ k s, L (k + 1) n s = fin s) :
    ∀ (d : Nat) (k : Nat) (i : Nat) (s : σ), i + d = n → d < k → L k i s = fin ((List.range' i d).foldl step s) := by
  intro d
  induction d with
  | zero =>
    intro k i s hd hk
    obtain ⟨k, rfl⟩ : ∃ m, k = m + 1 := ⟨k - 1, by omega⟩
    have : i = n := by omega
    subst this
    simpa using h2 k s
  | succ d ih =>
    intro k i s hd hk
    obtain ⟨k, rfl⟩ : ∃ m, k = m + 1 := ⟨k - 1, by omega⟩
    rw [h1 k i s (by omega), w64s (n := n) (by omega) (by omega) hn]
    have := ih k (i + 1) (step s i) (by omega) (by omega)
    rw [List.range'_succ, List.foldl_cons]
    simpa using this
/-- A loop over places i .. n with a state and a way out: 'none' of step: out with 'out'. -/
def foldX {σ R : Type} (step : σ → Nat → σ ⊕ R) (fin : σ → Option R) : List Nat → σ → Option R
  | [], s => fin s
  | i :: is, s => match step s i with
    | .inl s' => foldX step fin is s'
    | .inr r => some r
theorem run_foldX {σ R : Type} (L : Nat → Int → σ → Option R) (n : Nat) (hn : n ≤ 9223372036854775807) (step : σ → Nat → σ ⊕ R) (fin : σ → Option R)
    (h1 : ∀ k (i : Nat) s, i < n → L (k + 1) i s = match step s i with | .inl s' => L k (wrap64 ((i : Int) + 1)) s' | .inr r => some r)
    (h2 : ∀ k s, L (k + 1) n s = fin s) :
    ∀ (d : Nat) (k : Nat) (i : Nat) (s : σ), i + d = n → d < k → L k i s = foldX step fin (List.range' i d) s := by
  intro d
  induction d with
  | zero =>
    intro k i s hd hk
    obtain ⟨k, rfl⟩ : ∃ m, k = m + 1 := ⟨k - 1, by omega⟩
    have : i = n := by omega
    subst this
    simpa [foldX] using h2 k s
  | succ d ih =>
    intro k i s hd hk
    obtain ⟨k, rfl⟩ : ∃ m, k = m + 1 := ⟨k - 1, by omega⟩
    rw [h1 k i s (by omega), w64s (n := n) (by omega) (by omega) hn, List.range'_succ]
    simp only [foldX]
    cases hs : step s i with
    | inl s' => simpa using ih k (i + 1) s' (by omega) (by omega)
    | inr r => rfl
/-- A loop that only asks whether all places pass. -/
theorem run_all {R : Type} (L : Nat → Int → Option R) (n : Nat) (hn : n ≤ 9223372036854775807) (p : Nat → Bool) (no : R) (fin : Option R)
    (h1 : ∀ k (i : Nat), i < n → L (k + 1) i = if p i = true then L k (wrap64 ((i : Int) + 1)) else some no)
    (h2 : ∀ k, L (k + 1) n = fin) (k : Nat) (hk : n < k) : L k 0 = if (List.range n).all p then fin else some no := by
  have key : ∀ (d k i : Nat), i + d = n → d < k → L k i = if (List.range' i d).all p then fin else some no := by
    intro d
    induction d with
    | zero =>
      intro k i hd hk
      obtain ⟨k, rfl⟩ : ∃ m, k = m + 1 := ⟨k - 1, by omega⟩
      have : i = n := by omega
      subst this
      simpa using h2 k
    | succ d ih =>
      intro k i hd hk
      obtain ⟨k, rfl⟩ : ∃ m, k = m + 1 := ⟨k - 1, by omega⟩
      rw [h1 k i (by omega), w64s (n := n) (by omega) (by omega) hn, List.range'_succ, List.all_cons]
      by_cases hp : p i = true
      · have := ih k (i + 1) (by omega) (by omega)
        simp only [hp, if_true, Bool.true_and]
        simpa using this
      · simp [hp]
  have := key n k 0 (by omega) hk
  rw [List.range_eq_range']
  simpa using this
theorem all_range_getD {α : Type} (l : List α) (d : α) (p : α → Bool) : (List.range l.length).all (fun i => p (l.getD i d)) = l.all p := by
  rw [Bool.eq_iff_iff, List.all_eq_true, List.all_eq_true]
  constructor
  · intro h x hx
    obtain ⟨i, hi, rfl⟩ := List.mem_iff_getElem.1 hx
    have := h i (List.mem_range.2 hi)
    simpa [List.getD_eq_getElem?_getD, hi] using this
  · intro h i hi
    have hi' := List.mem_range.1 hi
    have := h l[i] (List.getElem_mem hi')
    simpa [List.getD_eq_getElem?_getD, hi'] using this
theorem foldl_range_getD {α σ : Type} (l : List α) (d : α) (f : σ → α → σ) (s : σ) : (List.range' 0 l.length).foldl (fun s i => f s (l.getD i d)) s = l.foldl f s := by
  have : l = (List.range' 0 l.length).map (fun i => l.getD i d) := by
    apply List.ext_getElem
    · simp
    · intro i h1 h2
      simp [List.getD_eq_getElem?_getD, h1]
  conv => rhs; rw [this, List.foldl_map]
/-- A loop that fills a row place by place. -/
theorem copy_loop {α : Type} (L : Nat → List α → Int → Option (List α)) (n : Nat) (hn : n ≤ 9223372036854775807) (v : Nat → α)
    (h1 : ∀ k (i : Nat) xs, i < n → xs.length = n → L (k + 1) xs i = L k (xs.set i (v i)) (wrap64 ((i : Int) + 1)))
    (h2 : ∀ k xs, xs.length = n → L (k + 1) xs n = some xs) (xs0 : List α) (hx : xs0.length = n) (k : Nat) (hk : n < k) : L k xs0 0 = some ((List.range n).map v) := by
  have key : ∀ (d k i : Nat) (xs : List α), i + d = n → d < k → xs.length = n → (∀ j, j < i → xs[j]? = some (v j)) → L k xs i = some ((List.range n).map v) := by
    intro d
    induction d with
    | zero =>
      intro k i xs hd hk hl hj
      obtain ⟨k, rfl⟩ : ∃ m, k = m + 1 := ⟨k - 1, by omega⟩
      have : i = n := by omega
      subst this
      rw [h2 k xs hl]
      congr 1
      apply List.ext_getElem?
      intro j
      by_cases h : j < i
      · rw [hj j h]
        simp [h]
      · rw [List.getElem?_eq_none (by omega), List.getElem?_eq_none (by simp; omega)]
    | succ d ih =>
      intro k i xs hd hk hl hj
      obtain ⟨k, rfl⟩ : ∃ m, k = m + 1 := ⟨k - 1, by omega⟩
      rw [h1 k i xs (by omega) hl, w64s (n := n) (by omega) (by omega) hn]
      have := ih k (i + 1) (xs.set i (v i)) (by omega) (by omega) (by simpa using hl) (fun j hj2 => by
        rw [List.getElem?_set]
        by_cases e : i = j
        · subst e
          simp; omega
        · rw [if_neg e]
          exact hj j (by omega))
      simpa using this
  exact key n k 0 xs0 (by omega) hk hx (fun j hj => by omega)
theorem map_range_getD {α β : Type} (l : List α) (d : α) (f : α → β) : (List.range l.length).map (fun i => f (l.getD i d)) = l.map f := by
  apply List.ext_getElem
  · simp
  · intro i h1 h2
    simp at h1
    simp [List.getD_eq_getElem?_getD, h1]
/-- A loop over the places 0 .. n with a state, what it calls wanting more than B rounds, and what holds of the state at each place. -/
theorem loop_fold {σ R : Type} (L : Nat → Int → σ → Option R) (n B : Nat) (hn : n ≤ 9223372036854775807) (P : Nat → σ → Prop) (step : σ → Nat → σ) (fin : σ → Option R)
    (h1 : ∀ k (i : Nat) s, B < k → i < n → P i s → L (k + 1) i s = L k (wrap64 ((i : Int) + 1)) (step s i))
    (hP : ∀ (i : Nat) s, i < n → P i s → P (i + 1) (step s i))
    (h2 : ∀ k s, B < k → P n s → L (k + 1) n s = fin s) (k : Nat) (s : σ) (h0 : P 0 s) (hk : n + B + 1 < k) :
    L k 0 s = fin ((List.range n).foldl step s) ∧ P n ((List.range n).foldl step s) := by
  have key : ∀ (d k i : Nat) (s : σ), i + d = n → d + B + 1 < k → P i s → L k i s = fin ((List.range' i d).foldl step s) ∧ P n ((List.range' i d).foldl step s) := by
    intro d
    induction d with
    | zero =>
      intro k i s hd hk hp
      obtain ⟨k, rfl⟩ : ∃ m, k = m + 1 := ⟨k - 1, by omega⟩
      have : i = n := by omega
      subst this
      exact ⟨by simpa using h2 k s (by omega) hp, by simpa using hp⟩
    | succ d ih =>
      intro k i s hd hk hp
      obtain ⟨k, rfl⟩ : ∃ m, k = m + 1 := ⟨k - 1, by omega⟩
      rw [h1 k i s (by omega) (by omega) hp, w64s (n := n) (by omega) (by omega) hn]
      have := ih k (i + 1) (step s i) (by omega) (by omega) (hP i s (by omega) hp)
      rw [List.range'_succ, List.foldl_cons]
      simpa using this
  have := key n k 0 s (by omega) (by omega) h0
  rw [List.range_eq_range']
  simpa using this
/-- The same without anything to hold of the state. -/
theorem loop_fold' {σ R : Type} (L : Nat → Int → σ → Option R) (n B : Nat) (hn : n ≤ 9223372036854775807) (step : σ → Nat → σ) (fin : σ → Option R)
    (h1 : ∀ k (i : Nat) s, B < k → i < n → L (k + 1) i s = L k (wrap64 ((i : Int) + 1)) (step s i))
    (h2 : ∀ k s, B < k → L (k + 1) n s = fin s) (k : Nat) (s : σ) (hk : n + B + 1 < k) :
    L k 0 s = fin ((List.range n).foldl step s) :=
  (loop_fold L n B hn (fun _ _ => True) step fin (fun k i s a b _ => h1 k i s a b) (fun _ _ _ _ => trivial) (fun k s a _ => h2 k s a) k s trivial hk).1
theorem foldl_range_getD' {α σ : Type} (l : List α) (d : α) (f : σ → α → σ) (s : σ) : (List.range l.length).foldl (fun s i => f s (l.getD i d)) s = l.foldl f s := by
  rw [List.range_eq_range']
  exact foldl_range_getD l d f s
/-- A loop with a way out. -/
theorem loop_foldX {σ R : Type} (L : Nat → Int → σ → Option R) (n B : Nat) (hn : n ≤ 9223372036854775807) (P : Nat → σ → Prop) (step : σ → Nat → σ ⊕ R) (fin : σ → Option R)
    (h1 : ∀ k (i : Nat) s, B < k → i < n → P i s → L (k + 1) i s = match step s i with | .inl s' => L k (wrap64 ((i : Int) + 1)) s' | .inr r => some r)
    (hP : ∀ (i : Nat) s s', i < n → P i s → step s i = .inl s' → P (i + 1) s')
    (h2 : ∀ k s, B < k → P n s → L (k + 1) n s = fin s) (k : Nat) (s : σ) (h0 : P 0 s) (hk : n + B + 1 < k) :
    L k 0 s = foldX step fin (List.range n) s := by
  have key : ∀ (d k i : Nat) (s : σ), i + d = n → d + B + 1 < k → P i s → L k i s = foldX step fin (List.range' i d) s := by
    intro d
    induction d with
    | zero =>
      intro k i s hd hk hp
      obtain ⟨k, rfl⟩ : ∃ m, k = m + 1 := ⟨k - 1, by omega⟩
      have : i = n := by omega
      subst this
      simpa [foldX] using h2 k s (by omega) hp
    | succ d ih =>
      intro k i s hd hk hp
      obtain ⟨k, rfl⟩ : ∃ m, k = m + 1 := ⟨k - 1, by omega⟩
      rw [h1 k i s (by omega) (by omega) hp, w64s (n := n) (by omega) (by omega) hn, List.range'_succ]
      simp only [foldX]
      cases hs : step s i with
      | inl s' => simpa using ih k (i + 1) s' (by omega) (by omega) (hP i s s' (by omega) hp hs)
      | inr r => rfl
  have := key n k 0 s (by omega) (by omega) h0
  rw [List.range_eq_range']
  simpa using this
/-- A loop that only asks whether all places pass. -/
theorem loop_all {R : Type} (L : Nat → Int → Option R) (n B : Nat) (hn : n ≤ 9223372036854775807) (p : Nat → Bool) (no : R) (fin : Option R)
    (h1 : ∀ k (i : Nat), B < k → i < n → L (k + 1) i = if p i = true then L k (wrap64 ((i : Int) + 1)) else some no)
    (h2 : ∀ k, B < k → L (k + 1) n = fin) (k : Nat) (hk : n + B + 1 < k) : L k 0 = if (List.range n).all p then fin else some no := by
  have key : ∀ (d k i : Nat), i + d = n → d + B + 1 < k → L k i = if (List.range' i d).all p then fin else some no := by
    intro d
    induction d with
    | zero =>
      intro k i hd hk
      obtain ⟨k, rfl⟩ : ∃ m, k = m + 1 := ⟨k - 1, by omega⟩
      have : i = n := by omega
      subst this
      simpa using h2 k (by omega)
    | succ d ih =>
      intro k i hd hk
      obtain ⟨k, rfl⟩ : ∃ m, k = m + 1 := ⟨k - 1, by omega⟩
      rw [h1 k i (by omega) (by omega), w64s (n := n) (by omega) (by omega) hn, List.range'_succ, List.all_cons]
      by_cases hp : p i = true
      · have := ih k (i + 1) (by omega) (by omega)
        simp only [hp, if_true, Bool.true_and]
        simpa using this
      · simp [hp]
  have := key n k 0 (by omega) hk
  rw [List.range_eq_range']
  simpa using this
/-- A loop from place i to n inside of a greater text: what it costs, and where it goes on. -/
theorem seg {σ R : Type} (L : Nat → Int → σ → Option R) (L' : Nat → σ → Option R) (n B : Nat) (C : Nat → Nat) (P : Nat → σ → Prop) (step : σ → Nat → σ)
    (h1 : ∀ k (i : Nat) s, B < k → i < n → P i s → L (k + C i) i s = L k ((i : Int) + 1) (step s i))
    (hP : ∀ (i : Nat) s, i < n → P i s → P (i + 1) (step s i))
    (h2 : ∀ k s, B < k → P n s → L (k + 1) n s = L' k s) :
    ∀ (d i k : Nat) (s : σ), i + d = n → B < k → P i s → L (k + 1 + ((List.range' i d).map C).sum) i s = L' k ((List.range' i d).foldl step s) ∧ P n ((List.range' i d).foldl step s) := by
  intro d
  induction d with
  | zero =>
    intro i k s hd hk hp
    have : i = n := by omega
    subst this
    exact ⟨by simpa using h2 k s hk hp, by simpa using hp⟩
  | succ d ih =>
    intro i k s hd hk hp
    rw [List.range'_succ, List.map_cons, List.sum_cons, List.foldl_cons]
    have e : k + 1 + (C i + ((List.range' (i + 1) d).map C).sum) = (k + 1 + ((List.range' (i + 1) d).map C).sum) + C i := by omega
    rw [e, h1 _ i s (by omega) (by omega) hp]
    have := ih (i + 1) k (step s i) (by omega) hk (hP i s (by omega) hp)
    simpa using this
theorem in_spec (a b c : Int) : spec_l01In.f a b c = some (decide (b ≤ a ∧ a ≤ c)) := by
  unfold spec_l01In.f
  by_cases h : b ≤ a <;> simp [h]
theorem in_impl (a b c : Int) : impl_in.f a b c = some (decide (b ≤ a ∧ a ≤ c)) := by
  unfold impl_in.f
  by_cases h : b ≤ a <;> simp [h]
theorem eqIntS_self (l : List Int) (k : Nat) (hl : l.length ≤ 9223372036854775807) (hk : l.length < k) : laws_eqIntS.f k l l = some true := by
  unfold laws_eqIntS.f
  rw [if_pos rfl]
  have := run_all (fun k x5 => laws_eqIntS.l0 k l l x5) l.length hl (fun _ => true) false (some true)
    (fun k i hi => by
      simp only [laws_eqIntS.l0]
      rw [if_pos (by omega), if_pos (by omega), if_pos (by omega)])
    (fun k => by
      simp only [laws_eqIntS.l0]
      rw [if_neg (by omega)]) k hk
  rw [this]
  simp
theorem toIntS_ok (l : List Int) (k : Nat) (hl : l.length ≤ 35184372088832) (hk : l.length < k) : laws_toIntS.f k l = some l := by
  unfold laws_toIntS.f
  rw [if_pos (by omega), if_pos (by simpa using hl)]
  have := copy_loop (fun k x3 x4 => laws_toIntS.l0 k l x3 x4) l.length (by omega) (fun i => id (l.getD i 0))
    (fun k i xs hi hx => by
      simp only [laws_toIntS.l0]
      rw [if_pos (by omega), if_pos (by omega), if_pos (by omega), rd_nat]
      simp)
    (fun k xs hx => by
      simp only [laws_toIntS.l0]
      rw [if_neg (by omega)]) (List.replicate l.length 0) (by simp) k hk
  rw [map_range_getD] at this
  simpa using this
def cakeOk (l : List Int) : Bool := decide (1 ≤ l.length ∧ l.length ≤ 40) && l.all fun x => decide (0 ≤ x ∧ x ≤ 1000)
theorem cakeOk_iff {l : List Int} : cakeOk l = true ↔ (1 ≤ l.length ∧ l.length ≤ 40) ∧ ∀ x ∈ l, 0 ≤ x ∧ x ≤ 1000 := by simp [cakeOk, List.all_eq_true]
theorem cake_impl (l : List Int) : impl_CakeOk.f l = some (cakeOk l) := by
  simp only [impl_CakeOk.f, in_impl, impl_allIn.f, Option.bind_some, cakeOk]
  by_cases h : (1 : Int) ≤ l.length ∧ (l.length : Int) ≤ 40
  · rw [decide_eq_true h, if_pos rfl, decide_eq_true (by omega), Bool.true_and]
    simp [Bool.decide_and]
  · rw [decide_eq_false h, if_neg (by simp), decide_eq_false (by omega), Bool.false_and]
theorem cake_spec (l : List Int) (k : Nat) (hl : l.length ≤ 9223372036854775807) (hk : l.length < k) : spec_CakeOk.f k l = some (cakeOk l) := by
  unfold spec_CakeOk.f
  rw [run_all (fun k x3 => spec_CakeOk.l0 k l x3) l.length hl (fun i => decide (0 ≤ l.getD i 0 ∧ l.getD i 0 ≤ 1000)) false (some (decide (1 ≤ l.length ∧ l.length ≤ 40)))
    (fun k i hi => by
      simp only [spec_CakeOk.l0, in_spec, Option.bind_some, rd_nat]
      rw [if_pos (by omega), if_pos (by omega)])
    (fun k => by
      simp only [spec_CakeOk.l0, in_spec, Option.bind_some]
      rw [if_neg (by omega)]
      congr 1
      rw [decide_eq_decide]
      omega) k hk]
  rw [all_range_getD l 0 (fun x => decide (0 ≤ x ∧ x ≤ 1000))]
  unfold cakeOk
  cases l.all (fun x => decide (0 ≤ x ∧ x ≤ 1000)) <;> simp
theorem sum_bounds {M : Int} : ∀ (l : List Int), (∀ x ∈ l, 0 ≤ x ∧ x ≤ M) → 0 ≤ l.sum ∧ l.sum ≤ l.length * M
  | [], _ => by simp
  | a :: l, h => by
    have := sum_bounds l (fun x hx => h x (List.mem_cons_of_mem _ hx))
    have ha := h a List.mem_cons_self
    rw [List.sum_cons, List.length_cons]
    have e : ((l.length + 1 : Nat) : Int) * M = l.length * M + M := by
      rw [Int.natCast_add, Int.add_mul]
      simp
    omega
/-- Small sums: a list whose numbers are from 0 to M, and whose length times M is small. -/
def Small (l : List Int) : Prop := ∃ M : Int, (∀ x ∈ l, 0 ≤ x ∧ x ≤ M) ∧ l.length * M ≤ 4611686018427387904 ∧ l.length ≤ 4611686018427387904
theorem Small.drop {l : List Int} (h : Small l) (i : Nat) : 0 ≤ (l.drop i).sum ∧ (l.drop i).sum ≤ l.sum := by
  obtain ⟨M, h1, h2, h3⟩ := h
  have e : l.sum = (l.take i).sum + (l.drop i).sum := by rw [← List.sum_append, List.take_append_drop]
  have a := sum_bounds (M := M) (l.take i) (fun x hx => h1 x (List.mem_of_mem_take hx))
  have b := sum_bounds (M := M) (l.drop i) (fun x hx => h1 x (List.mem_of_mem_drop hx))
  omega
theorem Small.sum {l : List Int} (h : Small l) : 0 ≤ l.sum ∧ l.sum ≤ 4611686018427387904 := by
  obtain ⟨M, h1, h2, h3⟩ := h
  have := sum_bounds l h1
  omega
theorem sumS_spec (l : List Int) (h : Small l) (k : Nat) (hk : l.length < k) : spec_l02Sum.f k l = some l.sum := by
  obtain ⟨M, h1, h2, h3⟩ := id h
  unfold spec_l02Sum.f
  have hs := h.sum
  have key : ∀ (d k i : Nat) (s : Int), i + d = l.length → d < k → s + (l.drop i).sum = l.sum → 0 ≤ s → spec_l02Sum.l0 k l s i = some l.sum := by
    intro d
    induction d with
    | zero =>
      intro k i s hd hk hsum h0
      obtain ⟨k, rfl⟩ : ∃ m, k = m + 1 := ⟨k - 1, by omega⟩
      simp only [spec_l02Sum.l0]
      rw [if_neg (by omega)]
      rw [List.drop_eq_nil_of_le (by omega)] at hsum
      simp at hsum
      rw [hsum]
    | succ d ih =>
      intro k i s hd hk hsum h0
      obtain ⟨k, rfl⟩ : ∃ m, k = m + 1 := ⟨k - 1, by omega⟩
      have hi : i < l.length := by omega
      simp only [spec_l02Sum.l0]
      rw [if_pos (by omega), if_pos (by omega), w64s (n := l.length) (by omega) (by omega) (by omega)]
      have e : rd l (i : Int) = l[i] := by simp [rd, List.getD_eq_getElem?_getD, hi]
      have hx := h1 _ (List.getElem_mem hi)
      rw [List.drop_eq_getElem_cons hi, List.sum_cons] at hsum
      have hd2 := h.drop (i + 1)
      rw [e, w64 (n := s + l[i]) (by omega) (by omega)]
      have := ih k (i + 1) (s + l[i]) (by omega) (by omega) (by omega) (by omega)
      simpa using this
  exact key l.length k 0 0 (by omega) hk (by simp) (by omega)
theorem sumI_impl (l : List Int) (h : Small l) (k : Nat) (hk : l.length < k) : impl_sum.f k l = some l.sum := by
  obtain ⟨M, h1, h2, h3⟩ := id h
  unfold impl_sum.f
  have hs := h.sum
  have key : ∀ (d k i : Nat) (s : Int), i + d = l.length → d < k → s + (l.drop i).sum = l.sum → 0 ≤ s → impl_sum.l0 k s l l.length i = some l.sum := by
    intro d
    induction d with
    | zero =>
      intro k i s hd hk hsum h0
      obtain ⟨k, rfl⟩ : ∃ m, k = m + 1 := ⟨k - 1, by omega⟩
      simp only [impl_sum.l0]
      rw [if_neg (by omega)]
      rw [List.drop_eq_nil_of_le (by omega)] at hsum
      simp at hsum
      rw [hsum]
    | succ d ih =>
      intro k i s hd hk hsum h0
      obtain ⟨k, rfl⟩ : ∃ m, k = m + 1 := ⟨k - 1, by omega⟩
      have hi : i < l.length := by omega
      simp only [impl_sum.l0]
      rw [if_pos (by omega), if_pos (by omega), if_pos (by omega), w64s (n := l.length) (by omega) (by omega) (by omega)]
      have e : rd l (i : Int) = l[i] := by simp [rd, List.getD_eq_getElem?_getD, hi]
      have hx := h1 _ (List.getElem_mem hi)
      rw [List.drop_eq_getElem_cons hi, List.sum_cons] at hsum
      have hd2 := h.drop (i + 1)
      rw [e, w64 (n := s + l[i]) (by omega) (by omega)]
      have := ih k (i + 1) (s + l[i]) (by omega) (by omega) (by omega) (by omega)
      simpa using this
  exact key l.length k 0 0 (by omega) hk (by simp) (by omega)
theorem mx_eq (a b : Int) : mx a b = max a b := by unfold mx; omega
theorem mn_eq (a b : Int) : mn a b = min a b := by unfold mn; omega
theorem cake_small {l : List Int} (h : cakeOk l = true) : Small l := by
  obtain ⟨⟨h1, h2⟩, h3⟩ := cakeOk_iff.1 h
  exact ⟨1000, h3, by omega, by omega⟩
theorem Small.sub {l m : List Int} (h : Small l) (hm : ∀ x ∈ m, x ∈ l) (hl : m.length ≤ l.length) : Small m := by
  obtain ⟨M, h1, h2, h3⟩ := h
  refine ⟨M, fun x hx => h1 x (hm x hx), ?_, by omega⟩
  rcases List.eq_nil_or_concat l with rfl | _
  · have : m.length = 0 := by simpa using hl
    simp [this]
  · by_cases hM : 0 ≤ M
    · have : (m.length : Int) * M ≤ l.length * M := Int.mul_le_mul_of_nonneg_right (by omega) hM
      omega
    · have : (m.length : Int) * M ≤ 0 := Int.mul_nonpos_of_nonneg_of_nonpos (by omega) (by omega)
      omega
theorem Small.take {l : List Int} (h : Small l) (i : Nat) : Small (l.take i) := h.sub (fun x hx => List.mem_of_mem_take hx) (by rw [List.length_take]; omega)
theorem Small.drop' {l : List Int} (h : Small l) (i : Nat) : Small (l.drop i) := h.sub (fun x hx => List.mem_of_mem_drop hx) (by rw [List.length_drop]; omega)
theorem take_drop_sum (l : List Int) (i : Nat) : (l.take i).sum + (l.drop i).sum = l.sum := by rw [← List.sum_append, List.take_append_drop]
theorem cake_parts {l : List Int} (h : cakeOk l = true) (i : Nat) : 0 ≤ (l.take i).sum ∧ 0 ≤ (l.drop i).sum ∧ (l.take i).sum + (l.drop i).sum = l.sum ∧ l.sum ≤ 40000 := by
  obtain ⟨⟨h1, h2⟩, h3⟩ := cakeOk_iff.1 h
  have a := sum_bounds (M := 1000) l h3
  have b := sum_bounds (M := 1000) (l.take i) (fun x hx => h3 x (List.mem_of_mem_take hx))
  have c := sum_bounds (M := 1000) (l.drop i) (fun x hx => h3 x (List.mem_of_mem_drop hx))
  exact ⟨b.1, c.1, take_drop_sum l i, by omega⟩
/-- One round of the reference's search: the best place and its value so far. -/
def halfStepS (l : List Int) (s : Int × Int) (i : Nat) : Int × Int := if min (l.take i).sum (l.drop i).sum > s.2 then ((i : Int), min (l.take i).sum (l.drop i).sum) else s
/-- One round of the program's search: the best place and the least difference so far. -/
def halfStepI (l : List Int) (s : Int × Int) (i : Nat) : Int × Int :=
  if (i : Int) = 0 then ((i : Int), max ((l.take i).sum - (l.drop i).sum) ((l.drop i).sum - (l.take i).sum))
  else if max ((l.take i).sum - (l.drop i).sum) ((l.drop i).sum - (l.take i).sum) < s.2 then ((i : Int), max ((l.take i).sum - (l.drop i).sum) ((l.drop i).sum - (l.take i).sum)) else s
/-- The half cut: the best place and the lesser part there. -/
def half (l : List Int) : Int × Int := if cakeOk l = true then (List.range (l.length + 1)).foldl (halfStepS l) (0, 0) else (-1, -1)
theorem half_spec (l : List Int) (k : Nat) (hl : l.length ≤ 1000000000) (hk : 2 * l.length + 8 < k) : spec_HalfCut.f k l = some (half l) := by
  simp only [spec_HalfCut.f, cake_spec l k (by omega) (by omega), Option.bind_some, half]
  by_cases h : cakeOk l = true
  · rw [if_pos h, if_pos h]
    have L := loop_fold' (fun k i s => spec_HalfCut.l0 k l s.1 s.2 i) (l.length + 1) l.length (by omega) (halfStepS l) (fun s => some s)
      (fun k i s hB hi => by
        simp only [spec_HalfCut.l0]
        rw [if_pos (by omega), if_pos (by omega), Int.toNat_natCast, sumS_spec _ ((cake_small h).take i) k (by rw [List.length_take]; omega)]
        simp only [Option.bind_some]
        rw [sumS_spec _ ((cake_small h).drop' i) k (by rw [List.length_drop]; omega)]
        simp only [Option.bind_some, mn_eq, halfStepS]
        by_cases hh : min (l.take i).sum (l.drop i).sum > s.2
        · rw [if_pos hh, if_pos hh]
        · rw [if_neg hh, if_neg hh])
      (fun k s hB => by
        simp only [spec_HalfCut.l0]
        rw [if_neg (by omega)]) k (0, 0) (by omega)
    exact L
  · rw [if_neg h, if_neg h]
theorem foldl_rel {ι σ τ : Type} (R : σ → τ → Prop) (f : σ → ι → σ) (g : τ → ι → τ) : ∀ (l : List ι), (∀ i ∈ l, ∀ s t, R s t → R (f s i) (g t i)) → ∀ s t, R s t → R (l.foldl f s) (l.foldl g t)
  | [], _, s, t, h => h
  | a :: l, H, s, t, h => by
    rw [List.foldl_cons, List.foldl_cons]
    exact foldl_rel R f g l (fun i hi => H i (List.mem_cons_of_mem _ hi)) _ _ (H a List.mem_cons_self s t h)
def HalfRel (l : List Int) (s t : Int × Int) : Prop := s.1 = t.1 ∧ 2 * s.2 + t.2 = l.sum ∧ 0 ≤ s.1 ∧ s.1 ≤ l.length ∧ s.2 = min (l.take s.1.toNat).sum (l.drop s.1.toNat).sum
theorem half_rel {l : List Int} (h : cakeOk l = true) : HalfRel l ((List.range (l.length + 1)).foldl (halfStepS l) (0, 0)) ((List.range (l.length + 1)).foldl (halfStepI l) (0, 0)) := by
  rw [List.range_succ_eq_map, List.foldl_cons, List.foldl_cons]
  apply foldl_rel (HalfRel l)
  · intro i hi s t hr
    obtain ⟨j, hj, rfl⟩ := List.mem_map.1 hi
    have hj2 := List.mem_range.1 hj
    obtain ⟨r1, r2, r3, r4, r5⟩ := hr
    have c := cake_parts h (j + 1)
    unfold halfStepS halfStepI
    rw [if_neg (show ¬ ((Nat.succ j : Nat) : Int) = 0 by omega)]
    by_cases hh : min (l.take (Nat.succ j)).sum (l.drop (Nat.succ j)).sum > s.2
    · rw [if_pos hh, if_pos (by simp only [Nat.succ_eq_add_one] at *; omega)]
      refine ⟨rfl, ?_, by omega, by omega, by simp⟩
      simp only [Nat.succ_eq_add_one] at *
      omega
    · rw [if_neg hh, if_neg (by simp only [Nat.succ_eq_add_one] at *; omega)]
      exact ⟨r1, r2, r3, r4, r5⟩
  · have c := cake_parts h 0
    have e1 : halfStepS l (0, 0) 0 = (0, 0) := by
      unfold halfStepS
      rw [if_neg]
      simp only [List.take_zero, List.drop_zero, List.sum_nil] at *
      omega
    have e2 : halfStepI l (0, 0) 0 = (0, l.sum) := by
      unfold halfStepI
      rw [if_pos (by simp)]
      simp only [List.take_zero, List.drop_zero, List.sum_nil] at *
      have : max (0 - l.sum) (l.sum - 0) = l.sum := by omega
      rw [this]
      simp
    rw [e1, e2]
    refine ⟨rfl, by simp, by simp, by simp, ?_⟩
    simp only [List.take_zero, List.drop_zero, List.sum_nil, Int.toNat_zero] at *
    omega
theorem half_impl (l : List Int) (k : Nat) (hl : l.length ≤ 1000000000) (hk : 2 * l.length + 8 < k) : impl_HalfCut.f k l = some (half l) := by
  simp only [impl_HalfCut.f, cake_impl, Option.bind_some, half]
  by_cases h : cakeOk l = true
  · rw [if_pos h, if_pos h]
    have hr := half_rel h
    have L := loop_fold (fun k i s => impl_HalfCut.l0 k l s.1 s.2 i) (l.length + 1) l.length (by omega) (fun _ (s : Int × Int) => 0 ≤ s.1 ∧ s.1 ≤ (l.length : Int)) (halfStepI l) (fun s => some (s.1, min (l.take s.1.toNat).sum (l.drop s.1.toNat).sum))
      (fun k i s hB hi _ => by
        have c := cake_parts h i
        simp only [impl_HalfCut.l0]
        rw [if_pos (by omega), if_pos (by omega), Int.toNat_natCast, sumI_impl _ ((cake_small h).take i) k (by rw [List.length_take]; omega)]
        simp only [Option.bind_some]
        rw [sumI_impl _ ((cake_small h).drop' i) k (by rw [List.length_drop]; omega)]
        simp only [Option.bind_some, mx_eq, halfStepI]
        rw [w64 (n := (l.take i).sum - (l.drop i).sum) (by omega) (by omega), w64 (n := (l.drop i).sum - (l.take i).sum) (by omega) (by omega)]
        by_cases h0 : (i : Int) = 0
        · rw [if_pos h0, if_pos h0]
        · rw [if_neg h0, if_neg h0]
          by_cases hh : max ((l.take i).sum - (l.drop i).sum) ((l.drop i).sum - (l.take i).sum) < s.2
          · rw [if_pos hh, if_pos hh]
          · rw [if_neg hh, if_neg hh])
      (fun i s hi hs => by
        unfold halfStepI
        split
        · exact ⟨by dsimp only; omega, by dsimp only; omega⟩
        · split
          · exact ⟨by dsimp only; omega, by dsimp only; omega⟩
          · exact hs)
      (fun k s hB hs => by
        simp only [impl_HalfCut.l0]
        rw [if_neg (by omega), if_pos hs.1, if_pos hs.2, sumI_impl _ ((cake_small h).take _) k (by rw [List.length_take]; omega)]
        simp only [Option.bind_some]
        rw [sumI_impl _ ((cake_small h).drop' _) k (by rw [List.length_drop]; omega)]
        simp only [Option.bind_some, mn_eq]) k (0, 0) ⟨by simp, by simp⟩ (by omega)
    rw [L.1]
    obtain ⟨r1, r2, r3, r4, r5⟩ := hr
    generalize (List.range (l.length + 1)).foldl (halfStepS l) (0, 0) = s at r1 r2 r3 r4 r5
    generalize (List.range (l.length + 1)).foldl (halfStepI l) (0, 0) = t at r1 r2
    rw [← r1, ← r5]
  · rw [if_neg h, if_neg h]
theorem half_in {l : List Int} (h : cakeOk l = true) : 0 ≤ (half l).1 ∧ (half l).1 ≤ l.length ∧ (half l).2 = min (l.take (half l).1.toNat).sum (l.drop (half l).1.toNat).sum := by
  have hr := half_rel h
  obtain ⟨r1, r2, r3, r4, r5⟩ := hr
  unfold half
  rw [if_pos h]
  exact ⟨r3, r4, r5⟩
def choose (m y : List Int) : Int × Int :=
  if cakeOk m = true ∧ cakeOk y = true ∧ m.length = y.length then
    if (y.take (half m).1.toNat).sum ≥ (y.drop (half m).1.toNat).sum then ((m.drop (half m).1.toNat).sum, (y.take (half m).1.toNat).sum) else ((m.take (half m).1.toNat).sum, (y.drop (half m).1.toNat).sum)
  else (-1, -1)
theorem choose_spec (m y : List Int) (k : Nat) (hm : m.length ≤ 1000000000) (hy : y.length ≤ 1000000000) (hk : 2 * m.length + 2 * y.length + 16 < k) : spec_Chooser.f k m y = some (choose m y) := by
  obtain ⟨k, rfl⟩ : ∃ q, k = q + 1 := ⟨k - 1, by omega⟩
  simp only [spec_Chooser.f, cake_spec m (k + 1) (by omega) (by omega), cake_spec y (k + 1) (by omega) (by omega), Option.bind_some, choose, spec_Chooser.j0]
  by_cases h1 : cakeOk m = true
  · by_cases h2 : cakeOk y = true
    · rw [if_pos h1, if_pos h2]
      by_cases h3 : m.length = y.length
      · have e : ((m.length : Int) != (y.length : Int)) = false := by rw [h3]; simp
        rw [e, if_neg (by simp), half_spec m k (by omega) (by omega), if_pos (c := cakeOk m = true ∧ _) ⟨h1, h2, h3⟩]
        simp only [Option.bind_some]
        have hi := half_in h1
        rw [if_pos hi.1, if_pos (by omega), sumS_spec _ ((cake_small h2).take _) k (by rw [List.length_take]; omega)]
        simp only [Option.bind_some]
        rw [sumS_spec _ ((cake_small h2).drop' _) k (by rw [List.length_drop]; omega)]
        simp only [Option.bind_some]
        by_cases h4 : (y.take (half m).1.toNat).sum ≥ (y.drop (half m).1.toNat).sum
        · rw [if_pos h4, if_pos h4, if_pos hi.2.1, sumS_spec _ ((cake_small h1).drop' _) k (by rw [List.length_drop]; omega)]
          rfl
        · rw [if_neg h4, if_neg h4, if_pos hi.2.1, sumS_spec _ ((cake_small h1).take _) k (by rw [List.length_take]; omega)]
          rfl
      · have e : ((m.length : Int) != (y.length : Int)) = true := by simp; omega
        rw [e, if_pos rfl, if_neg (c := cakeOk m = true ∧ _) (fun hh => h3 hh.2.2)]
    · rw [if_pos h1, if_neg h2, if_pos trivial, if_neg (c := cakeOk m = true ∧ _) (fun hh => h2 hh.2.1)]
  · rw [if_neg h1, if_pos trivial, if_neg (c := cakeOk m = true ∧ _) (fun hh => h1 hh.1)]
theorem choose_impl (m y : List Int) (k : Nat) (hm : m.length ≤ 1000000000) (hy : y.length ≤ 1000000000) (hk : 2 * m.length + 2 * y.length + 16 < k) : impl_Chooser.f k m y = some (choose m y) := by
  obtain ⟨k, rfl⟩ : ∃ q, k = q + 1 := ⟨k - 1, by omega⟩
  simp only [impl_Chooser.f, cake_impl, Option.bind_some, choose, impl_Chooser.j0]
  by_cases h1 : cakeOk m = true
  · by_cases h2 : cakeOk y = true
    · rw [if_pos h1, if_pos h2]
      by_cases h3 : m.length = y.length
      · have e : ((m.length : Int) != (y.length : Int)) = false := by rw [h3]; simp
        rw [e, if_neg (by simp), half_impl m k (by omega) (by omega), if_pos (c := cakeOk m = true ∧ _) ⟨h1, h2, h3⟩]
        simp only [Option.bind_some]
        have hi := half_in h1
        rw [if_pos hi.1, if_pos (by omega), sumI_impl _ ((cake_small h2).take _) k (by rw [List.length_take]; omega)]
        simp only [Option.bind_some]
        rw [sumI_impl _ ((cake_small h2).drop' _) k (by rw [List.length_drop]; omega)]
        simp only [Option.bind_some]
        by_cases h4 : (y.take (half m).1.toNat).sum ≥ (y.drop (half m).1.toNat).sum
        · rw [if_neg (by omega), if_pos h4, if_pos hi.2.1, sumI_impl _ ((cake_small h1).drop' _) k (by rw [List.length_drop]; omega)]
          rfl
        · rw [if_pos (by omega), if_neg h4, if_pos hi.2.1, sumI_impl _ ((cake_small h1).take _) k (by rw [List.length_take]; omega)]
          rfl
      · have e : ((m.length : Int) != (y.length : Int)) = true := by simp; omega
        rw [e, if_pos rfl, if_neg (c := cakeOk m = true ∧ _) (fun hh => h3 hh.2.2)]
    · rw [if_pos h1, if_neg h2, if_pos trivial, if_neg (c := cakeOk m = true ∧ _) (fun hh => h2 hh.2.1)]
  · rw [if_neg h1, if_pos trivial, if_neg (c := cakeOk m = true ∧ _) (fun hh => h1 hh.1)]
/-- The sum of the first i numbers. -/
def pre (l : List Int) (i : Nat) : Int := (l.take i).sum
theorem pre_succ (l : List Int) (i : Nat) : pre l (i + 1) = pre l i + l.getD i 0 := by
  unfold pre
  by_cases h : i < l.length
  · rw [List.take_succ_eq_append_getElem h, List.sum_append, List.sum_singleton]
    simp [List.getD_eq_getElem?_getD, h]
  · rw [List.take_of_length_le (by omega), List.take_of_length_le (by omega)]
    simp [List.getD_eq_getElem?_getD, show l.length ≤ i by omega]
theorem getD_nonneg {l : List Int} (h : ∀ x ∈ l, 0 ≤ x) (i : Nat) : 0 ≤ l.getD i 0 := by
  by_cases hi : i < l.length
  · have : l.getD i 0 = l[i] := by simp [List.getD_eq_getElem?_getD, hi]
    rw [this]
    exact h _ (List.getElem_mem hi)
  · simp [List.getD_eq_getElem?_getD, show l.length ≤ i by omega]
theorem pre_mono {l : List Int} (h : ∀ x ∈ l, 0 ≤ x) (i : Nat) : ∀ d, pre l i ≤ pre l (i + d)
  | 0 => Int.le_refl _
  | d + 1 => by
    have := pre_mono h i d
    have g := getD_nonneg h (i + d)
    rw [← Nat.add_assoc, pre_succ]
    omega
theorem pre_le {l : List Int} (h : ∀ x ∈ l, 0 ≤ x) {i j : Nat} (hij : i ≤ j) : pre l i ≤ pre l j := by
  have := pre_mono h i (j - i)
  rwa [show i + (j - i) = j by omega] at this
theorem pre_zero (l : List Int) : pre l 0 = 0 := rfl
theorem pre_nonneg {l : List Int} (h : ∀ x ∈ l, 0 ≤ x) (i : Nat) : 0 ≤ pre l i := pre_le h (Nat.zero_le i)
theorem pre_all (l : List Int) : pre l l.length = l.sum := by
  unfold pre
  rw [List.take_length]
/-- The cuts after i numbers, and what lies in the share that is not full: a share is cut as soon as it has x. -/
def gr (x : Int) (l : List Int) : Nat → List Int × Int
  | 0 => ([], 0)
  | i + 1 => if (gr x l i).2 + l.getD i 0 ≥ x then ((gr x l i).1 ++ [(i : Int) + 1], 0) else ((gr x l i).1, (gr x l i).2 + l.getD i 0)
def cnt (x : Int) (l : List Int) (i : Nat) : Nat := (gr x l i).1.length
theorem cnt_step (x : Int) (l : List Int) (i : Nat) : cnt x l i ≤ cnt x l (i + 1) := by
  simp only [cnt, gr]
  split <;> simp
theorem cnt_mono (x : Int) (l : List Int) (i : Nat) : ∀ d, cnt x l i ≤ cnt x l (i + d)
  | 0 => Nat.le_refl _
  | d + 1 => Nat.le_trans (cnt_mono x l i d) (cnt_step x l (i + d))
theorem cnt_le (x : Int) (l : List Int) {i j : Nat} (h : i ≤ j) : cnt x l i ≤ cnt x l j := by
  have := cnt_mono x l i (j - i)
  rwa [show i + (j - i) = j by omega] at this
theorem cnt_bound (x : Int) (l : List Int) : ∀ i, cnt x l i ≤ i
  | 0 => Nat.le_refl _
  | i + 1 => by
    have := cnt_bound x l i
    simp only [cnt, gr] at this ⊢
    split
    · simp only [List.length_append, List.length_singleton]
      omega
    · show (gr x l i).1.length ≤ i + 1
      omega
theorem gr_inv {x : Int} (hx : 1 ≤ x) {l : List Int} (h : ∀ y ∈ l, 0 ≤ y) : ∀ i, 0 ≤ (gr x l i).2 ∧ (gr x l i).2 < x ∧
    (∃ t, t ≤ i ∧ cnt x l t = cnt x l i ∧ (gr x l i).2 = pre l i - pre l t ∧ ∀ j, j < t → cnt x l j < cnt x l i) ∧
    ∀ q, q + 1 ≤ cnt x l i → ∃ j, q ≤ j ∧ j < i ∧ q ≤ cnt x l j ∧ x ≤ pre l i - pre l j := by
  intro i
  induction i with
  | zero => exact ⟨Int.le_refl _, by show (0 : Int) < x; omega, ⟨0, Nat.le_refl _, rfl, rfl, fun j hj => by omega⟩, fun q hq => by simp [cnt, gr] at hq⟩
  | succ i ih =>
    obtain ⟨a1, a2, ⟨t, t1, t2, t3, t4⟩, a4⟩ := ih
    have g := getD_nonneg h i
    have hp := pre_succ l i
    by_cases c : (gr x l i).2 + l.getD i 0 ≥ x
    · have e : gr x l (i + 1) = ((gr x l i).1 ++ [(i : Int) + 1], 0) := by rw [gr, if_pos c]
      have ec : cnt x l (i + 1) = cnt x l i + 1 := by
        unfold cnt
        rw [e]
        simp
      rw [e]
      refine ⟨Int.le_refl _, by show (0 : Int) < x; omega, ⟨i + 1, Nat.le_refl _, rfl, by show (0 : Int) = _; omega, fun j hj => ?_⟩, fun q hq => ?_⟩
      · have := cnt_le x l (show j ≤ i by omega)
        omega
      · by_cases hq2 : q + 1 ≤ cnt x l i
        · obtain ⟨j, j1, j2, j3, j4⟩ := a4 q hq2
          exact ⟨j, j1, by omega, j3, by omega⟩
        · have := cnt_bound x l t
          exact ⟨t, by omega, by omega, by omega, by omega⟩
    · have e : gr x l (i + 1) = ((gr x l i).1, (gr x l i).2 + l.getD i 0) := by rw [gr, if_neg c]
      have ec : cnt x l (i + 1) = cnt x l i := by
        unfold cnt
        rw [e]
      rw [e]
      refine ⟨by show 0 ≤ (gr x l i).2 + l.getD i 0; omega, by show (gr x l i).2 + l.getD i 0 < x; omega, ⟨t, by omega, by omega, by show (gr x l i).2 + l.getD i 0 = _; omega, fun j hj => by rw [ec]; exact t4 j hj⟩, fun q hq => ?_⟩
      obtain ⟨j, j1, j2, j3, j4⟩ := a4 q (by omega)
      exact ⟨j, j1, by omega, j3, by omega⟩
theorem cnt_up {x : Int} (hx : 1 ≤ x) {l : List Int} (h : ∀ y ∈ l, 0 ≤ y) {i j q : Nat} (hj : j ≤ i) (hq : q ≤ cnt x l j) (hs : x ≤ pre l i - pre l j) : q + 1 ≤ cnt x l i := by
  obtain ⟨a1, a2, ⟨t, t1, t2, t3, t4⟩, _⟩ := gr_inv hx h i
  apply Classical.byContradiction
  intro hn
  have m := cnt_le x l hj
  have htj : t ≤ j := by
    apply Classical.byContradiction
    intro hh
    have := t4 j (by omega)
    omega
  have := pre_le h htj
  omega
/-- The best least share of p shares of the first i numbers, as the program's table has it. -/
def Dm (l : List Int) : Nat → Nat → Int
  | 0, _ => 0
  | 1, i => pre l i
  | p + 2, i => (List.range' (p + 1) (i - (p + 1))).foldl (fun b j => max b (min (Dm l (p + 1) j) (pre l i - pre l j))) 0
theorem foldl_max_iff (f : Nat → Int) (x : Int) : ∀ (L : List Nat) (b : Int), x ≤ L.foldl (fun b j => max b (f j)) b ↔ x ≤ b ∨ ∃ j ∈ L, x ≤ f j
  | [], b => by simp
  | a :: L, b => by
    rw [List.foldl_cons, foldl_max_iff f x L]
    constructor
    · rintro (h | ⟨j, hj, h⟩)
      · by_cases hb : x ≤ b
        · exact .inl hb
        · exact .inr ⟨a, List.mem_cons_self, by omega⟩
      · exact .inr ⟨j, List.mem_cons_of_mem _ hj, h⟩
    · rintro (h | ⟨j, hj, h⟩)
      · exact .inl (by omega)
      · rcases List.mem_cons.1 hj with rfl | hj
        · exact .inl (by omega)
        · exact .inr ⟨j, hj, h⟩
theorem Dm_iff {x : Int} (hx : 1 ≤ x) {l : List Int} (h : ∀ y ∈ l, 0 ≤ y) : ∀ p i, x ≤ Dm l (p + 1) i ↔ p + 1 ≤ cnt x l i := by
  intro p
  induction p with
  | zero =>
    intro i
    show x ≤ pre l i ↔ _
    constructor
    · intro hh
      exact cnt_up hx h (Nat.zero_le i) (Nat.zero_le _) (by rw [pre_zero]; omega)
    · intro hh
      obtain ⟨j, _, _, _, j4⟩ := (gr_inv hx h i).2.2.2 0 hh
      have := pre_nonneg h j
      omega
  | succ p ih =>
    intro i
    show x ≤ (List.range' (p + 1) (i - (p + 1))).foldl (fun b j => max b (min (Dm l (p + 1) j) (pre l i - pre l j))) 0 ↔ _
    rw [foldl_max_iff (fun j => min (Dm l (p + 1) j) (pre l i - pre l j))]
    constructor
    · rintro (hh | ⟨j, hj, hh⟩)
      · omega
      · have hj2 := List.mem_range'_1.1 hj
        have hd : x ≤ Dm l (p + 1) j := by omega
        exact cnt_up hx h (show j ≤ i by omega) ((ih j).1 hd) (by omega)
    · intro hh
      obtain ⟨j, j1, j2, j3, j4⟩ := (gr_inv hx h i).2.2.2 (p + 1) hh
      have := (ih j).2 j3
      exact .inr ⟨j, List.mem_range'_1.2 ⟨j1, by omega⟩, by omega⟩
theorem foldl_max_ge (f : Nat → Int) : ∀ (L : List Nat) (b : Int), b ≤ L.foldl (fun b j => max b (f j)) b
  | [], b => Int.le_refl _
  | a :: L, b => by
    have := foldl_max_ge f L (max b (f a))
    rw [List.foldl_cons]
    omega
theorem Dm_ok {l : List Int} (h : ∀ y ∈ l, 0 ≤ y) (p i : Nat) : 0 ≤ Dm l (p + 1) i ∧ Dm l (p + 1) i ≤ pre l i := by
  have hp := pre_nonneg h i
  cases p with
  | zero => exact ⟨hp, Int.le_refl _⟩
  | succ p =>
    have h1 : 0 ≤ Dm l (p + 2) i := foldl_max_ge (fun j => min (Dm l (p + 1) j) (pre l i - pre l j)) _ 0
    refine ⟨h1, ?_⟩
    show Dm l (p + 2) i ≤ pre l i
    by_cases hd : 1 ≤ Dm l (p + 2) i
    · have := (foldl_max_iff (fun j => min (Dm l (p + 1) j) (pre l i - pre l j)) (Dm l (p + 2) i) (List.range' (p + 1) (i - (p + 1))) 0).1 (Int.le_refl _)
      rcases this with hh | ⟨j, hj, hh⟩
      · omega
      · have := pre_nonneg h j
        omega
    · omega
/-- An entry of the table before it is reached is 0. -/
theorem Dm_low {l : List Int} (p i : Nat) (h : i ≤ p + 1) : Dm l (p + 2) i = 0 := by
  show (List.range' (p + 1) (i - (p + 1))).foldl _ 0 = 0
  rw [show i - (p + 1) = 0 by omega]
  rfl
theorem sub_sum {l : List Int} (h : ∀ y ∈ l, 0 ≤ y) (i j : Nat) (hij : j ≤ i) : ((l.take i).drop j).sum = pre l i - pre l j := by
  have e : (l.take i).sum = ((l.take i).take j).sum + ((l.take i).drop j).sum := by rw [← List.sum_append, List.take_append_drop]
  rw [List.take_take, Nat.min_eq_left hij] at e
  unfold pre
  omega
theorem rdL2_set (T : List (List Int)) (p : Nat) (r : List Int) (hp : p < T.length) : rd_L2 (T.set p r) (p : Int) = r := by
  simp [rd_L2, List.getD_eq_getElem?_getD, hp]
theorem rdL2_set_ne (T : List (List Int)) (p q : Nat) (r : List Int) (h : q ≠ p) : rd_L2 (T.set p r) (q : Int) = rd_L2 T (q : Int) := by
  simp only [rd_L2, List.getD_eq_getElem?_getD, Int.toNat_natCast]
  rw [List.getElem?_set_ne (fun hh => h hh.symm)]
/-- The innermost loop: an entry grows over the places of the last cut. -/
theorem dp_inner {l : List Int} (hc : cakeOk l = true) (n : Int) (T : List (List Int)) (r : List Int) (p i : Nat) (hp1 : 2 ≤ p) (hp : p < T.length) (hr : r.length = l.length + 1) (hi : i ≤ l.length) (hT : T.length ≤ 100)
    (hprev : rd_L2 T ((p - 1 : Nat) : Int) = (List.range (l.length + 1)).map (Dm l (p - 1))) :
    ∀ (d k j : Nat) (a : Int), j + d = i → d + 60 < k → impl_BestShares.l2 k l n (T.set p (r.set i a)) p i j = impl_BestShares.l1 (k - d - 1) l n (T.set p (r.set i ((List.range' j d).foldl (fun b j => max b (min (Dm l (p - 1) j) (pre l i - pre l j))) a))) p ((i + 1 : Nat) : Int) := by
  have hsm := cake_small hc
  obtain ⟨⟨hl1, hl2⟩, hv⟩ := cakeOk_iff.1 hc
  have hv0 : ∀ y ∈ l, 0 ≤ y := fun y hy => (hv y hy).1
  intro d
  induction d with
  | zero =>
    intro k j a hj hk
    obtain ⟨k, rfl⟩ : ∃ m, k = m + 1 := ⟨k - 1, by omega⟩
    rw [impl_BestShares.l2, if_neg (by omega), w64 (n := (i : Int) + 1) (by omega) (by omega)]
    rfl
  | succ d ih =>
    intro k j a hj hk
    obtain ⟨k, rfl⟩ : ∃ m, k = m + 1 := ⟨k - 1, by omega⟩
    have e1 : wrap64 ((p : Int) - 1) = ((p - 1 : Nat) : Int) := by
      rw [w64 (by omega) (by omega)]
      omega
    have hlen : (T.set p (r.set i a)).length = T.length := List.length_set
    have hrow : rd_L2 (T.set p (r.set i a)) (p : Int) = r.set i a := rdL2_set T p _ hp
    have hrow2 : rd_L2 (T.set p (r.set i a)) ((p - 1 : Nat) : Int) = (List.range (l.length + 1)).map (Dm l (p - 1)) := by rw [rdL2_set_ne T p (p - 1) _ (by omega), hprev]
    have hrl : (r.set i a).length = l.length + 1 := by rw [List.length_set, hr]
    have hrl2 : ((List.range (l.length + 1)).map (Dm l (p - 1))).length = l.length + 1 := by simp
    have g1 : rd (r.set i a) (i : Int) = a := by simp [rd, List.getD_eq_getElem?_getD, show i < r.length by omega]
    have g2 : rd ((List.range (l.length + 1)).map (Dm l (p - 1))) (j : Int) = Dm l (p - 1) j := by
      have hjl : j < l.length + 1 := by omega
      simp [rd, List.getD_eq_getElem?_getD, hjl]
    have hs := sumI_impl ((l.take i).drop j) ((hsm.take i).drop' j) k (by simp; omega)
    rw [impl_BestShares.l2, e1, hrow, hrow2, hlen, hrl, hrl2, if_pos (by omega), if_pos (by omega), if_pos (by omega), if_pos (by omega), if_pos (by omega), if_pos (by omega), if_pos (by omega), if_pos (by omega), if_pos (by omega), if_pos (by omega), if_pos (by omega)]
    simp only [Int.toNat_natCast]
    rw [hs]
    simp only [Option.bind_some]
    rw [g1, g2, mx_eq, mn_eq, List.set_set, List.set_set, sub_sum hv0 i j (by omega), w64 (n := (j : Int) + 1) (by omega) (by omega)]
    have := ih k (j + 1) (max a (min (Dm l (p - 1) j) (pre l i - pre l j))) (by omega) (by omega)
    rw [Int.natCast_add] at this
    rw [List.range'_succ, List.foldl_cons, show k + 1 - (d + 1) - 1 = k - d - 1 by omega]
    exact this
/-- Row p of the table, filled up to place i. -/
def rowTo (l : List Int) (p i : Nat) : List Int := (List.range (l.length + 1)).map (fun t => if t < i then Dm l p t else 0)
theorem rowTo_len (l : List Int) (p i : Nat) : (rowTo l p i).length = l.length + 1 := by simp [rowTo]
theorem rowTo_set (l : List Int) (p i : Nat) : (rowTo l p i).set i (Dm l p i) = rowTo l p (i + 1) := by
  apply List.ext_getElem
  · simp [rowTo]
  · intro t h1 h2
    rw [List.getElem_set]
    simp only [rowTo, List.getElem_map, List.getElem_range]
    by_cases e : i = t
    · subst e
      rw [if_pos rfl, if_pos (by omega)]
    · rw [if_neg e]
      by_cases e2 : t < i
      · rw [if_pos e2, if_pos (by omega)]
      · rw [if_neg e2, if_neg (by omega)]
theorem rowTo_at (l : List Int) (p i : Nat) (hi : i ≤ l.length) : (rowTo l p i).set i 0 = rowTo l p i := by
  apply List.ext_getElem
  · simp [rowTo]
  · intro t h1 h2
    rw [List.getElem_set]
    simp only [rowTo, List.getElem_map, List.getElem_range]
    by_cases e : i = t
    · subst e
      rw [if_pos rfl, if_neg (by omega)]
    · rw [if_neg e]
theorem rowTo_full (l : List Int) (p : Nat) : rowTo l p (l.length + 1) = (List.range (l.length + 1)).map (Dm l p) := by
  apply List.map_congr_left
  intro t ht
  rw [if_pos (by have := List.mem_range.1 ht; omega)]
theorem rowTo_start (l : List Int) (p : Nat) (hp : 1 ≤ p) (h0 : ∀ t, t < p → Dm l p t = 0) : rowTo l p p = List.replicate (l.length + 1) 0 := by
  apply List.ext_getElem
  · simp [rowTo]
  · intro t h1 h2
    simp only [rowTo, List.getElem_map, List.getElem_range, List.getElem_replicate]
    by_cases e : t < p
    · rw [if_pos e, h0 t e]
    · rw [if_neg e]
theorem Dm_start (l : List Int) (p : Nat) (hp : 1 ≤ p) : ∀ t, t < p → Dm l p t = 0 := by
  intro t ht
  match p, hp with
  | 1, _ =>
    have : t = 0 := by omega
    subst this
    rfl
  | p + 2, _ => exact Dm_low p t (by omega)
/-- The middle loop: a row is filled. -/
theorem dp_row {l : List Int} (hc : cakeOk l = true) (n : Int) (T : List (List Int)) (p : Nat) (hp1 : 1 ≤ p) (hp : p < T.length) (hT : T.length ≤ 100)
    (hprev : 2 ≤ p → rd_L2 T ((p - 1 : Nat) : Int) = (List.range (l.length + 1)).map (Dm l (p - 1))) :
    ∀ (d k i : Nat), i + d = l.length + 1 → d * 100 + 200 < k → p ≤ i → ∃ k', k - d * 100 - 1 ≤ k' ∧ impl_BestShares.l1 k l n (T.set p (rowTo l p i)) p i = impl_BestShares.l0 k' l n (T.set p ((List.range (l.length + 1)).map (Dm l p))) ((p + 1 : Nat) : Int) := by
  have hsm := cake_small hc
  obtain ⟨⟨hl1, hl2⟩, hv⟩ := cakeOk_iff.1 hc
  have hv0 : ∀ y ∈ l, 0 ≤ y := fun y hy => (hv y hy).1
  intro d
  induction d with
  | zero =>
    intro k i hi hk hpi
    obtain ⟨k, rfl⟩ : ∃ m, k = m + 1 := ⟨k - 1, by omega⟩
    have : i = l.length + 1 := by omega
    subst this
    refine ⟨k, by omega, ?_⟩
    rw [impl_BestShares.l1, if_neg (by omega), rowTo_full, w64 (n := (p : Int) + 1) (by omega) (by omega)]
    rfl
  | succ d ih =>
    intro k i hi hk hpi
    obtain ⟨k, rfl⟩ : ∃ m, k = m + 1 := ⟨k - 1, by omega⟩
    have hlen : (T.set p (rowTo l p i)).length = T.length := List.length_set
    have hrow : rd_L2 (T.set p (rowTo l p i)) (p : Int) = rowTo l p i := rdL2_set T p _ hp
    rw [impl_BestShares.l1, if_pos (by omega), hlen, hrow]
    by_cases h1 : p = 1
    · subst h1
      have hs := sumI_impl (l.take i) (hsm.take i) k (by simp; omega)
      rw [if_pos (c := (((1 : Nat) : Int) = 1)) (by omega), if_pos (by omega), if_pos (by omega), if_pos (by omega), Int.toNat_natCast, hs]
      simp only [Option.bind_some]
      rw [rowTo_len, if_pos (by omega), Int.toNat_natCast, List.set_set, w64 (n := (i : Int) + 1) (by omega) (by omega)]
      have e : (l.take i).sum = Dm l 1 i := rfl
      rw [e, rowTo_set]
      obtain ⟨k', hk', ih⟩ := ih k (i + 1) (by omega) (by omega) (by omega)
      refine ⟨k', by omega, ?_⟩
      rw [Int.natCast_add] at ih
      exact ih
    · rw [if_neg (by omega), w64 (n := (p : Int) - 1) (by omega) (by omega)]
      have e1 : (p : Int) - 1 = ((p - 1 : Nat) : Int) := by omega
      rw [e1, ← rowTo_at l p i (by omega), dp_inner hc n T (rowTo l p i) p i (by omega) hp (rowTo_len l p i) (by omega) hT (hprev (by omega)) (i - (p - 1)) k (p - 1) 0 (by omega) (by omega)]
      have eD : (List.range' (p - 1) (i - (p - 1))).foldl (fun b j => max b (min (Dm l (p - 1) j) (pre l i - pre l j))) 0 = Dm l p i := by
        match p, hp1, h1 with
        | p + 2, _, _ => rfl
      rw [eD, rowTo_set]
      obtain ⟨k', hk', ih⟩ := ih (k - (i - (p - 1)) - 1) (i + 1) (by omega) (by omega) (by omega)
      exact ⟨k', by omega, ih⟩
set_option maxRecDepth 100000 in
theorem dp_all {l : List Int} (hc : cakeOk l = true) (n : Nat) (hn : 1 ≤ n) (hn2 : n ≤ 10) :
    ∀ (d k p : Nat) (T : List (List Int)), p + d = n + 1 → d * 5000 + 200 < k → 1 ≤ p → T.length = n + 1 → (2 ≤ p → rd_L2 T ((p - 1 : Nat) : Int) = (List.range (l.length + 1)).map (Dm l (p - 1))) → impl_BestShares.l0 k l n T p = some (Dm l n l.length) := by
  obtain ⟨⟨hl1, hl2⟩, hv⟩ := cakeOk_iff.1 hc
  intro d
  induction d with
  | zero =>
    intro k p T hp hk hp1 hT hprev
    obtain ⟨k, rfl⟩ : ∃ m, k = m + 1 := ⟨k - 1, by omega⟩
    have : p = n + 1 := by omega
    subst this
    have e := hprev (by omega)
    rw [show n + 1 - 1 = n by omega] at e
    rw [impl_BestShares.l0, if_neg (by omega), if_pos (by omega), if_pos (by omega), if_pos (by omega), e, if_pos (by simp; omega)]
    congr 1
    simp [rd, List.getD_eq_getElem?_getD]
  | succ d ih =>
    intro k p T hp hk hp1 hT hprev
    obtain ⟨k, rfl⟩ : ∃ m, k = m + 1 := ⟨k - 1, by omega⟩
    have ew : wrap64 ((l.length : Int) + 1) = ((l.length + 1 : Nat) : Int) := by
      rw [w64 (by omega) (by omega)]
      omega
    rw [impl_BestShares.l0, if_pos (by omega), ew, if_pos (by omega), if_pos (by rw [Int.toNat_natCast]; omega), if_pos (by omega), if_pos (by omega), Int.toNat_natCast, Int.toNat_natCast, ← rowTo_start l p hp1 (Dm_start l p hp1)]
    by_cases hpl : p ≤ l.length + 1
    · obtain ⟨k', hk', e⟩ := dp_row hc (n : Int) T p hp1 (by omega) (by omega) hprev (l.length + 1 - p) k p (by omega) (by omega) (Nat.le_refl _)
      rw [e]
      exact ih k' (p + 1) _ (by omega) (by omega) (by omega) (by rw [List.length_set, hT]) (fun _ => by
        rw [show p + 1 - 1 = p by omega]
        exact rdL2_set T p _ (by omega))
    · have efull : rowTo l p p = (List.range (l.length + 1)).map (Dm l p) := by
        apply List.map_congr_left
        intro t ht
        rw [if_pos (by have := List.mem_range.1 ht; omega)]
      obtain ⟨k, rfl⟩ : ∃ m, k = m + 1 := ⟨k - 1, by omega⟩
      rw [impl_BestShares.l1, if_neg (by omega), efull, w64 (n := (p : Int) + 1) (by omega) (by omega)]
      exact ih k (p + 1) _ (by omega) (by omega) (by omega) (by rw [List.length_set, hT]) (fun _ => by
        rw [show p + 1 - 1 = p by omega]
        exact rdL2_set T p _ (by omega))
def bestShares (l : List Int) (n : Int) : Int := if cakeOk l = true ∧ (1 ≤ n ∧ n ≤ 10) ∧ n ≤ l.length then Dm l n.toNat l.length else -1
theorem shares_impl (l : List Int) (n : Int) (k : Nat) (hl : l.length ≤ 1000000000) (hk : 60000 < k) : impl_BestShares.f k l n = some (bestShares l n) := by
  simp only [impl_BestShares.f, cake_impl, in_impl, Option.bind_some, bestShares]
  obtain ⟨k, rfl⟩ : ∃ m, k = m + 1 := ⟨k - 1, by omega⟩
  by_cases h : cakeOk l = true
  · rw [if_pos h]
    by_cases h1 : 1 ≤ n ∧ n ≤ 10
    · rw [decide_eq_true h1, if_pos (c := true = true) rfl]
      by_cases h2 : n ≤ l.length
      · rw [decide_eq_false (by omega), impl_BestShares.j0, if_neg (by simp), if_pos (c := cakeOk l = true ∧ _) ⟨h, h1, h2⟩]
        have ew : wrap64 (n + 1) = ((n.toNat + 1 : Nat) : Int) := by
          rw [w64 (by omega) (by omega)]
          omega
        rw [ew, if_pos (by omega), if_pos (by rw [Int.toNat_natCast]; omega), Int.toNat_natCast]
        have := dp_all h n.toNat (by omega) (by omega) n.toNat k 1 (List.replicate (n.toNat + 1) []) (by omega) (by omega) (by omega) (by simp) (fun hh => by omega)
        rw [Int.toNat_of_nonneg (by omega)] at this
        exact this
      · rw [decide_eq_true (by omega), impl_BestShares.j0, if_pos rfl, if_neg (c := cakeOk l = true ∧ _) (fun hh => h2 hh.2.2)]
    · rw [decide_eq_false h1, if_neg (c := false = true) (by simp), impl_BestShares.j0, if_pos rfl, if_neg (c := cakeOk l = true ∧ _) (fun hh => h1 hh.2.1)]
  · rw [if_neg h, impl_BestShares.j0, if_pos rfl, if_neg (c := cakeOk l = true ∧ _) (fun hh => h hh.1)]
/-- The reference's cuts are the greedy ones. -/
theorem cuts_spec {l : List Int} (hc : cakeOk l = true) (x : Int) (hx : -1000000 ≤ x) (hx2 : x ≤ 1000000) (k : Nat) (hk : l.length < k) : spec_l31Cuts.f k l x = some (gr x l l.length).1 := by
  obtain ⟨⟨hl1, hl2⟩, hv⟩ := cakeOk_iff.1 hc
  unfold spec_l31Cuts.f
  have key : ∀ (d k i : Nat), i + d = l.length → d < k → (0 ≤ (gr x l i).2 ∧ (gr x l i).2 ≤ 1000 * i) → spec_l31Cuts.l0 k l x (gr x l i).1 (gr x l i).2 i = some (gr x l l.length).1 := by
    intro d
    induction d with
    | zero =>
      intro k i hi hk hb
      obtain ⟨k, rfl⟩ : ∃ m, k = m + 1 := ⟨k - 1, by omega⟩
      have : i = l.length := by omega
      subst this
      simp only [spec_l31Cuts.l0]
      rw [if_neg (by omega)]
    | succ d ih =>
      intro k i hi hk hb
      obtain ⟨k, rfl⟩ : ∃ m, k = m + 1 := ⟨k - 1, by omega⟩
      have hi2 : i < l.length := by omega
      have er : rd l (i : Int) = l.getD i 0 := rd_nat l i
      have eg : l.getD i 0 = l[i] := by simp [List.getD_eq_getElem?_getD, hi2]
      have hvi := hv _ (List.getElem_mem hi2)
      have hcb := cnt_bound x l i
      unfold cnt at hcb
      simp only [spec_l31Cuts.l0]
      rw [if_pos (by omega), if_pos (by omega), er, w64 (n := (gr x l i).2 + l.getD i 0) (by omega) (by omega), w64 (n := (i : Int) + 1) (by omega) (by omega)]
      have := ih k (i + 1) (by omega) (by omega)
      by_cases c : (gr x l i).2 + l.getD i 0 ≥ x
      · have e : gr x l (i + 1) = ((gr x l i).1 ++ [(i : Int) + 1], 0) := by rw [gr, if_pos c]
        rw [e] at this
        rw [if_pos c, if_pos (by omega)]
        exact this ⟨by simp only; omega, by simp only; omega⟩
      · have e : gr x l (i + 1) = ((gr x l i).1, (gr x l i).2 + l.getD i 0) := by rw [gr, if_neg c]
        rw [e] at this
        rw [if_neg c]
        exact this ⟨by simp only; omega, by simp only; omega⟩
  exact key l.length k 0 (by omega) hk ⟨Int.le_refl _, by show (0 : Int) ≤ _; omega⟩
/-- The reference's halving search finds the table's answer. -/
theorem shares_spec (l : List Int) (n : Int) (k : Nat) (hl : l.length ≤ 1000000000) (hk : l.length + 60000 < k) : spec_BestShares.f k l n = some (bestShares l n) := by
  simp only [spec_BestShares.f, cake_spec l k (by omega) (by omega), in_spec, Option.bind_some, bestShares]
  obtain ⟨k, rfl⟩ : ∃ m, k = m + 1 := ⟨k - 1, by omega⟩
  by_cases h : cakeOk l = true
  · rw [if_pos h]
    by_cases h1 : 1 ≤ n ∧ n ≤ 10
    · rw [decide_eq_true h1, if_pos (c := true = true) rfl]
      by_cases h2 : n ≤ l.length
      · rw [decide_eq_false (by omega), spec_BestShares.j0, if_neg (by simp), if_pos (c := cakeOk l = true ∧ _) ⟨h, h1, h2⟩, sumS_spec l (cake_small h) k (by omega)]
        simp only [Option.bind_some]
        obtain ⟨⟨hl1, hl2⟩, hv⟩ := cakeOk_iff.1 h
        have hv0 : ∀ y ∈ l, 0 ≤ y := fun y hy => (hv y hy).1
        obtain ⟨p, hp⟩ : ∃ p, n.toNat = p + 1 := ⟨n.toNat - 1, by omega⟩
        have hD := Dm_ok hv0 p l.length
        rw [pre_all] at hD
        have hs := (cake_parts h 0).2.2.2
        have iff : ∀ x : Int, 1 ≤ x → (x ≤ Dm l (p + 1) l.length ↔ p + 1 ≤ (gr x l l.length).1.length) := fun x hx => Dm_iff hx hv0 p l.length
        rw [hp]
        generalize Dm l (p + 1) l.length = D at hD iff
        have key : ∀ (d k : Nat) (lo hi : Int), hi - lo ≤ d → 0 ≤ lo → hi ≤ 40000 → lo ≤ D → D ≤ hi → d + 100 < k → spec_BestShares.l0 k l n lo hi = some D := by
          intro d
          induction d with
          | zero =>
            intro k lo hi hd h0 hh hlo hhi hk
            obtain ⟨k, rfl⟩ : ∃ m, k = m + 1 := ⟨k - 1, by omega⟩
            rw [spec_BestShares.l0, if_neg (by omega)]
            congr 1
            omega
          | succ d ih =>
            intro k lo hi hd h0 hh hlo hhi hk
            obtain ⟨k, rfl⟩ : ∃ m, k = m + 1 := ⟨k - 1, by omega⟩
            rw [spec_BestShares.l0]
            by_cases hlt : lo < hi
            · have em : wrap64 (Int.tdiv (wrap64 (wrap64 (lo + hi) + 1)) 2) = (lo + hi + 1) / 2 := by
                rw [w64 (n := lo + hi) (by omega) (by omega), w64 (n := lo + hi + 1) (by omega) (by omega), Int.tdiv_eq_ediv_of_nonneg (by omega), w64 (by omega) (by omega)]
              rw [if_pos hlt, em]
              have m1 : lo < (lo + hi + 1) / 2 := by omega
              have m2 : (lo + hi + 1) / 2 ≤ hi := by omega
              generalize (lo + hi + 1) / 2 = m at m1 m2
              rw [cuts_spec h m (by omega) (by omega) k (by omega)]
              simp only [Option.bind_some]
              have iffm := iff m (by omega)
              by_cases hm : m ≤ D
              · rw [if_pos (by have := iffm.1 hm; omega)]
                exact ih k m hi (by omega) (by omega) hh hm hhi (by omega)
              · rw [if_neg (by intro hh2; exact hm (iffm.2 (by omega))), w64 (n := m - 1) (by omega) (by omega)]
                exact ih k lo (m - 1) (by omega) h0 (by omega) hlo (by omega) (by omega)
            · rw [if_neg hlt]
              congr 1
              omega
        exact key 40000 k 0 l.sum (by omega) (by omega) hs hD.1 hD.2 (by omega)
      · rw [decide_eq_true (by omega), spec_BestShares.j0, if_pos rfl, if_neg (c := cakeOk l = true ∧ _) (fun hh => h2 hh.2.2)]
    · rw [decide_eq_false h1, if_neg (c := false = true) (by simp), spec_BestShares.j0, if_pos rfl, if_neg (c := cakeOk l = true ∧ _) (fun hh => h1 hh.2.1)]
  · rw [if_neg h, spec_BestShares.j0, if_pos rfl, if_neg (c := cakeOk l = true ∧ _) (fun hh => h hh.1)]
theorem seg_sum (l : List Int) {i j : Nat} (h : i ≤ j) : ((l.take j).drop i).sum = pre l j - pre l i := by
  have e : ((l.take j).take i).sum + ((l.take j).drop i).sum = (l.take j).sum := take_drop_sum _ _
  rw [List.take_take, Nat.min_eq_left h] at e
  unfold pre
  omega
theorem end_sum (l : List Int) (i : Nat) : (l.drop i).sum = l.sum - pre l i := by
  have := take_drop_sum l i
  unfold pre
  omega
/-- What each of n shares must be worth. -/
def fair (l : List Int) (n : Int) : Int := (l.sum + n - 1) / n
theorem fair_iff {T n x : Int} (hn : 0 < n) : x ≥ (T + n - 1) / n ↔ x * n ≥ T := by
  have h : (T + n - 1) / n < x + 1 ↔ T + n - 1 < (x + 1) * n := Int.ediv_lt_iff_lt_mul hn
  have e : (x + 1) * n = x * n + n := by rw [Int.add_mul, Int.one_mul]
  rw [e] at h
  omega
theorem gr_prefix (x : Int) (l : List Int) (i : Nat) : ∀ d, ∃ t, (gr x l (i + d)).1 = (gr x l i).1 ++ t := by
  intro d
  induction d with
  | zero => exact ⟨[], by simp⟩
  | succ d ih =>
    obtain ⟨t, ht⟩ := ih
    show ∃ t, (gr x l ((i + d) + 1)).1 = _
    rw [gr]
    split
    · exact ⟨t ++ [((i + d : Nat) : Int) + 1], by simp [ht]⟩
    · exact ⟨t, ht⟩
/-- Behind a cut: whether there is another one. -/
theorem gr_after (x : Int) (l : List Int) (h : ∀ y ∈ l, 0 ≤ y) (f : Nat) (out : List Int) (hg : gr x l f = (out, 0)) : ∀ d, (out.length + 1 ≤ cnt x l (f + d) ∧ 0 < d ∧ x ≤ pre l (f + d) - pre l f) ∨ (gr x l (f + d) = (out, pre l (f + d) - pre l f) ∧ (d = 0 ∨ pre l (f + d) - pre l f < x)) := by
  intro d
  induction d with
  | zero =>
    right
    refine ⟨?_, .inl rfl⟩
    rw [Nat.add_zero, hg, Int.sub_self]
  | succ d ih =>
    have hp := pre_succ l (f + d)
    have g := getD_nonneg h (f + d)
    have e : f + (d + 1) = (f + d) + 1 := by omega
    rw [e]
    rcases ih with ⟨a, b, c⟩ | ⟨a, b⟩
    · left
      have := cnt_step x l (f + d)
      exact ⟨by omega, by omega, by omega⟩
    · by_cases c : pre l (f + d) - pre l f + l.getD (f + d) 0 ≥ x
      · left
        have e2 : gr x l (f + d + 1) = (out ++ [((f + d : Nat) : Int) + 1], 0) := by
          rw [gr, a, if_pos c]
        refine ⟨?_, by omega, by omega⟩
        unfold cnt
        rw [e2]
        simp
      · right
        have e2 : gr x l (f + d + 1) = (out, pre l (f + d) - pre l f + l.getD (f + d) 0) := by
          rw [gr, a, if_neg c]
        rw [e2]
        refine ⟨?_, .inr (by omega)⟩
        rw [Prod.mk.injEq]
        exact ⟨rfl, by omega⟩
theorem enough_ok {l : List Int} (hc : cakeOk l = true) (n : Nat) (hn : 1 ≤ n ∧ n ≤ 10) (v : Int) (hv : 0 ≤ v ∧ v ≤ 40000) (k : Nat) (hk : 60 < k) : impl_Shares_1p.f k v (l, (n : Int)) = some (decide (v ≥ fair l n)) := by
  obtain ⟨⟨hl1, hl2⟩, hall⟩ := cakeOk_iff.1 hc
  have hs := cake_parts hc 0
  unfold impl_Shares_1p.f impl_Shares_1.f
  dsimp only
  rw [sumI_impl l (cake_small hc) k (by omega)]
  simp only [Option.bind_some]
  have hm : 0 ≤ v * (n : Int) ∧ v * (n : Int) ≤ 400000 := by
    have h1 : 0 ≤ v * (n : Int) := Int.mul_nonneg hv.1 (by omega)
    have h2 : v * (n : Int) ≤ 40000 * 10 := Int.mul_le_mul hv.2 (by omega) (by omega) (by omega)
    omega
  rw [w64 (by omega) (by omega)]
  congr 1
  rw [decide_eq_decide]
  exact (fair_iff (by omega)).symm
/-- The program's search for the end of a share. -/
theorem next_cut {l : List Int} (hc : cakeOk l = true) (n : Nat) (hn : 1 ≤ n ∧ n ≤ 10) (out : List Int) (hout : out.length ≤ 100) (f : Nat) : ∀ (d k t : Nat), t + d = l.length → f ≤ t → d + 100 < k → gr (fair l n) l t = (out, pre l t - pre l f) →
    (∃ p k', k - d - 1 ≤ k' ∧ t < p ∧ p ≤ l.length ∧ gr (fair l n) l p = (out ++ [(p : Int)], 0) ∧ impl_cuts.l1 k l n (l, (n : Int)) out f ((t + 1 : Nat) : Int) = impl_cuts.l0 k' l n (l, (n : Int)) (out ++ [(p : Int)]) p) ∨
    (gr (fair l n) l l.length = (out, pre l l.length - pre l f) ∧ impl_cuts.l1 k l n (l, (n : Int)) out f ((t + 1 : Nat) : Int) = some ([], false)) := by
  obtain ⟨⟨hl1, hl2⟩, hall⟩ := cakeOk_iff.1 hc
  have hpos : ∀ y ∈ l, 0 ≤ y := fun y hy => (hall y hy).1
  intro d
  induction d with
  | zero =>
    intro k t ht hft hk hg
    obtain ⟨k, rfl⟩ : ∃ m, k = m + 1 := ⟨k - 1, by omega⟩
    right
    have : t = l.length := by omega
    subst this
    refine ⟨hg, ?_⟩
    rw [impl_cuts.l1, if_neg (by omega), if_pos (by omega)]
  | succ d ih =>
    intro k t ht hft hk hg
    obtain ⟨k, rfl⟩ : ∃ m, k = m + 1 := ⟨k - 1, by omega⟩
    have hp := pre_succ l t
    have h1 := pre_le hpos (show f ≤ t + 1 by omega)
    have h2 : pre l (t + 1) ≤ 40000 := by
      have := cake_parts hc (t + 1)
      unfold pre
      omega
    have h0 := pre_nonneg hpos f
    have hsm : Small ((l.take (t + 1)).drop f) := ((cake_small hc).take (t + 1)).drop' f
    have hlen : ((l.take (t + 1)).drop f).length ≤ 40 := by
      rw [List.length_drop, List.length_take]
      omega
    rw [impl_cuts.l1, if_pos (by omega), if_pos (by omega), if_pos (by omega), Int.toNat_natCast, Int.toNat_natCast, sumI_impl _ hsm k (by omega)]
    simp only [Option.bind_some]
    rw [seg_sum l (show f ≤ t + 1 by omega), enough_ok hc n hn _ (by omega) k (by omega)]
    simp only [Option.bind_some]
    by_cases c : pre l (t + 1) - pre l f ≥ fair l n
    · left
      refine ⟨t + 1, k, by omega, by omega, by omega, ?_, ?_⟩
      · rw [gr, hg, if_pos (by dsimp only; omega)]
        rfl
      · rw [decide_eq_true c, if_pos rfl, if_neg (by omega), if_pos (by omega)]
    · have hg' : gr (fair l n) l (t + 1) = (out, pre l (t + 1) - pre l f) := by
        rw [gr, hg, if_neg (by dsimp only; omega), Prod.mk.injEq]
        exact ⟨rfl, by dsimp only; omega⟩
      have ew : wrap64 (((t + 1 : Nat) : Int) + 1) = ((t + 1 + 1 : Nat) : Int) := by rw [w64 (by omega) (by omega)]; omega
      rw [decide_eq_false c, if_neg (by simp), ew]
      clear ew
      rcases ih k (t + 1) (by omega) (by omega) (by omega) hg' with ⟨p, k', a, b, c2, e, e2⟩ | h
      · exact .inl ⟨p, k', by omega, by omega, c2, e, e2⟩
      · exact .inr h
def shares (l : List Int) (n : Nat) : List Int × Bool := if (gr (fair l n) l l.length).1.length < n then ([], false) else ((gr (fair l n) l l.length).1.take (n - 1), true)
theorem cuts_ok {l : List Int} (hc : cakeOk l = true) (n : Nat) (hn : 1 ≤ n ∧ n ≤ 10) : ∀ (r k f : Nat) (out : List Int), out.length + r = n - 1 → f ≤ l.length → r * 200 + 400 < k → gr (fair l n) l f = (out, 0) → impl_cuts.l0 k l n (l, (n : Int)) out f = some (shares l n) := by
  obtain ⟨⟨hl1, hl2⟩, hall⟩ := cakeOk_iff.1 hc
  have hpos : ∀ y ∈ l, 0 ≤ y := fun y hy => (hall y hy).1
  intro r
  induction r with
  | zero =>
    intro k f out ho hf hk hg
    obtain ⟨k, rfl⟩ : ∃ m, k = m + 1 := ⟨k - 1, by omega⟩
    obtain ⟨d, hd⟩ : ∃ d, l.length = f + d := ⟨l.length - f, by omega⟩
    have A := gr_after (fair l n) l hpos f out hg d
    obtain ⟨t, ht⟩ := gr_prefix (fair l n) l f d
    rw [hg] at ht
    rw [← hd] at A ht
    dsimp only at ht
    have hs := end_sum l f
    have hall2 := pre_all l
    have h0 := pre_nonneg hpos f
    have hle := pre_le hpos hf
    have h40 := (cake_parts hc 0).2.2.2
    rw [impl_cuts.l0, w64 (n := (n : Int) - 1) (by omega) (by omega), if_neg (by omega)]
    unfold shares
    by_cases c : f = l.length
    · rw [if_pos (by omega)]
      have : d = 0 := by omega
      rcases A with ⟨_, b, _⟩ | ⟨a, _⟩
      · omega
      · rw [a, if_pos (by dsimp only; omega)]
    · have hsm : Small (l.drop f) := (cake_small hc).drop' f
      rw [if_neg (by omega), if_pos (by omega), if_pos (by omega), Int.toNat_natCast, sumI_impl _ hsm k (by rw [List.length_drop]; omega)]
      simp only [Option.bind_some]
      rw [hs, enough_ok hc n hn _ (by omega) k (by omega)]
      simp only [Option.bind_some]
      rcases A with ⟨a, b, c2⟩ | ⟨a, b⟩
      · unfold cnt at a
        rw [decide_eq_true (by omega), if_pos rfl, if_neg (by omega)]
        congr 2
        rw [ht, List.take_append_of_le_length (by omega), List.take_of_length_le (by omega)]
      · rw [decide_eq_false (by omega), if_neg (by simp), a, if_pos (by dsimp only; omega)]
  | succ r ih =>
    intro k f out ho hf hk hg
    have hmul : (r + 1) * 200 = r * 200 + 200 := by omega
    obtain ⟨k, rfl⟩ : ∃ m, k = m + 1 := ⟨k - 1, by omega⟩
    have ew : wrap64 ((f : Int) + 1) = ((f + 1 : Nat) : Int) := by rw [w64 (by omega) (by omega)]; omega
    rw [impl_cuts.l0, w64 (n := (n : Int) - 1) (by omega) (by omega), if_pos (by omega), ew]
    clear ew
    rcases next_cut hc n hn out (by omega) f (l.length - f) k f (by omega) (Nat.le_refl _) (by omega) (by rw [hg, Int.sub_self]) with ⟨p, k', a, b, c, e, e2⟩ | ⟨a, b⟩
    · rw [e2]
      exact ih k' p _ (by simp; omega) c (by omega) e
    · rw [b]
      unfold shares
      rw [a, if_pos (by dsimp only; omega)]
def sharesV (l : List Int) (n : Int) : List Int × Bool := if cakeOk l = true ∧ 1 ≤ n ∧ n ≤ 10 then shares l n.toNat else ([], false)
theorem sharesV_impl (l : List Int) (n : Int) (k : Nat) (hk : 3000 < k) : impl_Shares.f k l n = some (sharesV l n) := by
  unfold impl_Shares.f
  rw [cake_impl]
  simp only [Option.bind_some, in_impl]
  unfold sharesV
  by_cases h : cakeOk l = true
  · rw [if_pos h]
    by_cases h2 : 1 ≤ n ∧ n ≤ 10
    · rw [decide_eq_true h2, if_pos rfl, if_pos ⟨h, h2⟩]
      obtain ⟨N, rfl⟩ : ∃ N : Nat, n = N := ⟨n.toNat, by omega⟩
      unfold impl_cuts.f
      have := cuts_ok h N (by omega) (N - 1) k 0 [] (by simp) (by omega) (by omega) rfl
      have e0 : ((0 : Nat) : Int) = 0 := rfl
      rw [e0] at this
      rw [this, Int.toNat_natCast]
      rfl
    · rw [decide_eq_false h2, if_neg (by simp), if_neg (fun hh => h2 hh.2)]
  · rw [if_neg h, if_neg (fun hh => h hh.1)]
theorem sharesV_spec (l : List Int) (n : Int) (k : Nat) (hl : l.length ≤ 1000000000) (hk : l.length + 100 < k) : spec_Shares.f k l n = some (sharesV l n) := by
  obtain ⟨k, rfl⟩ : ∃ m, k = m + 1 := ⟨k - 1, by omega⟩
  unfold spec_Shares.f
  rw [cake_spec l (k + 1) (by omega) (by omega)]
  simp only [Option.bind_some, in_spec]
  unfold sharesV
  by_cases h : cakeOk l = true
  · obtain ⟨⟨hl1, hl2⟩, hall⟩ := cakeOk_iff.1 h
    have hs := cake_parts h 0
    have hs0 : 0 ≤ l.sum := by omega
    rw [if_pos h, spec_Shares.j0]
    by_cases h2 : 1 ≤ n ∧ n ≤ 10
    · rw [decide_eq_true h2, if_neg (by simp), if_pos ⟨h, h2⟩, sumS_spec l (cake_small h) k (by omega)]
      simp only [Option.bind_some]
      rw [if_neg (by omega), w64 (n := l.sum + n) (by omega) (by omega), w64 (n := l.sum + n - 1) (by omega) (by omega), Int.tdiv_eq_ediv_of_nonneg (by omega)]
      have hf : 0 ≤ fair l n ∧ fair l n ≤ 50000 := by
        unfold fair
        refine ⟨Int.ediv_nonneg (by omega) (by omega), ?_⟩
        have : (l.sum + n - 1) / n ≤ l.sum + n - 1 := Int.ediv_le_self _ (by omega)
        omega
      have ef : (l.sum + n - 1) / n = fair l n := rfl
      rw [ef, w64 (n := fair l n) (by omega) (by omega), cuts_spec h _ (by omega) (by omega) k (by omega)]
      simp only [Option.bind_some]
      obtain ⟨N, rfl⟩ : ∃ N : Nat, n = N := ⟨n.toNat, by omega⟩
      rw [Int.toNat_natCast]
      unfold shares
      by_cases c : (gr (fair l N) l l.length).1.length < N
      · rw [if_pos (by omega), if_pos c]
      · have e1 : ((N : Int) - 1).toNat = N - 1 := by omega
        rw [if_neg (by omega), if_neg c, w64 (n := (N : Int) - 1) (by omega) (by omega), if_pos (by omega), if_pos (by omega), e1]
    · rw [decide_eq_false h2, if_pos (by simp), if_neg (fun hh => h2 hh.2)]
  · rw [if_neg h, spec_Shares.j0, if_pos rfl, if_neg (fun hh => h hh.1)]
theorem sharesV_len (l : List Int) (n : Int) : (sharesV l n).1.length ≤ 10 := by
  unfold sharesV
  by_cases h : cakeOk l = true ∧ 1 ≤ n ∧ n ≤ 10
  · rw [if_pos h]
    unfold shares
    split
    · simp
    · dsimp only
      rw [List.length_take]
      omega
  · rw [if_neg h]
    simp
theorem and255 (x : Int) : 0 ≤ Go.bits .and .i64 x 255 ∧ Go.bits .and .i64 x 255 ≤ 255 := by
  have h2 : ((BitVec.ofInt 64 255).toNat : Nat) = 255 := rfl
  have h1 : ∀ a : Nat, a &&& 255 ≤ 255 := fun a => Nat.and_le_right
  have h3 := h1 (BitVec.ofInt 64 x).toNat
  have : Go.bits .and .i64 x 255 = (((BitVec.ofInt 64 x).toNat &&& 255 : Nat) : Int) := by
    have h5 : (BitVec.ofInt 64 x &&& BitVec.ofInt 64 255).toNat = (BitVec.ofInt 64 x).toNat &&& 255 := by rw [BitVec.toNat_and, h2]
    show Go.IntKind.i64.wrap ((BitVec.ofInt 64 x &&& BitVec.ofInt 64 255).toNat : Int) = _
    rw [h5, Go.IntKind.wrap_i64]
    omega
  rw [this]
  omega
theorem byte_ok (l : List Int) (i h : Int) (hi : 0 ≤ i) (hl : l.length ≤ 9223372036854775807) : ∃ x i' h', spec_l01Byte.f l i h = some (x, i', h') ∧ 0 ≤ x ∧ x ≤ 255 ∧ 0 ≤ i' := by
  unfold spec_l01Byte.f
  by_cases h1 : i < (l.length : Int)
  · rw [if_pos h1, if_pos hi]
    refine ⟨_, _, _, rfl, (and255 _).1, (and255 _).2, ?_⟩
    rw [w64 (by omega) (by omega)]
    omega
  · rw [if_neg h1]
    exact ⟨_, _, _, rfl, (and255 _).1, (and255 _).2, hi⟩
theorem below_ok (l : List Int) (i h n : Int) (hi : 0 ≤ i) (hl : l.length ≤ 9223372036854775807) : ∃ x i' h', spec_l01Below.f l i h n = some (x, i', h') ∧ 0 ≤ x ∧ (0 < n → x < n) ∧ (n ≤ 0 → x = 0) ∧ 0 ≤ i' := by
  unfold spec_l01Below.f
  by_cases h1 : n ≤ 0
  · rw [if_pos h1]
    exact ⟨_, _, _, rfl, Int.le_refl _, fun h => by omega, fun _ => rfl, hi⟩
  · rw [if_neg h1]
    have hn : n ≠ 0 := by omega
    by_cases h2 : n ≤ 256
    · rw [if_pos h2]
      obtain ⟨x, i1, g1, e1, a1, b1, c1⟩ := byte_ok l i h hi hl
      rw [e1]
      simp only [Option.bind_some]
      rw [if_neg hn]
      refine ⟨_, _, _, rfl, Int.tmod_nonneg _ a1, fun h => ?_, fun h => by omega, c1⟩
      exact Int.tmod_lt_of_pos _ h
    · rw [if_neg h2]
      obtain ⟨x1, i1, g1, e1, a1, b1, c1⟩ := byte_ok l i h hi hl
      rw [e1]
      simp only [Option.bind_some]
      obtain ⟨x2, i2, g2, e2, a2, b2, c2⟩ := byte_ok l i1 g1 c1 hl
      rw [e2]
      simp only [Option.bind_some]
      obtain ⟨x3, i3, g3, e3, a3, b3, c3⟩ := byte_ok l i2 g2 c2 hl
      rw [e3]
      simp only [Option.bind_some]
      obtain ⟨x4, i4, g4, e4, a4, b4, c4⟩ := byte_ok l i3 g3 c3 hl
      rw [e4]
      simp only [Option.bind_some]
      rw [if_neg hn]
      refine ⟨_, _, _, rfl, Int.tmod_nonneg _ ?_, fun h => Int.tmod_lt_of_pos _ h, fun h => by omega, c4⟩
      unfold wrap64
      omega
theorem new_ok (l : List Int) (k : Nat) (hk : l.length < k) (hl : l.length ≤ 9223372036854775807) : ∃ h, spec_l01New.f k l = some (l, 0, h) := by
  have key : ∀ (d k : Nat) (h : Int) (i : Nat), i ≤ l.length → l.length - i = d → d < k → ∃ h', spec_l01New.l0 k l h i = some (l, 0, h') := by
    intro d
    induction d with
    | zero =>
      intro k h i hi hd hk
      obtain ⟨k, rfl⟩ : ∃ m, k = m + 1 := ⟨k - 1, by omega⟩
      simp only [spec_l01New.l0]
      rw [if_neg (by omega)]
      exact ⟨_, rfl⟩
    | succ d ih =>
      intro k h i hi hd hk
      obtain ⟨k, rfl⟩ : ∃ m, k = m + 1 := ⟨k - 1, by omega⟩
      simp only [spec_l01New.l0]
      rw [if_pos (by omega)]
      by_cases h4 : (i : Int) < 4000
      · rw [if_pos h4, if_pos (by omega), w64s (n := l.length) (by omega) (by omega) hl]
        exact ih k _ (i + 1) (by omega) (by omega) (by omega)
      · rw [if_neg h4]
        exact ⟨_, rfl⟩
  exact key l.length k _ 0 (by omega) (by omega) hk
theorem at_ok (l : List Int) (i : Int) (hi : 0 ≤ i) (hi2 : i ≤ 1000) (hl : l.length ≤ 9223372036854775807) (hw : ∀ x ∈ l, (Lit.int .u8 x).wf = true) : ∃ v, laws_at.f l i = some v ∧ 0 ≤ v ∧ v ≤ 255 := by
  unfold laws_at.f
  by_cases h : (l.length : Int) = 0
  · rw [if_pos h]
    exact ⟨0, rfl, by omega, by omega⟩
  · rw [if_neg h]
    have e : wrap64 (wrap64 (i * 5) + 1) = i * 5 + 1 := by unfold wrap64; omega
    rw [e]
    have h1 : 0 ≤ Int.tmod (i * 5 + 1) (l.length : Int) := Int.tmod_nonneg _ (by omega)
    have h2 : Int.tmod (i * 5 + 1) (l.length : Int) < (l.length : Int) := Int.tmod_lt_of_pos _ (by omega)
    rw [if_pos h1, if_pos h2]
    generalize Int.tmod (i * 5 + 1) (l.length : Int) = j at h1 h2
    have hj : j.toNat < l.length := by omega
    have hr : rd l j = l[j.toNat] := by simp [rd, List.getD_eq_getElem?_getD, hj]
    have hb := hw _ (List.getElem_mem hj)
    simp only [Lit.wf, IntKind.min, IntKind.max, IntKind.signed, IntKind.bits, Bool.and_eq_true, decide_eq_true_eq] at hb
    rw [hr]
    generalize l[j.toNat] = v at hb
    refine ⟨_, rfl, ?_, ?_⟩ <;> (rw [w64 (by simp at hb; omega) (by simp at hb; omega)]; simp at hb; omega)
theorem big_eq (l : List Int) : laws_big.f l = some (decide ((l.length : Int) > 1048576)) := rfl
theorem draw_list (l : List Int) (hl : l.length ≤ 1000000000) (n : Int) (hn : 0 ≤ n ∧ n ≤ 1000) : ∀ (d k : Nat) (i p q : Int) (xs : List Int), 0 ≤ i → i + d = n → d < k → (xs.length : Int) = i → 0 ≤ p → (∀ x ∈ xs, 0 ≤ x ∧ x < 20) → ∃ ys p' q', spec_l31List.l0 k xs n i l p q = some (ys, p', q') ∧ (ys.length : Int) = n ∧ (∀ x ∈ ys, 0 ≤ x ∧ x < 20) ∧ 0 ≤ p' := by
  intro d
  induction d with
  | zero =>
    intro k i p q xs hi hd hk hx hp hok
    obtain ⟨k, rfl⟩ : ∃ m, k = m + 1 := ⟨k - 1, by omega⟩
    rw [spec_l31List.l0, if_neg (by omega)]
    exact ⟨xs, p, q, rfl, by omega, hok, hp⟩
  | succ d ih =>
    intro k i p q xs hi hd hk hx hp hok
    obtain ⟨k, rfl⟩ : ∃ m, k = m + 1 := ⟨k - 1, by omega⟩
    rw [spec_l31List.l0, if_pos (by omega)]
    obtain ⟨u, i2, h2, e2, a2, b2, _, d2⟩ := below_ok l p q 20 hp (by omega)
    rw [e2]
    simp only [Option.bind_some]
    have hu := b2 (by omega)
    rw [if_pos (by omega), w64 (n := i + 1) (by omega) (by omega)]
    refine ih k (i + 1) i2 h2 _ (by omega) (by omega) (by omega) (by simp; omega) d2 (fun x hx2 => ?_)
    rcases List.mem_append.1 hx2 with h | h
    · exact hok x h
    · have := List.mem_singleton.1 h
      omega
theorem draw_second (l a : List Int) (hl : l.length ≤ 1000000000) (ha : a.length ≤ 1000) : ∀ (d k : Nat) (i p q : Int) (xs : List Int), 0 ≤ i → i + d = a.length → d < k → (xs.length : Int) = i → 0 ≤ p → (∀ x ∈ xs, 0 ≤ x ∧ x < 20) → ∃ ys, spec_DrawCakes.l0 k a xs i l p q = some (a, ys) ∧ ys.length = a.length ∧ (∀ x ∈ ys, 0 ≤ x ∧ x < 20) := by
  intro d
  induction d with
  | zero =>
    intro k i p q xs hi hd hk hx hp hok
    obtain ⟨k, rfl⟩ : ∃ m, k = m + 1 := ⟨k - 1, by omega⟩
    rw [spec_DrawCakes.l0, if_neg (by omega)]
    exact ⟨xs, rfl, by omega, hok⟩
  | succ d ih =>
    intro k i p q xs hi hd hk hx hp hok
    obtain ⟨k, rfl⟩ : ∃ m, k = m + 1 := ⟨k - 1, by omega⟩
    rw [spec_DrawCakes.l0, if_pos (by omega)]
    obtain ⟨u, i2, h2, e2, a2, b2, _, d2⟩ := below_ok l p q 20 hp (by omega)
    rw [e2]
    simp only [Option.bind_some]
    have hu := b2 (by omega)
    rw [if_pos (by omega), w64 (n := i + 1) (by omega) (by omega)]
    refine ih k (i + 1) i2 h2 _ (by omega) (by omega) (by omega) (by simp; omega) d2 (fun x hx2 => ?_)
    rcases List.mem_append.1 hx2 with h | h
    · exact hok x h
    · have := List.mem_singleton.1 h
      omega
theorem draw_cakes (l : List Int) (hl : l.length ≤ 1000000000) (k : Nat) (hk : l.length + 40 < k) : ∃ a b, spec_DrawCakes.f k l = some (a, b) ∧ cakeOk a = true ∧ cakeOk b = true ∧ a.length = b.length ∧ a.length ≤ 10 := by
  unfold spec_DrawCakes.f
  obtain ⟨h, e⟩ := new_ok l k (by omega) (by omega)
  rw [e]
  simp only [Option.bind_some]
  unfold spec_l31List.f
  obtain ⟨n, i1, h1, e1, a1, b1, c1, d1⟩ := below_ok l 0 h 10 (by omega) (by omega)
  rw [e1]
  simp only [Option.bind_some]
  have hn := b1 (by omega)
  rw [w64 (n := 1 + n) (by omega) (by omega)]
  obtain ⟨a, p', q', e2, hal, hav, hp'⟩ := draw_list l hl (1 + n) (by omega) (1 + n).toNat k 0 i1 h1 [] (by omega) (by omega) (by omega) rfl d1 (fun x hx => by simp at hx)
  rw [e2]
  simp only [Option.bind_some]
  obtain ⟨b, e3, hbl, hbv⟩ := draw_second l a hl (by omega) a.length k 0 p' q' [] (by omega) (by omega) (by omega) rfl hp' (fun x hx => by simp at hx)
  rw [e3]
  refine ⟨a, b, rfl, cakeOk_iff.2 ⟨by omega, fun x hx => ?_⟩, cakeOk_iff.2 ⟨by omega, fun x hx => ?_⟩, hbl.symm, by omega⟩
  · have := hav x hx
    omega
  · have := hbv x hx
    omega
theorem half_max {l : List Int} (h : cakeOk l = true) (i : Nat) (hi : i ≤ l.length) : min (l.take i).sum (l.drop i).sum ≤ (half l).2 := by
  unfold half
  rw [if_pos h]
  have key : ∀ m i, i < m → min (l.take i).sum (l.drop i).sum ≤ ((List.range m).foldl (halfStepS l) (0, 0)).2 := by
    intro m
    induction m with
    | zero => intro i hi; omega
    | succ m ih =>
      intro i hi
      rw [List.range_succ, List.foldl_append, List.foldl_cons, List.foldl_nil]
      unfold halfStepS
      by_cases c : min (l.take m).sum (l.drop m).sum > ((List.range m).foldl (halfStepS l) (0, 0)).2
      · rw [if_pos (by exact c)]
        dsimp only
        by_cases e : i = m
        · subst e
          exact Int.le_refl _
        · have := ih i (by omega)
          unfold halfStepS at this
          unfold halfStepS at c
          omega
      · rw [if_neg (by exact c)]
        by_cases e : i = m
        · subst e
          unfold halfStepS at c
          omega
        · exact ih i (by omega)
  exact key (l.length + 1) i (by omega)
theorem cnt_zero {l : List Int} (h : ∀ y ∈ l, 0 ≤ y) : ∀ i, cnt 0 l i = i ∧ (gr 0 l i).2 = 0 := by
  intro i
  induction i with
  | zero => exact ⟨rfl, rfl⟩
  | succ i ih =>
    have g := getD_nonneg h i
    have e : gr 0 l (i + 1) = ((gr 0 l i).1 ++ [(i : Int) + 1], 0) := by rw [gr, if_pos (by omega)]
    refine ⟨?_, by rw [e]⟩
    have := ih.1
    unfold cnt at this ⊢
    rw [e, List.length_append, List.length_singleton, this]
theorem cnt_mul {x : Int} {l : List Int} : ∀ i, x * (cnt x l i : Int) + (gr x l i).2 ≤ pre l i := by
  intro i
  induction i with
  | zero => simp [cnt, gr, pre]
  | succ i ih =>
    have hp := pre_succ l i
    unfold cnt at ih ⊢
    rw [gr]
    by_cases c : (gr x l i).2 + l.getD i 0 ≥ x
    · rw [if_pos c]
      dsimp only
      rw [List.length_append, List.length_singleton, Int.natCast_add, Int.mul_add]
      simp only [Int.natCast_one, Int.mul_one]
      omega
    · rw [if_neg c]
      dsimp only
      omega
def fromJ (out : List Int) (j : Nat) : Int := if j = 0 then 0 else out.getD (j - 1) 0
theorem fromJ_app (out : List Int) (e : Int) (j : Nat) (hj : j ≤ out.length) : fromJ (out ++ [e]) j = fromJ out j := by
  unfold fromJ
  by_cases c : j = 0
  · rw [if_pos c, if_pos c]
  · rw [if_neg c, if_neg c, List.getD_eq_getElem?_getD, List.getElem?_append_left (by omega), ← List.getD_eq_getElem?_getD]
/-- The cuts are a chain of fair shares. -/
theorem chain {x : Int} {l : List Int} : ∀ i, (gr x l i).2 = pre l i - pre l (fromJ (gr x l i).1 (gr x l i).1.length).toNat ∧ 0 ≤ fromJ (gr x l i).1 (gr x l i).1.length ∧ fromJ (gr x l i).1 (gr x l i).1.length ≤ i ∧
    ∀ j, j < (gr x l i).1.length → 0 ≤ fromJ (gr x l i).1 j ∧ fromJ (gr x l i).1 j < (gr x l i).1.getD j 0 ∧ (gr x l i).1.getD j 0 ≤ i ∧ pre l ((gr x l i).1.getD j 0).toNat - pre l (fromJ (gr x l i).1 j).toNat ≥ x := by
  intro i
  induction i with
  | zero =>
    refine ⟨?_, Int.le_refl _, Int.le_refl _, fun j hj => by simp [gr] at hj⟩
    simp [gr, fromJ, pre]
  | succ i ih =>
    obtain ⟨h1, h2, h3, h4⟩ := ih
    have hp := pre_succ l i
    rw [gr]
    by_cases c : (gr x l i).2 + l.getD i 0 ≥ x
    · rw [if_pos c]
      dsimp only
      generalize (gr x l i).1 = out at h1 h2 h3 h4
      have hlast : fromJ (out ++ [(i : Int) + 1]) (out ++ [(i : Int) + 1]).length = (i : Int) + 1 := by
        unfold fromJ
        rw [if_neg (by simp)]
        simp [List.getD_eq_getElem?_getD]
      rw [hlast]
      refine ⟨?_, by omega, by omega, fun j hj => ?_⟩
      · have : ((i : Int) + 1).toNat = i + 1 := by omega
        rw [this]
        omega
      · rw [List.length_append, List.length_singleton] at hj
        rw [fromJ_app _ _ _ (by omega)]
        by_cases e : j = out.length
        · subst e
          have hg : (out ++ [(i : Int) + 1]).getD out.length 0 = (i : Int) + 1 := by simp [List.getD_eq_getElem?_getD]
          rw [hg]
          have : ((i : Int) + 1).toNat = i + 1 := by omega
          rw [this]
          exact ⟨h2, by omega, by omega, by omega⟩
        · have hg : (out ++ [(i : Int) + 1]).getD j 0 = out.getD j 0 := by
            rw [List.getD_eq_getElem?_getD, List.getElem?_append_left (by omega), ← List.getD_eq_getElem?_getD]
          rw [hg]
          obtain ⟨a, b, c2, d⟩ := h4 j (by omega)
          exact ⟨a, b, by omega, d⟩
    · rw [if_neg c]
      dsimp only
      refine ⟨by omega, h2, by omega, fun j hj => ?_⟩
      obtain ⟨a, b, c2, d⟩ := h4 j hj
      exact ⟨a, b, by omega, d⟩
/-- The best least share, and whether fair shares there are. -/
theorem best_facts {l : List Int} (hc : cakeOk l = true) (m : Nat) (hm : 1 ≤ m ∧ m ≤ 10) : (bestShares l m = -1 ↔ l.length < m) ∧ (-1 ≤ bestShares l m ∧ bestShares l m ≤ 40000) ∧ (sharesV l m).2 = decide (bestShares l m ≥ 0 ∧ bestShares l m * m ≥ l.sum) ∧ bestShares l m * m ≤ l.sum := by
  obtain ⟨⟨hl1, hl2⟩, hall⟩ := cakeOk_iff.1 hc
  have hpos : ∀ y ∈ l, 0 ≤ y := fun y hy => (hall y hy).1
  have h40 := cake_parts hc 0
  have hpa := pre_all l
  have hT : 0 ≤ l.sum := by rw [← hpa]; exact pre_nonneg hpos _
  have hf : 0 ≤ fair l m := by
    unfold fair
    exact Int.ediv_nonneg (by omega) (by omega)
  have hok : (sharesV l m).2 = decide (m ≤ cnt (fair l m) l l.length) := by
    unfold sharesV
    rw [if_pos ⟨hc, by omega⟩, Int.toNat_natCast]
    unfold shares cnt
    by_cases c : (gr (fair l m) l l.length).1.length < m
    · rw [if_pos c, decide_eq_false (by omega)]
    · rw [if_neg c, decide_eq_true (by omega)]
  unfold bestShares
  by_cases c : (m : Int) ≤ l.length
  · rw [if_pos ⟨hc, by omega, c⟩, Int.toNat_natCast]
    obtain ⟨p, rfl⟩ : ∃ p, m = p + 1 := ⟨m - 1, by omega⟩
    obtain ⟨d1, d2⟩ := Dm_ok hpos p l.length
    have hfi : Dm l (p + 1) l.length ≥ fair l ((p + 1 : Nat) : Int) ↔ Dm l (p + 1) l.length * ((p + 1 : Nat) : Int) ≥ l.sum := fair_iff (by omega)
    refine ⟨by omega, by omega, ?_, ?_⟩
    · rw [hok, decide_eq_decide, ← hfi]
      by_cases c2 : fair l ((p + 1 : Nat) : Int) = 0
      · have := (cnt_zero hpos l.length).1
        rw [c2, this]
        omega
      · have := Dm_iff (x := fair l ((p + 1 : Nat) : Int)) (by omega) hpos p l.length
        omega
    · by_cases c2 : Dm l (p + 1) l.length = 0
      · rw [c2]
        simp
        exact hT
      · have h1 := (Dm_iff (x := Dm l (p + 1) l.length) (by omega) hpos p l.length).1 (Int.le_refl _)
        have h2 := cnt_mul (x := Dm l (p + 1) l.length) (l := l) l.length
        have h3 := (gr_inv (x := Dm l (p + 1) l.length) (by omega) hpos l.length).1
        have h4 : Dm l (p + 1) l.length * ((p + 1 : Nat) : Int) ≤ Dm l (p + 1) l.length * (cnt (Dm l (p + 1) l.length) l l.length : Int) := Int.mul_le_mul_of_nonneg_left (by omega) (by omega)
        omega
  · have hn : ¬ (cakeOk l = true ∧ (1 ≤ (m : Int) ∧ (m : Int) ≤ 10) ∧ (m : Int) ≤ l.length) := fun h => c h.2.2
    rw [if_neg hn]
    have := cnt_bound (fair l m) l l.length
    refine ⟨by omega, by omega, ?_, by omega⟩
    rw [hok, decide_eq_decide]
    omega

end Go.Proofs.Ytfalckmlbiiedaa.Lem
