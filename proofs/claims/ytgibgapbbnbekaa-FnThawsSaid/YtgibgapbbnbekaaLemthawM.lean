/- Plain lemmas on the printed functions: what they compute; conditions stand in each lemma. -/
import Derived.Test.YtgibgapbbnbekaaQx0
import Derived.Test.YtgibgapbbnbekaaQx1
import Derived.Test.YtgibgapbbnbekaaQx2
import Derived.Test.YtgibgapbbnbekaaQx3
import Derived.Test.YtgibgapbbnbekaaQx4
import Derived.Test.YtgibgapbbnbekaaQx5
import Derived.Test.YtgibgapbbnbekaaQx6
import Derived.Test.YtgibgapbbnbekaaQx7
import Derived.Test.YtgibgapbbnbekaaQx8
import Derived.Test.YtgibgapbbnbekaaQx9
import Derived.Test.YtgibgapbbnbekaaQx10
import Derived.Test.YtgibgapbbnbekaaQx11
import Derived.Test.YtgibgapbbnbekaaQx12
import Derived.Test.YtgibgapbbnbekaaQx13
import Derived.Test.YtgibgapbbnbekaaQx14
import Derived.Test.YtgibgapbbnbekaaQx16
import Derived.Test.YtgibgapbbnbekaaQx17
import Derived.Test.YtgibgapbbnbekaaQx18
import Derived.Test.YtgibgapbbnbekaaQx20
import Derived.Laws.BitsLemmas
namespace Go.Proofs.Ytgibgapbbnbekaa.Lem
open Go.RowKit Go.Proofs.Ytgibgapbbnbekaa.Q Go.Proofs.YtgibgapbbnbekaaW.PrintWords Go.Proofs.YtgibgapbbnbekaaW.PrintLast Go.Proofs.YtgibgapbbnbekaaW.PrintMore
set_option linter.unusedVariables false
set_option linter.unusedSimpArgs false
-- LEM
theorem rd_nat (l : List Int) (i : Nat) : rd l (i : Int) = l.getD i 0 := by simp [rd]
theorem wf64 {n : Int} (h : (Lit.int .i64 n).wf = true) : -9223372036854775808 ≤ n ∧ n ≤ 9223372036854775807 := by
  simp only [Lit.wf, IntKind.min, IntKind.max, IntKind.signed, IntKind.bits, Bool.and_eq_true, decide_eq_true_eq, if_true] at h
  omega
theorem w64 {n : Int} (h : -9223372036854775808 ≤ n) (h2 : n ≤ 9223372036854775807) : wrap64 n = n := by
  unfold wrap64
  omega
theorem w64s {i : Int} {n : Nat} (h0 : 0 ≤ i) (h1 : i < (n : Int)) (hn : n ≤ 9223372036854775807) : wrap64 (i + 1) = i + 1 := by
  unfold wrap64
  omega
/-- A loop over places i .. n with a state, without a way out. -/
theorem run_fold {σ R : Type} (L : Nat → Int → σ → Option R) (n : Nat) (hn : n ≤ 9223372036854775807) (step : σ → Nat → σ) (fin : σ → Option R)
    (h1 : ∀ k (i : Nat) s, i < n → L (k + 1) i s = L k (wrap64 ((i : Int) + 1)) (step s i))
    (h2 : ∀ k s, L (k + 1) n s = fin s) :
    ∀ (d : Nat) (k : Nat) (i : Nat) (s : σ), i + d = n → d < k → L k i s = fin ((List.range' i d).foldl step s) := by
  intro d
  induction d with
  | zero =>
    intro k i s hd hk
    obtain ⟨k, rfl⟩ : ∃ m, k = m + 1 := ⟨k - 1, by omega⟩
    have : i = n := by omega
    subst this
    simpa using h2 k s
  | succ d ih =>
    intro k i s hd hk
    obtain ⟨k, rfl⟩ : ∃ m, k = m + 1 := ⟨k - 1, by omega⟩
    rw [h1 k i s (by omega), w64s (n := n) (by omega) (by omega) hn]
    have := ih k (i + 1) (step s i) (by omega) (by omega)
    rw [List.range'_succ, List.foldl_cons]
    simpa using this
/-- A loop over places i .. n with a state and a way out: 'none' of step: out with 'out'. -/
def foldX {σ R : Type} (step : σ → Nat → σ ⊕ R) (fin : σ → Option R) : List Nat → σ → Option R
  | [], s => fin s
  | i :: is, s => match step s i with
    | .inl s' => foldX step fin is s'
    | .inr r => some r
theorem run_foldX {σ R : Type} (L : Nat → Int → σ → Option R) (n : Nat) (hn : n ≤ 9223372036854775807) (step : σ → Nat → σ ⊕ R) (fin : σ → Option R)
    (h1 : ∀ k (i : Nat) s, i < n → L (k + 1) i s = match step s i with | .inl s' => L k (wrap64 ((i : Int) + 1)) s' | .inr r => some r)
    (h2 : ∀ k s, L (k + 1) n s = fin s) :
    ∀ (d : Nat) (k : Nat) (i : Nat) (s : σ), i + d = n → d < k → L k i s = foldX step fin (List.range' i d) s := by
  intro d
  induction d with
  | zero =>
    intro k i s hd hk
    obtain ⟨k, rfl⟩ : ∃ m, k = m + 1 := ⟨k - 1, by omega⟩
    have : i = n := by omega
    subst this
    simpa [foldX] using h2 k s
  | succ d ih =>
    intro k i s hd hk
    obtain ⟨k, rfl⟩ : ∃ m, k = m + 1 := ⟨k - 1, by omega⟩
    rw [h1 k i s (by omega), w64s (n := n) (by omega) (by omega) hn, List.range'_succ]
    simp only [foldX]
    cases hs : step s i with
    | inl s' => simpa using ih k (i + 1) s' (by omega) (by omega)
    | inr r => rfl
/-- A loop that only asks whether all places pass. -/
theorem run_all {R : Type} (L : Nat → Int → Option R) (n : Nat) (hn : n ≤ 9223372036854775807) (p : Nat → Bool) (no : R) (fin : Option R)
    (h1 : ∀ k (i : Nat), i < n → L (k + 1) i = if p i = true then L k (wrap64 ((i : Int) + 1)) else some no)
    (h2 : ∀ k, L (k + 1) n = fin) (k : Nat) (hk : n < k) : L k 0 = if (List.range n).all p then fin else some no := by
  have key : ∀ (d k i : Nat), i + d = n → d < k → L k i = if (List.range' i d).all p then fin else some no := by
    intro d
    induction d with
    | zero =>
      intro k i hd hk
      obtain ⟨k, rfl⟩ : ∃ m, k = m + 1 := ⟨k - 1, by omega⟩
      have : i = n := by omega
      subst this
      simpa using h2 k
    | succ d ih =>
      intro k i hd hk
      obtain ⟨k, rfl⟩ : ∃ m, k = m + 1 := ⟨k - 1, by omega⟩
      rw [h1 k i (by omega), w64s (n := n) (by omega) (by omega) hn, List.range'_succ, List.all_cons]
      by_cases hp : p i = true
      · have := ih k (i + 1) (by omega) (by omega)
        simp only [hp, if_true, Bool.true_and]
        simpa using this
      · simp [hp]
  have := key n k 0 (by omega) hk
  rw [List.range_eq_range']
  simpa using this
theorem all_range_getD {α : Type} (l : List α) (d : α) (p : α → Bool) : (List.range l.length).all (fun i => p (l.getD i d)) = l.all p := by
  rw [Bool.eq_iff_iff, List.all_eq_true, List.all_eq_true]
  constructor
  · intro h x hx
    obtain ⟨i, hi, rfl⟩ := List.mem_iff_getElem.1 hx
    have := h i (List.mem_range.2 hi)
    simpa [List.getD_eq_getElem?_getD, hi] using this
  · intro h i hi
    have hi' := List.mem_range.1 hi
    have := h l[i] (List.getElem_mem hi')
    simpa [List.getD_eq_getElem?_getD, hi'] using this
theorem foldl_range_getD {α σ : Type} (l : List α) (d : α) (f : σ → α → σ) (s : σ) : (List.range' 0 l.length).foldl (fun s i => f s (l.getD i d)) s = l.foldl f s := by
  have : l = (List.range' 0 l.length).map (fun i => l.getD i d) := by
    apply List.ext_getElem
    · simp
    · intro i h1 h2
      simp [List.getD_eq_getElem?_getD, h1]
  conv => rhs; rw [this, List.foldl_map]
/-- A loop that fills a row place by place. -/
theorem copy_loop {α : Type} (L : Nat → List α → Int → Option (List α)) (n : Nat) (hn : n ≤ 9223372036854775807) (v : Nat → α)
    (h1 : ∀ k (i : Nat) xs, i < n → xs.length = n → L (k + 1) xs i = L k (xs.set i (v i)) (wrap64 ((i : Int) + 1)))
    (h2 : ∀ k xs, xs.length = n → L (k + 1) xs n = some xs) (xs0 : List α) (hx : xs0.length = n) (k : Nat) (hk : n < k) : L k xs0 0 = some ((List.range n).map v) := by
  have key : ∀ (d k i : Nat) (xs : List α), i + d = n → d < k → xs.length = n → (∀ j, j < i → xs[j]? = some (v j)) → L k xs i = some ((List.range n).map v) := by
    intro d
    induction d with
    | zero =>
      intro k i xs hd hk hl hj
      obtain ⟨k, rfl⟩ : ∃ m, k = m + 1 := ⟨k - 1, by omega⟩
      have : i = n := by omega
      subst this
      rw [h2 k xs hl]
      congr 1
      apply List.ext_getElem?
      intro j
      by_cases h : j < i
      · rw [hj j h]
        simp [h]
      · rw [List.getElem?_eq_none (by omega), List.getElem?_eq_none (by simp; omega)]
    | succ d ih =>
      intro k i xs hd hk hl hj
      obtain ⟨k, rfl⟩ : ∃ m, k = m + 1 := ⟨k - 1, by omega⟩
      rw [h1 k i xs (by omega) hl, w64s (n := n) (by omega) (by omega) hn]
      have := ih k (i + 1) (xs.set i (v i)) (by omega) (by omega) (by simpa using hl) (fun j hj2 => by
        rw [List.getElem?_set]
        by_cases e : i = j
        · subst e
          simp; omega
        · rw [if_neg e]
          exact hj j (by omega))
      simpa using this
  exact key n k 0 xs0 (by omega) hk hx (fun j hj => by omega)
theorem map_range_getD {α β : Type} (l : List α) (d : α) (f : α → β) : (List.range l.length).map (fun i => f (l.getD i d)) = l.map f := by
  apply List.ext_getElem
  · simp
  · intro i h1 h2
    simp at h1
    simp [List.getD_eq_getElem?_getD, h1]
/-- A loop over the places 0 .. n with a state, what it calls wanting more than B rounds, and what holds of the state at each place. -/
theorem loop_fold {σ R : Type} (L : Nat → Int → σ → Option R) (n B : Nat) (hn : n ≤ 9223372036854775807) (P : Nat → σ → Prop) (step : σ → Nat → σ) (fin : σ → Option R)
    (h1 : ∀ k (i : Nat) s, B < k → i < n → P i s → L (k + 1) i s = L k (wrap64 ((i : Int) + 1)) (step s i))
    (hP : ∀ (i : Nat) s, i < n → P i s → P (i + 1) (step s i))
    (h2 : ∀ k s, B < k → P n s → L (k + 1) n s = fin s) (k : Nat) (s : σ) (h0 : P 0 s) (hk : n + B + 1 < k) :
    L k 0 s = fin ((List.range n).foldl step s) ∧ P n ((List.range n).foldl step s) := by
  have key : ∀ (d k i : Nat) (s : σ), i + d = n → d + B + 1 < k → P i s → L k i s = fin ((List.range' i d).foldl step s) ∧ P n ((List.range' i d).foldl step s) := by
    intro d
    induction d with
    | zero =>
      intro k i s hd hk hp
      obtain ⟨k, rfl⟩ : ∃ m, k = m + 1 := ⟨k - 1, by omega⟩
      have : i = n := by omega
      subst this
      exact ⟨by simpa using h2 k s (by omega) hp, by simpa using hp⟩
    | succ d ih =>
      intro k i s hd hk hp
      obtain ⟨k, rfl⟩ : ∃ m, k = m + 1 := ⟨k - 1, by omega⟩
      rw [h1 k i s (by omega) (by omega) hp, w64s (n := n) (by omega) (by omega) hn]
      have := ih k (i + 1) (step s i) (by omega) (by omega) (hP i s (by omega) hp)
      rw [List.range'_succ, List.foldl_cons]
      simpa using this
  have := key n k 0 s (by omega) (by omega) h0
  rw [List.range_eq_range']
  simpa using this
/-- The same without anything to hold of the state. -/
theorem loop_fold' {σ R : Type} (L : Nat → Int → σ → Option R) (n B : Nat) (hn : n ≤ 9223372036854775807) (step : σ → Nat → σ) (fin : σ → Option R)
    (h1 : ∀ k (i : Nat) s, B < k → i < n → L (k + 1) i s = L k (wrap64 ((i : Int) + 1)) (step s i))
    (h2 : ∀ k s, B < k → L (k + 1) n s = fin s) (k : Nat) (s : σ) (hk : n + B + 1 < k) :
    L k 0 s = fin ((List.range n).foldl step s) :=
  (loop_fold L n B hn (fun _ _ => True) step fin (fun k i s a b _ => h1 k i s a b) (fun _ _ _ _ => trivial) (fun k s a _ => h2 k s a) k s trivial hk).1
theorem foldl_range_getD' {α σ : Type} (l : List α) (d : α) (f : σ → α → σ) (s : σ) : (List.range l.length).foldl (fun s i => f s (l.getD i d)) s = l.foldl f s := by
  rw [List.range_eq_range']
  exact foldl_range_getD l d f s
/-- A loop with a way out. -/
theorem loop_foldX {σ R : Type} (L : Nat → Int → σ → Option R) (n B : Nat) (hn : n ≤ 9223372036854775807) (P : Nat → σ → Prop) (step : σ → Nat → σ ⊕ R) (fin : σ → Option R)
    (h1 : ∀ k (i : Nat) s, B < k → i < n → P i s → L (k + 1) i s = match step s i with | .inl s' => L k (wrap64 ((i : Int) + 1)) s' | .inr r => some r)
    (hP : ∀ (i : Nat) s s', i < n → P i s → step s i = .inl s' → P (i + 1) s')
    (h2 : ∀ k s, B < k → P n s → L (k + 1) n s = fin s) (k : Nat) (s : σ) (h0 : P 0 s) (hk : n + B + 1 < k) :
    L k 0 s = foldX step fin (List.range n) s := by
  have key : ∀ (d k i : Nat) (s : σ), i + d = n → d + B + 1 < k → P i s → L k i s = foldX step fin (List.range' i d) s := by
    intro d
    induction d with
    | zero =>
      intro k i s hd hk hp
      obtain ⟨k, rfl⟩ : ∃ m, k = m + 1 := ⟨k - 1, by omega⟩
      have : i = n := by omega
      subst this
      simpa [foldX] using h2 k s (by omega) hp
    | succ d ih =>
      intro k i s hd hk hp
      obtain ⟨k, rfl⟩ : ∃ m, k = m + 1 := ⟨k - 1, by omega⟩
      rw [h1 k i s (by omega) (by omega) hp, w64s (n := n) (by omega) (by omega) hn, List.range'_succ]
      simp only [foldX]
      cases hs : step s i with
      | inl s' => simpa using ih k (i + 1) s' (by omega) (by omega) (hP i s s' (by omega) hp hs)
      | inr r => rfl
  have := key n k 0 s (by omega) (by omega) h0
  rw [List.range_eq_range']
  simpa using this
/-- A loop that only asks whether all places pass. -/
theorem loop_all {R : Type} (L : Nat → Int → Option R) (n B : Nat) (hn : n ≤ 9223372036854775807) (p : Nat → Bool) (no : R) (fin : Option R)
    (h1 : ∀ k (i : Nat), B < k → i < n → L (k + 1) i = if p i = true then L k (wrap64 ((i : Int) + 1)) else some no)
    (h2 : ∀ k, B < k → L (k + 1) n = fin) (k : Nat) (hk : n + B + 1 < k) : L k 0 = if (List.range n).all p then fin else some no := by
  have key : ∀ (d k i : Nat), i + d = n → d + B + 1 < k → L k i = if (List.range' i d).all p then fin else some no := by
    intro d
    induction d with
    | zero =>
      intro k i hd hk
      obtain ⟨k, rfl⟩ : ∃ m, k = m + 1 := ⟨k - 1, by omega⟩
      have : i = n := by omega
      subst this
      simpa using h2 k (by omega)
    | succ d ih =>
      intro k i hd hk
      obtain ⟨k, rfl⟩ : ∃ m, k = m + 1 := ⟨k - 1, by omega⟩
      rw [h1 k i (by omega) (by omega), w64s (n := n) (by omega) (by omega) hn, List.range'_succ, List.all_cons]
      by_cases hp : p i = true
      · have := ih k (i + 1) (by omega) (by omega)
        simp only [hp, if_true, Bool.true_and]
        simpa using this
      · simp [hp]
  have := key n k 0 (by omega) hk
  rw [List.range_eq_range']
  simpa using this
/-- A loop from place i to n inside of a greater text: what it costs, and where it goes on. -/
theorem seg {σ R : Type} (L : Nat → Int → σ → Option R) (L' : Nat → σ → Option R) (n B : Nat) (C : Nat → Nat) (P : Nat → σ → Prop) (step : σ → Nat → σ)
    (h1 : ∀ k (i : Nat) s, B < k → i < n → P i s → L (k + C i) i s = L k ((i : Int) + 1) (step s i))
    (hP : ∀ (i : Nat) s, i < n → P i s → P (i + 1) (step s i))
    (h2 : ∀ k s, B < k → P n s → L (k + 1) n s = L' k s) :
    ∀ (d i k : Nat) (s : σ), i + d = n → B < k → P i s → L (k + 1 + ((List.range' i d).map C).sum) i s = L' k ((List.range' i d).foldl step s) ∧ P n ((List.range' i d).foldl step s) := by
  intro d
  induction d with
  | zero =>
    intro i k s hd hk hp
    have : i = n := by omega
    subst this
    exact ⟨by simpa using h2 k s hk hp, by simpa using hp⟩
  | succ d ih =>
    intro i k s hd hk hp
    rw [List.range'_succ, List.map_cons, List.sum_cons, List.foldl_cons]
    have e : k + 1 + (C i + ((List.range' (i + 1) d).map C).sum) = (k + 1 + ((List.range' (i + 1) d).map C).sum) + C i := by omega
    rw [e, h1 _ i s (by omega) (by omega) hp]
    have := ih (i + 1) k (step s i) (by omega) hk (hP i s (by omega) hp)
    simpa using this
theorem in_spec (a b c : Int) : spec_l01In.f a b c = some (decide (b ≤ a ∧ a ≤ c)) := by
  unfold spec_l01In.f
  by_cases h : b ≤ a <;> simp [h]
theorem in_impl (a b c : Int) : impl_in.f a b c = some (decide (b ≤ a ∧ a ≤ c)) := by
  unfold impl_in.f
  by_cases h : b ≤ a <;> simp [h]
def cvFrozen (x : S23) : S25 := ⟨x.f0, x.f1⟩
theorem toFrozen_ok (a0 a1 : Int) : laws_toFrozen.f a0 a1 = some (a0, a1) := rfl
theorem eqFrozen_self (a0 a1 : Int) : laws_eqFrozen.f a0 a1 a0 a1 = some true := by simp [laws_eqFrozen.f]
theorem rdLFrozen (l : List S23) (i : Nat) : rd_T23 l (i : Int) = l.getD i z23 := by simp [rd_T23]
theorem rdIFrozen (l : List S25) (i : Nat) : rd_T25 l (i : Int) = l.getD i z25 := by simp [rd_T25]
theorem toFrozenS_ok (l : List S23) (k : Nat) (hl : l.length ≤ 1000000000) (hk : l.length < k) : laws_toFrozenS.f k l = some (l.map cvFrozen) := by
  unfold laws_toFrozenS.f
  rw [if_pos (by omega), if_pos (by rw [Int.toNat_natCast]; omega)]
  have := copy_loop (fun k x3 x4 => laws_toFrozenS.l0 k l x3 x4) l.length (by omega) (fun i => cvFrozen (l.getD i z23))
    (fun k i xs hi hx => by
      simp only [laws_toFrozenS.l0, toFrozen_ok, Option.bind_some, rdLFrozen]
      rw [if_pos (by omega), if_pos (by omega), if_pos (by omega)]
      simp [cvFrozen])
    (fun k xs hx => by
      simp only [laws_toFrozenS.l0]
      rw [if_neg (by omega)]) (List.replicate l.length z25) (by simp) k hk
  rw [map_range_getD] at this
  simpa using this
theorem eqFrozenS_self (l : List S25) (k : Nat) (hl : l.length ≤ 1000000000) (hk : l.length < k) : laws_eqFrozenS.f k l l = some true := by
  unfold laws_eqFrozenS.f
  rw [if_pos rfl]
  have := run_all (fun k x5 => laws_eqFrozenS.l0 k l l x5) l.length (by omega) (fun _ => true) false (some true)
    (fun k i hi => by
      simp only [laws_eqFrozenS.l0, eqFrozen_self, Option.bind_some]
      rw [if_pos (by omega), if_pos (by omega), if_pos (by omega)])
    (fun k => by
      simp only [laws_eqFrozenS.l0]
      rw [if_neg (by omega)]) k hk
  rw [this]
  simp
theorem szFrozenS_ok (l : List S23) (hl : l.length ≤ 9223372036854775807) : ∃ q, laws_szFrozenS.f l 1048576 = some q ∧ (q < 0 ∨ (0 ≤ q ∧ l.length ≤ 1048576)) := by
  unfold laws_szFrozenS.f
  rw [w64 (n := 1048576 - (l.length : Int)) (by omega) (by omega)]
  by_cases h : 1048576 - (l.length : Int) < 0
  · rw [if_pos h]
    exact ⟨_, rfl, .inl (by omega)⟩
  · rw [if_neg h]
    exact ⟨_, rfl, .inr ⟨by omega, by omega⟩⟩
def frOk (a b : Int) : Bool := decide ((1 ≤ a ∧ a ≤ 48) ∧ 0 ≤ b ∧ b ≤ 48)
theorem frozen_spec (a b : Int) : spec_FrozenOk.f a b = some (frOk a b) := by
  simp only [spec_FrozenOk.f, in_spec, Option.bind_some, frOk]
  by_cases h : 1 ≤ a ∧ a ≤ 48 <;> simp [h]
theorem frozen_impl (a b : Int) : impl_FrozenOk.f a b = some (frOk a b) := by
  simp only [impl_FrozenOk.f, in_impl, Option.bind_some, frOk]
  by_cases h : 1 ≤ a ∧ a ≤ 48 <;> simp [h]
theorem frOk_iff {a b : Int} : frOk a b = true ↔ (1 ≤ a ∧ a ≤ 48) ∧ 0 ≤ b ∧ b ≤ 48 := by simp [frOk]
def outAt (a b w : Int) : Int × Int × Bool := if frOk a b = true ∧ -48 ≤ w ∧ w ≤ 1000 then (w - a - b, w - a, true) else (0, 0, false)
theorem outAt_spec (a b w : Int) : spec_OutAt.f a b w = some (outAt a b w) := by
  simp only [spec_OutAt.f, frozen_spec, in_spec, Option.bind_some, outAt]
  by_cases h : frOk a b = true
  · by_cases h2 : -48 ≤ w ∧ w ≤ 1000
    · have := frOk_iff.1 h
      simp only [h, h2, and_self, decide_true, if_true]
      rw [w64 (n := w - a) (by omega) (by omega), w64 (by omega) (by omega)]
    · simp [h, h2]
  · simp [h]
theorem outAt_impl (a b w : Int) : impl_OutAt.f a b w = some (outAt a b w) := by
  simp only [impl_OutAt.f, frozen_impl, in_impl, Option.bind_some, outAt]
  by_cases h : frOk a b = true
  · by_cases h2 : -48 ≤ w ∧ w ≤ 1000
    · have := frOk_iff.1 h
      simp only [h, h2, and_self, decide_true, if_true]
      rw [w64 (n := w - a) (by omega) (by omega), w64 (by omega) (by omega)]
    · simp [h, h2]
  · simp [h]
def isGood (a b o n : Int) : Bool := decide (frOk a b = true ∧ (-1000 ≤ o ∧ o ≤ 1000) ∧ (-1000 ≤ n ∧ n ≤ 1000) ∧ o + a ≤ n ∧ n ≤ o + a + b)
theorem isGood_spec (a b o n : Int) : spec_IsGood.f a b o n = some (isGood a b o n) := by
  simp only [spec_IsGood.f, frozen_spec, in_spec, Option.bind_some, isGood]
  by_cases h : frOk a b = true
  · have hh := frOk_iff.1 h
    by_cases h2 : -1000 ≤ o ∧ o ≤ 1000
    · by_cases h3 : -1000 ≤ n ∧ n ≤ 1000
      · simp only [h, h2, h3, and_self, decide_true, if_true, true_and]
        rw [w64 (n := n - o) (by omega) (by omega), w64 (n := a + b) (by omega) (by omega)]
        congr 1
        rw [decide_eq_decide]
        omega
      · simp [h, h2, h3]
    · simp [h, h2]
  · simp [h]
theorem isGood_impl (a b o n : Int) : impl_IsGood.f a b o n = some (isGood a b o n) := by
  simp only [impl_IsGood.f, frozen_impl, in_impl, Option.bind_some, isGood]
  by_cases h : frOk a b = true
  · have hh := frOk_iff.1 h
    by_cases h2 : -1000 ≤ o ∧ o ≤ 1000
    · by_cases h3 : -1000 ≤ n ∧ n ≤ 1000
      · simp only [h, h2, h3, and_self, decide_true, if_true, true_and]
        rw [w64 (n := o + a) (by omega) (by omega), w64 (n := o + a + b) (by omega) (by omega)]
      · simp [h, h2, h3]
    · simp [h, h2]
  · simp [h]
def l29ok (l : List S25) (w : Int) : Bool := decide (l.length ≤ 20 ∧ -48 ≤ w ∧ w ≤ 1000) && l.all fun f => frOk f.f0 f.f1
theorem l29ok_iff {l : List S25} {w : Int} : l29ok l w = true ↔ (l.length ≤ 20 ∧ -48 ≤ w ∧ w ≤ 1000) ∧ ∀ f ∈ l, frOk f.f0 f.f1 = true := by simp [l29ok, List.all_eq_true]
theorem l29_spec (l : List S25) (w : Int) (k : Nat) (hl : l.length ≤ 1000000000) (hk : l.length < k) : spec_l29Ok.f k l w = some (l29ok l w) := by
  unfold spec_l29Ok.f
  rw [run_all (fun k x5 => spec_l29Ok.l0 k l w x5) l.length (by omega) (fun i => frOk (l.getD i z25).f0 (l.getD i z25).f1) false (some (decide (l.length ≤ 20 ∧ -48 ≤ w ∧ w ≤ 1000)))
    (fun k i hi => by
      simp only [spec_l29Ok.l0, frozen_spec, Option.bind_some, rdIFrozen]
      rw [if_pos (by omega), if_pos (by omega)])
    (fun k => by
      simp only [spec_l29Ok.l0, in_spec, Option.bind_some]
      rw [if_neg (by omega)]
      by_cases h : (l.length : Int) ≤ 20
      · rw [if_pos h]
        congr 1
        rw [decide_eq_decide]
        omega
      · rw [if_neg h, decide_eq_false (by omega)]) k hk]
  rw [all_range_getD l z25 (fun f => frOk f.f0 f.f1)]
  unfold l29ok
  cases l.all (fun f => frOk f.f0 f.f1) <;> simp
theorem mx_eq (a b : Int) : mx a b = max a b := by unfold mx; omega
theorem mn_eq (a b : Int) : mn a b = min a b := by unfold mn; omega
/-- The span of hours that all pieces share, from a first span on. -/
def span (w : Int) (l : List S25) (s : Int × Int) : Int × Int := l.foldl (fun s f => (max s.1 (w - f.f0 - f.f1), min s.2 (w - f.f0))) s
def oneTime (l : List S25) (w : Int) : Int × Bool :=
  if l29ok l w = true ∧ l ≠ [] then if (span w l (-2000, 2000)).1 > (span w l (-2000, 2000)).2 then (0, false) else ((span w l (-2000, 2000)).2, true) else (0, false)
theorem outAt_ok {f : S25} {w : Int} (h : frOk f.f0 f.f1 = true) (hw : -48 ≤ w ∧ w ≤ 1000) : outAt f.f0 f.f1 w = (w - f.f0 - f.f1, w - f.f0, true) := by
  unfold outAt
  rw [if_pos ⟨h, hw⟩]
theorem one_spec (l : List S25) (w : Int) (k : Nat) (hl : l.length ≤ 1000000000) (hk : l.length + 10 < k) : spec_OneTime.f k l w = some (oneTime l w) := by
  obtain ⟨k, rfl⟩ : ∃ m, k = m + 1 := ⟨k - 1, by omega⟩
  simp only [spec_OneTime.f, l29_spec l w (k + 1) hl (by omega), Option.bind_some, oneTime, spec_OneTime.j0]
  by_cases h : l29ok l w = true
  · obtain ⟨⟨h1, h2⟩, h3⟩ := l29ok_iff.1 h
    rw [if_pos h]
    by_cases he : l = []
    · subst he
      have e0 : ¬ (l29ok [] w = true ∧ ([] : List S25) ≠ []) := fun hh => hh.2 rfl
      rw [if_neg e0]
      simp
    · have hlen : 0 < l.length := List.length_pos_iff.2 he
      have e : ((l.length : Int) == 0) = false := by simp; omega
      rw [e, if_neg (by simp), if_pos (c := l29ok l w = true ∧ _) ⟨h, he⟩]
      have L := loop_fold' (fun k i (s : Int × Int) => spec_OneTime.l0 k l w s.1 s.2 i) l.length 0 (by omega) (fun s i => (max s.1 (w - (l.getD i z25).f0 - (l.getD i z25).f1), min s.2 (w - (l.getD i z25).f0))) (fun s => some (if s.1 > s.2 then (0, false) else (s.2, true)))
        (fun k i s hB hi => by
          have hM := h3 (l.getD i z25) (by simp [List.getD_eq_getElem?_getD, hi])
          simp only [spec_OneTime.l0, rdIFrozen, outAt_spec, Option.bind_some]
          rw [if_pos (by omega), if_pos (by omega), outAt_ok hM h2]
          simp only [mx_eq, mn_eq])
        (fun k s hB => by
          simp only [spec_OneTime.l0]
          rw [if_neg (by omega)]
          split <;> rfl) k (-2000, 2000) (by omega)
      rw [L]
      have := foldl_range_getD' l z25 (fun (s : Int × Int) f => (max s.1 (w - f.f0 - f.f1), min s.2 (w - f.f0))) (-2000, 2000)
      rw [this]
      rfl
  · rw [if_neg h, if_pos trivial, if_neg (c := l29ok l w = true ∧ _) (fun hh => h hh.1)]
theorem span_same (w : Int) : ∀ (l : List S25) (s t : Int × Int), s = t → span w l s = span w l t
  | _, _, _, rfl => rfl
theorem one_impl (l : List S25) (w : Int) (k : Nat) (hl : l.length ≤ 1000000000) (hk : l.length + 10 < k) : impl_OneTime.f k l w = some (oneTime l w) := by
  simp only [impl_OneTime.f, in_impl, Option.bind_some]
  by_cases h0 : (1 : Int) ≤ l.length ∧ (l.length : Int) ≤ 20
  · rw [decide_eq_true h0, if_pos rfl]
    have L := loop_foldX (fun k i (s : Int × Int) => impl_OneTime.l0 k w s.1 s.2 l l.length i) l.length 0 (by omega) (fun _ _ => True)
      (fun s i => if (outAt (l.getD i z25).f0 (l.getD i z25).f1 w).2.2 = true then .inl (max s.1 (outAt (l.getD i z25).f0 (l.getD i z25).f1 w).1, min s.2 (outAt (l.getD i z25).f0 (l.getD i z25).f1 w).2.1) else .inr (0, false))
      (fun s => some (if s.1 > s.2 then (0, false) else (s.2, true)))
      (fun k i s hB hi _ => by
        simp only [impl_OneTime.l0, rdIFrozen, outAt_impl, Option.bind_some]
        rw [if_pos (by omega), if_pos (by omega), if_pos (by omega)]
        by_cases hh : (outAt (l.getD i z25).f0 (l.getD i z25).f1 w).2.2 = true
        · rw [if_pos hh, if_pos hh]
          simp only [mx_eq, mn_eq]
        · rw [if_neg hh, if_neg hh])
      (fun _ _ _ _ _ _ => trivial)
      (fun k s hB _ => by
        simp only [impl_OneTime.l0]
        rw [if_neg (by omega)]
        split <;> rfl) k (-10000, 10000) trivial (by omega)
    rw [L]
    clear L
    by_cases h : l29ok l w = true
    · obtain ⟨⟨h1, h2⟩, h3⟩ := l29ok_iff.1 h
      unfold oneTime
      have hne : l ≠ [] := fun e => by subst e; simp at h0
      rw [if_pos ⟨h, hne⟩]
      have key : ∀ (is : List Nat) (s : Int × Int), (∀ i ∈ is, i < l.length) → foldX (fun (s : Int × Int) i => if (outAt (l.getD i z25).f0 (l.getD i z25).f1 w).2.2 = true then Sum.inl (max s.1 (outAt (l.getD i z25).f0 (l.getD i z25).f1 w).1, min s.2 (outAt (l.getD i z25).f0 (l.getD i z25).f1 w).2.1) else Sum.inr (0, false)) (fun s => some (if s.1 > s.2 then (0, false) else (s.2, true))) is s =
          some (if (is.foldl (fun (s : Int × Int) i => (max s.1 (w - (l.getD i z25).f0 - (l.getD i z25).f1), min s.2 (w - (l.getD i z25).f0))) s).1 > (is.foldl (fun (s : Int × Int) i => (max s.1 (w - (l.getD i z25).f0 - (l.getD i z25).f1), min s.2 (w - (l.getD i z25).f0))) s).2 then (0, false) else ((is.foldl (fun (s : Int × Int) i => (max s.1 (w - (l.getD i z25).f0 - (l.getD i z25).f1), min s.2 (w - (l.getD i z25).f0))) s).2, true)) := by
        intro is
        induction is with
        | nil => intro s _; rfl
        | cons i is ih =>
          intro s hs
          have hi := hs i List.mem_cons_self
          have hM := h3 (l.getD i z25) (by simp [List.getD_eq_getElem?_getD, hi])
          simp only [foldX]
          rw [outAt_ok hM h2]
          simp only [if_true]
          rw [ih _ (fun j hj => hs j (List.mem_cons_of_mem _ hj)), List.foldl_cons]
      rw [key _ _ (fun i hi => List.mem_range.1 hi)]
      rw [foldl_range_getD' l z25 (fun (s : Int × Int) f => (max s.1 (w - f.f0 - f.f1), min s.2 (w - f.f0))) (-10000, 10000)]
      have e : l.foldl (fun (s : Int × Int) f => (max s.1 (w - f.f0 - f.f1), min s.2 (w - f.f0))) (-10000, 10000) = span w l (-2000, 2000) := by
        match l, hne, h3 with
        | f :: r, _, h3 =>
          have hf := frOk_iff.1 (h3 f List.mem_cons_self)
          unfold span
          rw [List.foldl_cons, List.foldl_cons]
          congr 1
          simp only [Prod.mk.injEq]
          omega
      rw [e]
    · have hn : oneTime l w = (0, false) := by
        unfold oneTime
        rw [if_neg (fun hh => h hh.1)]
      rw [hn]
      have hbad : (∃ i, i < l.length ∧ (outAt (l.getD i z25).f0 (l.getD i z25).f1 w).2.2 = false) := by
        by_cases hw : -48 ≤ w ∧ w ≤ 1000
        · have : ¬ ∀ f ∈ l, frOk f.f0 f.f1 = true := fun hh => h (l29ok_iff.2 ⟨⟨by omega, hw⟩, hh⟩)
          have : ∃ f, f ∈ l ∧ ¬ frOk f.f0 f.f1 = true := by
            apply Classical.byContradiction
            intro hc
            exact this (fun f hf => Classical.byContradiction fun hn => hc ⟨f, hf, hn⟩)
          obtain ⟨f, hf, hb⟩ := this
          obtain ⟨i, hi, rfl⟩ := List.mem_iff_getElem.1 hf
          refine ⟨i, hi, ?_⟩
          have e : l.getD i z25 = l[i] := by simp [List.getD_eq_getElem?_getD, hi]
          rw [e]
          unfold outAt
          rw [if_neg (fun hh => hb hh.1)]
        · refine ⟨0, by omega, ?_⟩
          unfold outAt
          rw [if_neg (fun hh => hw hh.2)]
      obtain ⟨j, hj, hb⟩ := hbad
      have key : ∀ (is : List Nat) (s : Int × Int), j ∈ is → foldX (fun (s : Int × Int) i => if (outAt (l.getD i z25).f0 (l.getD i z25).f1 w).2.2 = true then Sum.inl (max s.1 (outAt (l.getD i z25).f0 (l.getD i z25).f1 w).1, min s.2 (outAt (l.getD i z25).f0 (l.getD i z25).f1 w).2.1) else Sum.inr (0, false)) (fun s => some (if s.1 > s.2 then (0, false) else (s.2, true))) is s = some (0, false) := by
        intro is
        induction is with
        | nil => intro s hs; simp at hs
        | cons i is ih =>
          intro s hs
          simp only [foldX]
          by_cases hh : (outAt (l.getD i z25).f0 (l.getD i z25).f1 w).2.2 = true
          · rw [if_pos hh]
            rcases List.mem_cons.1 hs with e | hs2
            · subst e
              rw [hb] at hh
              exact absurd hh (by simp)
            · exact ih _ hs2
          · rw [if_neg hh]
      exact key _ _ (List.mem_range.2 hj)
  · rw [decide_eq_false h0, if_neg (by simp)]
    have hn : oneTime l w = (0, false) := by
      unfold oneTime
      rw [if_neg]
      rintro ⟨h, hne⟩
      have := (l29ok_iff.1 h).1
      have := List.length_pos_iff.2 hne
      omega
    rw [hn]
/-- Two neighbours change places. -/
def swp (xs : List Int) (j : Nat) : List Int := (xs.set j (xs.getD (j - 1) 0)).set (j - 1) (xs.getD j 0)
theorem swp_len (xs : List Int) (j : Nat) : (swp xs j).length = xs.length := by simp [swp]
theorem swp_get (xs : List Int) (j : Nat) (h0 : 0 < j) (hj : j < xs.length) (a : Nat) : (swp xs j).getD a 0 = if a = j - 1 then xs.getD j 0 else if a = j then xs.getD (j - 1) 0 else xs.getD a 0 := by
  unfold swp
  simp only [List.getD_eq_getElem?_getD, List.getElem?_set, List.length_set]
  by_cases e : a = j - 1
  · subst e
    rw [if_pos rfl, if_pos rfl, if_pos (by omega)]
    rfl
  · rw [if_neg (fun h => e h.symm), if_neg e]
    by_cases e2 : a = j
    · subst e2
      rw [if_pos rfl, if_pos rfl, if_pos hj]
      rfl
    · rw [if_neg (fun h => e2 h.symm), if_neg e2]
theorem swp_perm (xs : List Int) (j : Nat) (h0 : 0 < j) (hj : j < xs.length) : (swp xs j).Perm xs := by
  obtain ⟨i, rfl⟩ : ∃ i, j = i + 1 := ⟨j - 1, by omega⟩
  have e1 : xs.getD (i + 1) 0 = xs[i + 1] := by simp [List.getD_eq_getElem?_getD, hj]
  have e0 : xs.getD i 0 = xs[i]'(by omega) := by simp [List.getD_eq_getElem?_getD, show i < xs.length by omega]
  have hx : xs = xs.take i ++ xs[i]'(by omega) :: xs[i + 1] :: xs.drop (i + 2) := by
    conv => lhs; rw [← List.take_append_drop i xs, List.drop_eq_getElem_cons (by omega), List.drop_eq_getElem_cons hj]
  have hs : swp xs (i + 1) = xs.take i ++ xs[i + 1] :: xs[i]'(by omega) :: xs.drop (i + 2) := by
    apply List.ext_getElem
    · rw [swp_len]
      simp
      omega
    · intro a h1 h2
      have g := swp_get xs (i + 1) (by omega) hj a
      rw [List.getD_eq_getElem?_getD, List.getElem?_eq_getElem h1, Option.getD_some] at g
      rw [g]
      simp only [Nat.add_sub_cancel]
      have hl : (xs.take i).length = i := by simp; omega
      by_cases ea : a < i
      · rw [if_neg (by omega), if_neg (by omega), List.getElem_append_left (by omega), List.getElem_take]
        simp [List.getD_eq_getElem?_getD, show a < xs.length by omega]
      · rw [List.getElem_append_right (by omega)]
        by_cases e3 : a = i
        · subst e3
          simp [hl, List.getD_eq_getElem?_getD, hj]
        · by_cases e4 : a = i + 1
          · subst e4
            simp [hl, List.getD_eq_getElem?_getD, show i < xs.length by omega]
          · rw [if_neg e3, if_neg e4]
            obtain ⟨b, rfl⟩ : ∃ b, a = i + 2 + b := ⟨a - (i + 2), by omega⟩
            rw [swp_len] at h1
            simp [hl, show i + 2 + b - i = b + 1 + 1 by omega, List.getD_eq_getElem?_getD, h1]
  rw [hs]
  conv => rhs; rw [hx]
  exact List.Perm.append_left _ (List.Perm.swap _ _ _)
/-- The first i + 1 places are in order, but for place j's to those before it. -/
def Near (key : Int → Int) (xs : List Int) (i j : Nat) : Prop := ∀ a b : Nat, a < b → b ≤ i → b ≠ j → key (xs.getD a 0) ≤ key (xs.getD b 0)
def Upto (key : Int → Int) (xs : List Int) (i : Nat) : Prop := ∀ a b : Nat, a < b → b < i → key (xs.getD a 0) ≤ key (xs.getD b 0)
/-- Insertion sort by neighbours' swaps, of any two loops that do it. -/
theorem insertion (L0 : Nat → List Int → Int → Option (List Int)) (L1 : Nat → List Int → Int → Int → Option (List Int)) (key : Int → Int) (n : Nat) (V : List Int → Prop)
    (h0 : ∀ k xs (i : Nat), i < n → xs.length = n → V xs → L0 (k + 1) xs i = L1 k xs i i)
    (hend : ∀ k xs, xs.length = n → V xs → L0 (k + 1) xs n = some xs)
    (h1 : ∀ k xs (i j : Nat), 0 < j → j ≤ i → i < n → xs.length = n → V xs → L1 (k + 1) xs i j = if key (xs.getD j 0) < key (xs.getD (j - 1) 0) then L1 k (swp xs j) i ((j - 1 : Nat) : Int) else L0 k xs ((i + 1 : Nat) : Int))
    (h1z : ∀ k xs (i : Nat), i < n → xs.length = n → V xs → L1 (k + 1) xs i 0 = L0 k xs ((i + 1 : Nat) : Int))
    (hV : ∀ xs ys, V xs → ys.Perm xs → V ys) :
    ∀ (d k i : Nat) (xs : List Int), i + d = n → d * (n + 3) + 1 < k → xs.length = n → V xs → Upto key xs i → ∃ ys, L0 k xs i = some ys ∧ ys.Perm xs ∧ Upto key ys n := by
  have inner : ∀ (j k i : Nat) (xs : List Int), j ≤ i → i < n → j + 1 < k → xs.length = n → V xs → Near key xs i j → ∃ ys k', k - j - 1 ≤ k' ∧ L1 k xs i j = L0 k' ys ((i + 1 : Nat) : Int) ∧ ys.Perm xs ∧ Upto key ys (i + 1) := by
    intro j
    induction j with
    | zero =>
      intro k i xs hji hi hk hl hv hn
      obtain ⟨k, rfl⟩ : ∃ m, k = m + 1 := ⟨k - 1, by omega⟩
      exact ⟨xs, k, by omega, h1z k xs i hi hl hv, List.Perm.refl _, fun a b hab hb => hn a b hab (by omega) (by omega)⟩
    | succ j ih =>
      intro k i xs hji hi hk hl hv hn
      obtain ⟨k, rfl⟩ : ∃ m, k = m + 1 := ⟨k - 1, by omega⟩
      rw [h1 k xs i (j + 1) (by omega) hji hi hl hv, Nat.add_sub_cancel]
      by_cases c : key (xs.getD (j + 1) 0) < key (xs.getD j 0)
      · rw [if_pos c]
        have hp := swp_perm xs (j + 1) (by omega) (by omega)
        obtain ⟨ys, k', hk', e, p, u⟩ := ih k i (swp xs (j + 1)) (by omega) hi (by omega) (by rw [swp_len, hl]) (hV _ _ hv hp) (fun a b hab hb hbj => by
          rw [swp_get xs (j + 1) (by omega) (by omega) a, swp_get xs (j + 1) (by omega) (by omega) b, Nat.add_sub_cancel]
          by_cases eb : b = j + 1
          · subst eb
            rw [if_neg (c := j + 1 = j) (by omega), if_pos (c := j + 1 = j + 1) rfl]
            by_cases ea : a = j
            · rw [if_pos ea]
              omega
            · rw [if_neg ea, if_neg (c := a = j + 1) (by omega)]
              exact hn a j (by omega) (by omega) (by omega)
          · rw [if_neg (c := b = j) hbj, if_neg (c := b = j + 1) eb]
            by_cases ea : a = j
            · rw [if_pos ea]
              exact hn (j + 1) b (by omega) hb eb
            · rw [if_neg ea]
              by_cases ea2 : a = j + 1
              · rw [if_pos ea2]
                exact hn j b (by omega) hb eb
              · rw [if_neg ea2]
                exact hn a b hab hb eb)
        exact ⟨ys, k', by omega, e, p.trans hp, u⟩
      · rw [if_neg c]
        refine ⟨xs, k, by omega, rfl, List.Perm.refl _, fun a b hab hb => ?_⟩
        by_cases eb : b = j + 1
        · subst eb
          by_cases ea : a = j
          · subst ea
            omega
          · have := hn a j (by omega) (by omega) (by omega)
            omega
        · exact hn a b hab (by omega) eb
  intro d
  induction d with
  | zero =>
    intro k i xs hi hk hl hv hu
    obtain ⟨k, rfl⟩ : ∃ m, k = m + 1 := ⟨k - 1, by omega⟩
    have : i = n := by omega
    subst this
    exact ⟨xs, hend k xs hl hv, List.Perm.refl _, hu⟩
  | succ d ih =>
    intro k i xs hi hk hl hv hu
    have hmul : (d + 1) * (n + 3) = d * (n + 3) + (n + 3) := Nat.succ_mul _ _
    obtain ⟨k, rfl⟩ : ∃ m, k = m + 1 := ⟨k - 1, by omega⟩
    rw [h0 k xs i (by omega) hl hv]
    obtain ⟨ys, k', hk', e, p, u⟩ := inner i k i xs (Nat.le_refl _) (by omega) (by omega) hl hv (fun a b hab hb hbi => hu a b hab (by omega))
    obtain ⟨zs, e2, p2, u2⟩ := ih k' (i + 1) ys (by omega) (by omega) (by rw [p.length_eq, hl]) (hV _ _ hv p) u
    rw [e]
    exact ⟨zs, e2, p2.trans p, u2⟩
def lstI (o : List Int) : Int := if o = [] then -2000 else o.getD (o.length - 1) 0
theorem lstI_app (o : List Int) (h : Int) : lstI (o ++ [h]) = h := by
  unfold lstI
  rw [if_neg (by simp)]
  simp
/-- One piece more: its last hour, if the hours so far do not serve it. -/
def thawStep (w : Int) (o : List Int) (f : S25) : List Int := if lstI o < w - f.f0 - f.f1 then o ++ [w - f.f0] else o
def hoursOf (w : Int) (M : List S25) : List Int := M.foldl (thawStep w) []
theorem indices_ok (n k : Nat) (hn : n ≤ 1000000) (hk : n + 1 < k) : impl_indices.f k n = some ((List.range n).map fun i : Nat => (i : Int)) := by
  unfold impl_indices.f
  have h := (loop_fold (fun k i xs => impl_indices.l0 k xs n i) n 0 (by omega) (fun i xs => xs.length = i) (fun xs i => xs ++ [(i : Int)]) (fun xs => some xs)
    (fun k i s _ hi hp => by
      simp only [impl_indices.l0]
      rw [if_pos (by omega), if_pos (by omega)])
    (fun i s _ hp => by simp [hp])
    (fun k s _ hp => by
      simp only [impl_indices.l0]
      rw [if_neg (by omega)]) k [] rfl (by omega)).1
  rw [h]
  have key : ∀ (is : List Nat) (acc : List Int), is.foldl (fun (xs : List Int) (i : Nat) => xs ++ [(i : Int)]) acc = acc ++ is.map (fun i : Nat => (i : Int)) := by
    intro is
    induction is with
    | nil => intro acc; simp
    | cons i is ih => intro acc; simp [ih]
  rw [key]
  rfl
theorem best_eq (w last : Int) : ∀ (l : List S25) (b m : Int), (∀ g ∈ l, w - g.f0 - g.f1 > last → m ≤ w - g.f0) → m ≤ b → (b = m ∨ ∃ f ∈ l, w - f.f0 - f.f1 > last ∧ w - f.f0 = m) → l.foldl (fun b f => if w - f.f0 - f.f1 > last then mn b (w - f.f0) else b) b = m := by
  intro l
  induction l with
  | nil =>
    intro b m _ _ h
    rcases h with h | ⟨f, hf, _⟩
    · exact h
    · simp at hf
  | cons g l ih =>
    intro b m hg hb h
    rw [List.foldl_cons]
    have hg0 := hg g List.mem_cons_self
    apply ih _ m (fun x hx => hg x (List.mem_cons_of_mem _ hx))
    · by_cases c : w - g.f0 - g.f1 > last
      · rw [if_pos c, mn_eq]
        have := hg0 c
        omega
      · rw [if_neg c]
        exact hb
    · by_cases c : w - g.f0 - g.f1 > last
      · rw [if_pos c, mn_eq]
        have := hg0 c
        rcases h with h | ⟨f, hf, h1, h2⟩
        · left
          omega
        · rcases List.mem_cons.1 hf with e | hf'
          · subst e
            left
            omega
          · exact .inr ⟨f, hf', h1, h2⟩
      · rw [if_neg c]
        rcases h with h | ⟨f, hf, h1, h2⟩
        · exact .inl h
        · rcases List.mem_cons.1 hf with e | hf'
          · subst e
            exact absurd h1 c
          · exact .inr ⟨f, hf', h1, h2⟩
theorem sum_ones (d i : Nat) : ((List.range' i d).map fun _ => 1).sum = d := by
  induction d generalizing i with
  | zero => rfl
  | succ d ih =>
    rw [List.range'_succ, List.map_cons, List.sum_cons, ih]
    omega
/-- One round of the reference. -/
theorem fewest_round (l : List S25) (w : Int) (out : List Int) (last : Int) (k : Nat) (hl : l.length ≤ 20) (hok : ∀ f ∈ l, frOk f.f0 f.f1 = true) (hw : -48 ≤ w ∧ w ≤ 1000) (ho : out.length ≤ 20) :
    spec_FewestTimes.l0 (k + 1 + 1 + l.length + 1) l w out last = if l.foldl (fun b f => if w - f.f0 - f.f1 > last then mn b (w - f.f0) else b) 3000 = 3000 then some out else spec_FewestTimes.l0 (k + 1) l w (out ++ [l.foldl (fun b f => if w - f.f0 - f.f1 > last then mn b (w - f.f0) else b) 3000]) (l.foldl (fun b f => if w - f.f0 - f.f1 > last then mn b (w - f.f0) else b) 3000) := by
  simp only [spec_FewestTimes.l0]
  have h := (seg (fun k i b => spec_FewestTimes.l1 k l w out last b i) (fun k b => if b = 3000 then some out else spec_FewestTimes.l0 k l w (out ++ [b]) b) l.length 0 (fun _ => 1) (fun _ _ => True)
    (fun b i => if w - (l.getD i z25).f0 - (l.getD i z25).f1 > last then mn b (w - (l.getD i z25).f0) else b)
    (fun k i b _ hi _ => by
      have hM := hok (l.getD i z25) (by simp [List.getD_eq_getElem?_getD, hi])
      simp only [spec_FewestTimes.l1, rdIFrozen, spec_OutAt.f]
      have := outAt_spec (l.getD i z25).f0 (l.getD i z25).f1 w
      simp only [spec_OutAt.f] at this
      rw [if_pos (by omega), if_pos (by omega), this, outAt_ok hM hw]
      simp only [Option.bind_some]
      rw [w64 (n := (i : Int) + 1) (by omega) (by omega)]
      split <;> rfl)
    (fun _ _ _ _ => trivial)
    (fun k b _ _ => by
      simp only [spec_FewestTimes.l1]
      rw [if_neg (by omega)]
      by_cases e : b = 3000
      · rw [if_pos e, if_pos e]
      · rw [if_neg e, if_neg e, if_pos (by omega)]) l.length 0 (k + 1) 3000 (by omega) (by omega) trivial).1
  rw [sum_ones] at h
  have e := foldl_range_getD l z25 (fun b f => if w - f.f0 - f.f1 > last then mn b (w - f.f0) else b) 3000
  rw [e] at h
  exact h
theorem fewest_spec (l : List S25) (w : Int) (hl : l.length ≤ 20) (hok : ∀ f ∈ l, frOk f.f0 f.f1 = true) (hw : -48 ≤ w ∧ w ≤ 1000) :
    ∀ (M D : List S25) (out : List Int) (k : Nat), (D ++ M).Perm l → M.Pairwise (fun f g => w - f.f0 ≤ w - g.f0) → (∀ d ∈ D, w - d.f0 - d.f1 ≤ lstI out) → out.length + M.length ≤ 20 → (M.length + 1) * (l.length + 3) < k →
      spec_FewestTimes.l0 k l w out (lstI out) = some (M.foldl (thawStep w) out) := by
  intro M
  induction M with
  | nil =>
    intro D out k hp hs hd ho hk
    obtain ⟨k, rfl⟩ : ∃ m, k = m + 1 + 1 + l.length + 1 := ⟨k - 3 - l.length, by simp at hk; omega⟩
    rw [fewest_round l w out (lstI out) k hl hok hw (by omega)]
    have e := best_eq w (lstI out) l 3000 3000 (fun g hg c => by
      have := hd g (by simpa using hp.mem_iff.2 hg)
      omega) (Int.le_refl _) (.inl rfl)
    rw [if_pos e]
    rfl
  | cons f M ih =>
    intro D out k hp hs hd ho hk
    have hmul : (M.length + 1 + 1) * (l.length + 3) = (M.length + 1) * (l.length + 3) + (l.length + 3) := Nat.succ_mul _ _
    rw [List.length_cons] at hk ho
    have hf := frOk_iff.1 (hok f (hp.mem_iff.1 (by simp)))
    rw [List.foldl_cons]
    by_cases c : lstI out < w - f.f0 - f.f1
    · obtain ⟨k, rfl⟩ : ∃ m, k = m + 1 + 1 + l.length + 1 := ⟨k - 3 - l.length, by omega⟩
      rw [fewest_round l w out (lstI out) k hl hok hw (by omega)]
      have e := best_eq w (lstI out) l 3000 (w - f.f0) (fun g hg cg => by
        rcases List.mem_append.1 (hp.mem_iff.2 hg) with h | h
        · have := hd g h
          omega
        · rcases List.mem_cons.1 h with h | h
          · subst h
            exact Int.le_refl _
          · exact (List.pairwise_cons.1 hs).1 g h) (by omega) (.inr ⟨f, hp.mem_iff.1 (by simp), by omega, rfl⟩)
      rw [e, if_neg (by omega)]
      have es : thawStep w out f = out ++ [w - f.f0] := by
        unfold thawStep
        rw [if_pos c]
      rw [es]
      have := ih (D ++ [f]) (out ++ [w - f.f0]) (k + 1) (by simpa using hp) (List.pairwise_cons.1 hs).2 (fun d hd2 => by
        rw [lstI_app]
        rcases List.mem_append.1 hd2 with h | h
        · have := hd d h
          omega
        · have := List.mem_singleton.1 h
          subst this
          omega) (by simp; omega) (by omega)
      rw [lstI_app] at this
      exact this
    · have es : thawStep w out f = out := by
        unfold thawStep
        rw [if_neg c]
      rw [es]
      exact ih (D ++ [f]) out k (by simpa using hp) (List.pairwise_cons.1 hs).2 (fun d hd2 => by
        rcases List.mem_append.1 hd2 with h | h
        · exact hd d h
        · have := List.mem_singleton.1 h
          subst this
          omega) (by omega) (by omega)
/-- The key the pieces are sorted by. -/
def thawKey (l : List S25) (x : Int) : Int := - (l.getD x.toNat z25).f0
theorem thaw_sort (l : List S25) (hl : l.length ≤ 20) (hok : ∀ f ∈ l, frOk f.f0 f.f1 = true) (xs : List Int) (hx : xs.length = l.length) (hv : ∀ x ∈ xs, 0 ≤ x ∧ x < l.length) (k : Nat) (hk : l.length * (l.length + 3) + 5 < k) :
    ∃ ys, slices_insertionSortCmpFunc_int.f k xs 0 l.length l = some ys ∧ ys.Perm xs ∧ Upto (thawKey l) ys l.length := by
  unfold slices_insertionSortCmpFunc_int.f
  rw [w64 (n := 0 + 1) (by omega) (by omega)]
  by_cases h0 : l.length = 0
  · obtain ⟨k, rfl⟩ : ∃ m, k = m + 1 := ⟨k - 1, by omega⟩
    refine ⟨xs, ?_, List.Perm.refl _, fun a b _ hb => by omega⟩
    simp only [slices_insertionSortCmpFunc_int.l0]
    rw [if_neg (by omega)]
  · have rdm : ∀ (xs : List Int) (j : Nat), xs.length = l.length → j < l.length → (∀ x ∈ xs, 0 ≤ x ∧ x < (l.length : Int)) → 0 ≤ xs.getD j 0 ∧ xs.getD j 0 < (l.length : Int) := by
      intro xs j hxl hj hV
      exact hV _ (by simp [List.getD_eq_getElem?_getD, show j < xs.length by omega])
    have h := insertion (fun k xs i => slices_insertionSortCmpFunc_int.l0 k xs 0 l.length i l) (fun k xs i j => slices_insertionSortCmpFunc_int.l1 k xs 0 l.length i j l) (thawKey l) l.length (fun xs => ∀ x ∈ xs, 0 ≤ x ∧ x < (l.length : Int))
      (fun k xs i hi hxl hV => by
        simp only [slices_insertionSortCmpFunc_int.l0]
        rw [if_pos (by omega)])
      (fun k xs hxl hV => by
        simp only [slices_insertionSortCmpFunc_int.l0]
        rw [if_neg (by omega)])
      (fun k xs i j hj hji hi hxl hV => by
        have a1 := rdm xs j hxl (by omega) hV
        have a0 := rdm xs (j - 1) hxl (by omega) hV
        have ej : wrap64 ((j : Int) - 1) = ((j - 1 : Nat) : Int) := by rw [w64 (by omega) (by omega)]; omega
        simp only [slices_insertionSortCmpFunc_int.l1, ej]
        rw [if_pos (by omega), if_pos (by omega), if_pos (by omega), if_pos (by omega), if_pos (by omega), rd_nat, rd_nat]
        simp only [impl_FewestTimes_1.f]
        rw [if_pos a0.1, if_pos a0.2, if_pos a1.1, if_pos a1.2]
        simp only [Option.bind_some]
        obtain ⟨p, hp⟩ : ∃ p : Nat, xs.getD j 0 = (p : Int) := ⟨(xs.getD j 0).toNat, by omega⟩
        obtain ⟨q, hq⟩ : ∃ q : Nat, xs.getD (j - 1) 0 = (q : Int) := ⟨(xs.getD (j - 1) 0).toNat, by omega⟩
        have hpl : p < l.length := by omega
        have hql : q < l.length := by omega
        have fp := frOk_iff.1 (hok (l.getD p z25) (by simp [List.getD_eq_getElem?_getD, hpl]))
        have fq := frOk_iff.1 (hok (l.getD q z25) (by simp [List.getD_eq_getElem?_getD, hql]))
        have hc : (wrap64 ((rd_T25 l (xs.getD (j - 1) 0)).f0 - (rd_T25 l (xs.getD j 0)).f0) < 0) ↔ thawKey l (xs.getD j 0) < thawKey l (xs.getD (j - 1) 0) := by
          rw [hp, hq, rdIFrozen, rdIFrozen, w64 (by omega) (by omega)]
          unfold thawKey
          rw [Int.toNat_natCast, Int.toNat_natCast]
          omega
        by_cases c : thawKey l (xs.getD j 0) < thawKey l (xs.getD (j - 1) 0)
        · rw [if_pos (hc.2 c), if_pos c, Int.toNat_natCast, Int.toNat_natCast]
          rfl
        · rw [if_neg (fun h => c (hc.1 h)), if_neg c, w64 (by omega) (by omega)]
          rfl)
      (fun k xs i hi hxl hV => by
        simp only [slices_insertionSortCmpFunc_int.l1]
        rw [if_neg (by omega), w64 (by omega) (by omega)]
        rfl)
      (fun xs ys hV hp x hx => hV x (hp.mem_iff.1 hx))
    have e2 : (l.length - 1) * (l.length + 3) ≤ l.length * (l.length + 3) := Nat.mul_le_mul_right _ (by omega)
    exact h (l.length - 1) k 1 xs (by omega) (by omega) hx hv (fun a b hab hb => by omega)
theorem thaw_stable (l : List S25) (hl : l.length ≤ 20) (hok : ∀ f ∈ l, frOk f.f0 f.f1 = true) (xs : List Int) (hx : xs.length = l.length) (hv : ∀ x ∈ xs, 0 ≤ x ∧ x < l.length) (k : Nat) (hk : l.length * (l.length + 3) + 30 < k) :
    ∃ ys, slices_SortStableFunc_int_int.f k xs l = some ys ∧ ys.Perm xs ∧ Upto (thawKey l) ys l.length := by
  unfold slices_SortStableFunc_int_int.f slices_stableCmpFunc_int.f
  obtain ⟨k, rfl⟩ : ∃ m, k = m + 1 + 1 + 1 + 1 := ⟨k - 4, by omega⟩
  by_cases c : l.length = 20
  · obtain ⟨ys, e, p, u⟩ := thaw_sort l hl hok xs hx hv (k + 1 + 1 + 1) (by omega)
    refine ⟨ys, ?_, p, u⟩
    have e2 : slices_insertionSortCmpFunc_int.f (k + 1 + 1) ys 20 20 l = some ys := by
      unfold slices_insertionSortCmpFunc_int.f
      simp only [slices_insertionSortCmpFunc_int.l0]
      rw [w64 (by omega) (by omega), if_neg (by omega)]
    rw [hx, c]
    rw [c] at e
    simp only [slices_stableCmpFunc_int.l0]
    rw [if_pos (by omega)]
    have e' : slices_insertionSortCmpFunc_int.f (k + 1 + 1 + 1) xs 0 20 l = some ys := e
    rw [e']
    simp only [Option.bind_some]
    rw [w64 (n := 20 + 20) (by omega) (by omega)]
    have e3 : ((20 : Nat) : Int) = 20 := rfl
    simp only [e3]
    rw [if_neg (by omega), e2]
    simp only [Option.bind_some, slices_stableCmpFunc_int.l1]
    rw [if_neg (by omega)]
    rfl
  · obtain ⟨ys, e, p, u⟩ := thaw_sort l hl hok xs hx hv (k + 1 + 1 + 1) (by omega)
    refine ⟨ys, ?_, p, u⟩
    rw [hx]
    simp only [slices_stableCmpFunc_int.l0]
    rw [if_neg (by omega), e]
    simp only [Option.bind_some, slices_stableCmpFunc_int.l1]
    rw [if_neg (by omega)]
    rfl
/-- The program's hours: a walk over the pieces in a row sorted by their last hours. -/
theorem fewest_impl (l : List S25) (w : Int) (hl : l.length ≤ 20) (hok : ∀ f ∈ l, frOk f.f0 f.f1 = true) (hw : l ≠ [] → -48 ≤ w ∧ w ≤ 1000) (k : Nat) (hk : l.length * (l.length + 3) + 90 < k) :
    ∃ M : List S25, M.Perm l ∧ M.Pairwise (fun f g => w - f.f0 ≤ w - g.f0) ∧ impl_FewestTimes.f k l w = some (hoursOf w M) := by
  obtain ⟨k, rfl⟩ : ∃ m, k = m + 1 + l.length := ⟨k - 1 - l.length, by omega⟩
  unfold impl_FewestTimes.f
  have S := (seg (fun k i (_ : Unit) => impl_FewestTimes.l0 k w l l.length i l) (fun k _ => (impl_indices.f k (l.length : Int)).bind fun t291 => ((slices_SortStableFunc_int_int.f k t291 l).bind fun t297 => (impl_FewestTimes.l1 k w (([] : List Int)) t297 (t291.length : Int) 0 l))) l.length 0 (fun _ => 1) (fun _ _ => True) (fun _ _ => ())
    (fun k i _ _ hi _ => by
      have hM := hok (l.getD i z25) (by simp [List.getD_eq_getElem?_getD, hi])
      have hne : l ≠ [] := fun e => by subst e; simp at hi
      simp only [impl_FewestTimes.l0, rdIFrozen, outAt_impl, outAt_ok hM (hw hne), Option.bind_some]
      rw [if_pos (by omega), if_pos (by omega), if_pos (by omega), if_pos trivial, w64 (by omega) (by omega)])
    (fun _ _ _ _ => trivial)
    (fun k _ _ _ => by
      simp only [impl_FewestTimes.l0]
      rw [if_neg (by omega), if_neg (by omega)]) l.length 0 k () (by omega) (by omega) trivial).1
  rw [sum_ones] at S
  have S' : impl_FewestTimes.l0 (k + 1 + l.length) w l l.length 0 l = (impl_indices.f k (l.length : Int)).bind fun t291 => ((slices_SortStableFunc_int_int.f k t291 l).bind fun t297 => (impl_FewestTimes.l1 k w (([] : List Int)) t297 (t291.length : Int) 0 l)) := S
  rw [S', indices_ok l.length k (by omega) (by omega)]
  have hlen : ((List.range l.length).map fun i : Nat => (i : Int)).length = l.length := by simp
  obtain ⟨ys, e, p, u⟩ := thaw_stable l hl hok ((List.range l.length).map fun i : Nat => (i : Int)) hlen (fun x hx => by
    obtain ⟨i, hi, rfl⟩ := List.mem_map.1 hx
    have := List.mem_range.1 hi
    omega) k (by omega)
  have hy : ys.length = l.length := by rw [p.length_eq, hlen]
  have hv : ∀ i, i < l.length → ∃ q : Nat, q < l.length ∧ ys.getD i 0 = (q : Int) := by
    intro i hi
    have hm : ys.getD i 0 ∈ ys := by simp [List.getD_eq_getElem?_getD, show i < ys.length by omega]
    obtain ⟨q, hq, e⟩ := List.mem_map.1 (p.mem_iff.1 hm)
    exact ⟨q, List.mem_range.1 hq, e.symm⟩
  refine ⟨ys.map fun x => l.getD x.toNat z25, ?_, ?_, ?_⟩
  · have := p.map (fun x => l.getD x.toNat z25)
    rw [List.map_map] at this
    have e2 : (List.range l.length).map ((fun x : Int => l.getD x.toNat z25) ∘ fun i : Nat => (i : Int)) = l := by
      exact (map_range_getD l z25 id).trans (List.map_id l)
    rw [e2] at this
    exact this
  · rw [List.pairwise_map, List.pairwise_iff_getElem]
    intro i j hi hj hij
    have := u i j hij (by omega)
    unfold thawKey at this
    simp only [List.getD_eq_getElem?_getD, List.getElem?_eq_getElem hi, List.getElem?_eq_getElem hj, Option.getD_some] at this ⊢
    omega
  · simp only [Option.bind_some, e, hlen]
    have L := (loop_fold (fun k i o => impl_FewestTimes.l1 k w o ys l.length i l) l.length 0 (by omega) (fun i o => o.length ≤ i) (fun o i => thawStep w o (l.getD (ys.getD i 0).toNat z25)) (fun o => some o)
      (fun k i o _ hi ho => by
        obtain ⟨q, hq, eq⟩ := hv i hi
        have hM := hok (l.getD q z25) (by simp [List.getD_eq_getElem?_getD, hq])
        have hfr := frOk_iff.1 hM
        have hne : l ≠ [] := fun e => by subst e; simp at hi
        have hww := hw hne
        simp only [impl_FewestTimes.l1]
        rw [if_pos (by omega), if_pos (by omega), if_pos (by omega), rd_nat, eq, if_pos (by omega), if_pos (by omega), rdIFrozen, outAt_impl, outAt_ok hM hww]
        simp only [Option.bind_some, Int.toNat_natCast]
        unfold thawStep
        by_cases ho0 : o = []
        · subst ho0
          have e1 : lstI [] = -2000 := rfl
          rw [if_pos (by simp), if_pos (by simp), e1, if_pos (by omega)]
        · have hlo : 0 < o.length := List.length_pos_iff.2 ho0
          have e1 : lstI o = o.getD (o.length - 1) 0 := by unfold lstI; rw [if_neg ho0]
          have e2 : wrap64 ((o.length : Int) - 1) = ((o.length - 1 : Nat) : Int) := by rw [w64 (by omega) (by omega)]; omega
          rw [if_neg (c := (o.length : Int) = 0) (by omega), e2, if_pos (by omega), if_pos (by omega), rd_nat, e1]
          by_cases c : o.getD (o.length - 1) 0 < w - (l.getD q z25).f0 - (l.getD q z25).f1
          · rw [if_pos c, if_pos c, if_pos (by omega)]
          · rw [if_neg c, if_neg c])
      (fun i o hi ho => by
        unfold thawStep
        split
        · simp; omega
        · omega)
      (fun k o _ _ => by
        simp only [impl_FewestTimes.l1]
        rw [if_neg (by omega)]) k [] (by simp) (by omega)).1
    rw [L]
    have := foldl_range_getD' ys 0 (fun o x => thawStep w o (l.getD x.toNat z25)) []
    rw [hy] at this
    rw [this]
    unfold hoursOf
    rw [List.foldl_map]
theorem fewest_bad (l : List S25) (w : Int) (hl : l.length ≤ 1000000000) : ∀ (d i k : Nat), i + d = l.length → d < k → (∃ j, i ≤ j ∧ j < l.length ∧ (outAt (l.getD j z25).f0 (l.getD j z25).f1 w).2.2 = false) → impl_FewestTimes.l0 k w l l.length i l = some [] := by
  intro d
  induction d with
  | zero =>
    rintro i k hd hk ⟨j, h1, h2, _⟩
    omega
  | succ d ih =>
    rintro i k hd hk ⟨j, h1, h2, h3⟩
    obtain ⟨k, rfl⟩ : ∃ m, k = m + 1 := ⟨k - 1, by omega⟩
    simp only [impl_FewestTimes.l0, rdIFrozen, outAt_impl, Option.bind_some]
    rw [if_pos (by omega), if_pos (by omega), if_pos (by omega)]
    by_cases c : (outAt (l.getD i z25).f0 (l.getD i z25).f1 w).2.2 = true
    · rw [if_pos c, w64 (by omega) (by omega)]
      refine ih (i + 1) k (by omega) (by omega) ⟨j, ?_, h2, h3⟩
      by_cases e : j = i
      · subst e
        rw [h3] at c
        exact absurd c (by simp)
      · omega
    · rw [if_neg c]
theorem fewest_long (l : List S25) (w : Int) (h20 : 20 < l.length) (hl : l.length ≤ 1000000000) (k : Nat) (hk : l.length + 1 < k) : impl_FewestTimes.f k l w = some [] := by
  unfold impl_FewestTimes.f
  have key : ∀ (d i k : Nat), i + d = l.length → d < k → impl_FewestTimes.l0 k w l l.length i l = some [] := by
    intro d
    induction d with
    | zero =>
      intro i k hd hk
      obtain ⟨k, rfl⟩ : ∃ m, k = m + 1 := ⟨k - 1, by omega⟩
      simp only [impl_FewestTimes.l0]
      rw [if_neg (by omega), if_pos (by omega)]
    | succ d ih =>
      intro i k hd hk
      obtain ⟨k, rfl⟩ : ∃ m, k = m + 1 := ⟨k - 1, by omega⟩
      simp only [impl_FewestTimes.l0, rdIFrozen, outAt_impl, Option.bind_some]
      rw [if_pos (by omega), if_pos (by omega), if_pos (by omega)]
      split
      · rw [w64 (by omega) (by omega)]
        exact ih (i + 1) k (by omega) (by omega)
      · rfl
  exact key l.length 0 k (by omega) (by omega)
theorem hours_len (w : Int) : ∀ (M : List S25) (o : List Int), (M.foldl (thawStep w) o).length ≤ o.length + M.length := by
  intro M
  induction M with
  | nil => intro o; simp
  | cons f M ih =>
    intro o
    rw [List.foldl_cons]
    have := ih (thawStep w o f)
    have h2 : (thawStep w o f).length ≤ o.length + 1 := by
      unfold thawStep
      split <;> simp
    simp only [List.length_cons]
    omega
/-- Both answer the same hours. -/
theorem fewest_same (l : List S25) (w : Int) (hl : l.length ≤ 1000000000) (k : Nat) (hk : l.length + 2000 < k) : ∃ v, v.length ≤ 20 ∧ spec_FewestTimes.f k l w = some v ∧ impl_FewestTimes.f k l w = some v := by
  unfold spec_FewestTimes.f
  simp only [Option.bind_some, l29_spec l w k hl (by omega)]
  by_cases h : l29ok l w = true
  · rw [if_pos h]
    obtain ⟨⟨h1, h2⟩, h3⟩ := l29ok_iff.1 h
    have hb : l.length * (l.length + 3) ≤ 20 * 23 := Nat.mul_le_mul h1 (by omega)
    have hb2 : (l.length + 1) * (l.length + 3) ≤ 21 * 23 := Nat.mul_le_mul (by omega) (by omega)
    obtain ⟨M, p, s, e⟩ := fewest_impl l w h1 h3 (fun _ => h2) k (by omega)
    have hlM := p.length_eq
    refine ⟨hoursOf w M, ?_, ?_, e⟩
    · have := hours_len w M []
      unfold hoursOf
      simp at this
      omega
    · have := fewest_spec l w h1 h3 h2 M [] [] k (by simpa using p) s (fun d hd => by simp at hd) (by simp; omega) (by rw [hlM]; omega)
      exact this
  · rw [if_neg h]
    refine ⟨[], by simp, rfl, ?_⟩
    by_cases h20 : 20 < l.length
    · exact fewest_long l w h20 hl k (by omega)
    · by_cases hne : l = []
      · subst hne
        obtain ⟨M, p, s, e⟩ := fewest_impl [] w (by simp) (by simp) (fun h => absurd rfl h) k (by simp; omega)
        have : M = [] := List.perm_nil.1 p
        subst this
        exact e
      · unfold impl_FewestTimes.f
        refine fewest_bad l w hl l.length 0 k (by omega) (by omega) ?_
        by_cases hw : -48 ≤ w ∧ w ≤ 1000
        · have hna : ¬ ∀ f ∈ l, frOk f.f0 f.f1 = true := fun hh => h (l29ok_iff.2 ⟨⟨by omega, hw⟩, hh⟩)
          have : ∃ f, f ∈ l ∧ ¬ frOk f.f0 f.f1 = true := by
            apply Classical.byContradiction
            intro hc
            exact hna (fun f hf => Classical.byContradiction fun hn => hc ⟨f, hf, hn⟩)
          obtain ⟨f, hf, hb⟩ := this
          obtain ⟨i, hi, rfl⟩ := List.mem_iff_getElem.1 hf
          refine ⟨i, by omega, hi, ?_⟩
          have e : l.getD i z25 = l[i] := by simp [List.getD_eq_getElem?_getD, hi]
          rw [e]
          unfold outAt
          rw [if_neg (fun hh => hb hh.1)]
        · have : 0 < l.length := List.length_pos_iff.2 hne
          refine ⟨0, by omega, this, ?_⟩
          unfold outAt
          rw [if_neg (fun hh => hw hh.2)]
theorem and255 (x : Int) : 0 ≤ Go.bits .and .i64 x 255 ∧ Go.bits .and .i64 x 255 ≤ 255 := by
  have h2 : ((BitVec.ofInt 64 255).toNat : Nat) = 255 := rfl
  have h1 : ∀ a : Nat, a &&& 255 ≤ 255 := fun a => Nat.and_le_right
  have h3 := h1 (BitVec.ofInt 64 x).toNat
  have : Go.bits .and .i64 x 255 = (((BitVec.ofInt 64 x).toNat &&& 255 : Nat) : Int) := by
    have h5 : (BitVec.ofInt 64 x &&& BitVec.ofInt 64 255).toNat = (BitVec.ofInt 64 x).toNat &&& 255 := by rw [BitVec.toNat_and, h2]
    show Go.IntKind.i64.wrap ((BitVec.ofInt 64 x &&& BitVec.ofInt 64 255).toNat : Int) = _
    rw [h5, Go.IntKind.wrap_i64]
    omega
  rw [this]
  omega
theorem byte_ok (l : List Int) (i h : Int) (hi : 0 ≤ i) (hl : l.length ≤ 9223372036854775807) : ∃ x i' h', spec_l01Byte.f l i h = some (x, i', h') ∧ 0 ≤ x ∧ x ≤ 255 ∧ 0 ≤ i' := by
  unfold spec_l01Byte.f
  by_cases h1 : i < (l.length : Int)
  · rw [if_pos h1, if_pos hi]
    refine ⟨_, _, _, rfl, (and255 _).1, (and255 _).2, ?_⟩
    rw [w64 (by omega) (by omega)]
    omega
  · rw [if_neg h1]
    exact ⟨_, _, _, rfl, (and255 _).1, (and255 _).2, hi⟩
theorem below_ok (l : List Int) (i h n : Int) (hi : 0 ≤ i) (hl : l.length ≤ 9223372036854775807) : ∃ x i' h', spec_l01Below.f l i h n = some (x, i', h') ∧ 0 ≤ x ∧ (0 < n → x < n) ∧ (n ≤ 0 → x = 0) ∧ 0 ≤ i' := by
  unfold spec_l01Below.f
  by_cases h1 : n ≤ 0
  · rw [if_pos h1]
    exact ⟨_, _, _, rfl, Int.le_refl _, fun h => by omega, fun _ => rfl, hi⟩
  · rw [if_neg h1]
    have hn : n ≠ 0 := by omega
    by_cases h2 : n ≤ 256
    · rw [if_pos h2]
      obtain ⟨x, i1, g1, e1, a1, b1, c1⟩ := byte_ok l i h hi hl
      rw [e1]
      simp only [Option.bind_some]
      rw [if_neg hn]
      refine ⟨_, _, _, rfl, Int.tmod_nonneg _ a1, fun h => ?_, fun h => by omega, c1⟩
      exact Int.tmod_lt_of_pos _ h
    · rw [if_neg h2]
      obtain ⟨x1, i1, g1, e1, a1, b1, c1⟩ := byte_ok l i h hi hl
      rw [e1]
      simp only [Option.bind_some]
      obtain ⟨x2, i2, g2, e2, a2, b2, c2⟩ := byte_ok l i1 g1 c1 hl
      rw [e2]
      simp only [Option.bind_some]
      obtain ⟨x3, i3, g3, e3, a3, b3, c3⟩ := byte_ok l i2 g2 c2 hl
      rw [e3]
      simp only [Option.bind_some]
      obtain ⟨x4, i4, g4, e4, a4, b4, c4⟩ := byte_ok l i3 g3 c3 hl
      rw [e4]
      simp only [Option.bind_some]
      rw [if_neg hn]
      refine ⟨_, _, _, rfl, Int.tmod_nonneg _ ?_, fun h => Int.tmod_lt_of_pos _ h, fun h => by omega, c4⟩
      unfold wrap64
      omega
theorem new_ok (l : List Int) (k : Nat) (hk : l.length < k) (hl : l.length ≤ 9223372036854775807) : ∃ h, spec_l01New.f k l = some (l, 0, h) := by
  have key : ∀ (d k : Nat) (h : Int) (i : Nat), i ≤ l.length → l.length - i = d → d < k → ∃ h', spec_l01New.l0 k l h i = some (l, 0, h') := by
    intro d
    induction d with
    | zero =>
      intro k h i hi hd hk
      obtain ⟨k, rfl⟩ : ∃ m, k = m + 1 := ⟨k - 1, by omega⟩
      simp only [spec_l01New.l0]
      rw [if_neg (by omega)]
      exact ⟨_, rfl⟩
    | succ d ih =>
      intro k h i hi hd hk
      obtain ⟨k, rfl⟩ : ∃ m, k = m + 1 := ⟨k - 1, by omega⟩
      simp only [spec_l01New.l0]
      rw [if_pos (by omega)]
      by_cases h4 : (i : Int) < 4000
      · rw [if_pos h4, if_pos (by omega), w64s (n := l.length) (by omega) (by omega) hl]
        exact ih k _ (i + 1) (by omega) (by omega) (by omega)
      · rw [if_neg h4]
        exact ⟨_, rfl⟩
  exact key l.length k _ 0 (by omega) (by omega) hk
theorem at_ok (l : List Int) (i : Int) (hi : 0 ≤ i) (hi2 : i ≤ 1000) (hl : l.length ≤ 9223372036854775807) (hw : ∀ x ∈ l, (Lit.int .u8 x).wf = true) : ∃ v, laws_at.f l i = some v ∧ 0 ≤ v ∧ v ≤ 255 := by
  unfold laws_at.f
  by_cases h : (l.length : Int) = 0
  · rw [if_pos h]
    exact ⟨0, rfl, by omega, by omega⟩
  · rw [if_neg h]
    have e : wrap64 (wrap64 (i * 5) + 1) = i * 5 + 1 := by unfold wrap64; omega
    rw [e]
    have h1 : 0 ≤ Int.tmod (i * 5 + 1) (l.length : Int) := Int.tmod_nonneg _ (by omega)
    have h2 : Int.tmod (i * 5 + 1) (l.length : Int) < (l.length : Int) := Int.tmod_lt_of_pos _ (by omega)
    rw [if_pos h1, if_pos h2]
    generalize Int.tmod (i * 5 + 1) (l.length : Int) = j at h1 h2
    have hj : j.toNat < l.length := by omega
    have hr : rd l j = l[j.toNat] := by simp [rd, List.getD_eq_getElem?_getD, hj]
    have hb := hw _ (List.getElem_mem hj)
    simp only [Lit.wf, IntKind.min, IntKind.max, IntKind.signed, IntKind.bits, Bool.and_eq_true, decide_eq_true_eq] at hb
    rw [hr]
    generalize l[j.toNat] = v at hb
    refine ⟨_, rfl, ?_, ?_⟩ <;> (rw [w64 (by simp at hb; omega) (by simp at hb; omega)]; simp at hb; omega)
theorem big_eq (l : List Int) : laws_big.f l = some (decide ((l.length : Int) > 1048576)) := rfl
theorem draw_frozen (l : List Int) (hl : l.length ≤ 1000000000) (k : Nat) (hk : l.length + 20 < k) : ∃ ls, spec_DrawFrozen.f k l = some ls ∧ ls.length ≤ 6 ∧ ∀ f ∈ ls, frOk f.f0 f.f1 = true := by
  unfold spec_DrawFrozen.f
  obtain ⟨h, e⟩ := new_ok l k (by omega) (by omega)
  rw [e]
  simp only [Option.bind_some]
  obtain ⟨n, i1, h1, e1, a1, b1, c1, d1⟩ := below_ok l 0 h 7 (by omega) (by omega)
  rw [e1]
  simp only [Option.bind_some]
  have hn := b1 (by omega)
  have key : ∀ (d k : Nat) (i p q : Int) (xs : List S25), 0 ≤ i → i + d = n → d < k → xs.length = i → 0 ≤ p → (∀ f ∈ xs, frOk f.f0 f.f1 = true) → ∃ ls, spec_DrawFrozen.l0 k xs n i l p q = some ls ∧ ls.length ≤ 6 ∧ ∀ f ∈ ls, frOk f.f0 f.f1 = true := by
    intro d
    induction d with
    | zero =>
      intro k i p q xs hi hd hk hx hp hok
      obtain ⟨k, rfl⟩ : ∃ m, k = m + 1 := ⟨k - 1, by omega⟩
      simp only [spec_DrawFrozen.l0]
      rw [if_neg (by omega)]
      exact ⟨xs, rfl, by omega, hok⟩
    | succ d ih =>
      intro k i p q xs hi hd hk hx hp hok
      obtain ⟨k, rfl⟩ : ∃ m, k = m + 1 := ⟨k - 1, by omega⟩
      simp only [spec_DrawFrozen.l0, spec_l29Frozen.f]
      rw [if_pos (by omega)]
      obtain ⟨u, i2, h2, e2, a2, b2, _, d2⟩ := below_ok l p q 20 hp (by omega)
      rw [e2]
      simp only [Option.bind_some]
      obtain ⟨v, i3, h3, e3, a3, b3, _, d3⟩ := below_ok l i2 h2 10 d2 (by omega)
      rw [e3]
      simp only [Option.bind_some]
      have hu := b2 (by omega)
      have hv := b3 (by omega)
      rw [if_pos (by omega), w64 (n := 1 + u) (by omega) (by omega), w64 (n := i + 1) (by omega) (by omega)]
      refine ih k (i + 1) i3 h3 _ (by omega) (by omega) (by omega) (by simp; omega) d3 (fun f hf => ?_)
      rcases List.mem_append.1 hf with hf | hf
      · exact hok f hf
      · have := List.mem_singleton.1 hf
        subst this
        rw [frOk_iff]
        dsimp only
        omega
  exact key n.toNat k 0 i1 h1 [] (by omega) (by omega) (by omega) rfl d1 (fun f hf => by simp at hf)
/-- What the walk over the sorted pieces answers. -/
theorem hours_asc (w : Int) : ∀ (M : List S25) (o : List Int), (∀ f ∈ M, frOk f.f0 f.f1 = true) → (∀ i, 1 ≤ i → i < o.length → o.getD (i - 1) 0 < o.getD i 0) → ∀ i, 1 ≤ i → i < (M.foldl (thawStep w) o).length → (M.foldl (thawStep w) o).getD (i - 1) 0 < (M.foldl (thawStep w) o).getD i 0 := by
  intro M
  induction M with
  | nil => intro o _ h; exact h
  | cons f M ih =>
    intro o hok h
    rw [List.foldl_cons]
    apply ih _ (fun g hg => hok g (List.mem_cons_of_mem _ hg))
    have hf := frOk_iff.1 (hok f List.mem_cons_self)
    unfold thawStep
    by_cases c : lstI o < w - f.f0 - f.f1
    · rw [if_pos c]
      intro i h1 hi
      have e : ∀ j, j < o.length → (o ++ [w - f.f0]).getD j 0 = o.getD j 0 := by
        intro j hj
        simp [List.getD_eq_getElem?_getD, List.getElem?_append_left hj]
      rw [List.length_append, List.length_singleton] at hi
      by_cases ei : i = o.length
      · rw [e (i - 1) (by omega)]
        have e2 : (o ++ [w - f.f0]).getD i 0 = w - f.f0 := by
          subst ei
          simp [List.getD_eq_getElem?_getD]
        rw [e2]
        unfold lstI at c
        rw [if_neg (by intro h0; subst h0; simp at ei; omega)] at c
        rw [ei]
        omega
      · rw [e (i - 1) (by omega), e i (by omega)]
        exact h i h1 (by omega)
    · rw [if_neg c]
      exact h
theorem hours_sub (w : Int) : ∀ (M : List S25) (o : List Int) (x : Int), x ∈ o → x ∈ M.foldl (thawStep w) o := by
  intro M
  induction M with
  | nil => intro o x h; exact h
  | cons f M ih =>
    intro o x h
    rw [List.foldl_cons]
    apply ih
    unfold thawStep
    split
    · exact List.mem_append_left _ h
    · exact h
theorem lst_mem {o : List Int} (h : o ≠ []) : lstI o ∈ o := by
  unfold lstI
  rw [if_neg h]
  have : 0 < o.length := List.length_pos_iff.2 h
  simp [List.getD_eq_getElem?_getD, show o.length - 1 < o.length by omega]
theorem hours_cover (w : Int) (hw : 0 ≤ w ∧ w ≤ 255) : ∀ (M : List S25) (o : List Int), (∀ f ∈ M, frOk f.f0 f.f1 = true) → M.Pairwise (fun f g => w - f.f0 ≤ w - g.f0) → (∀ f ∈ M, lstI o ≤ w - f.f0) → ∀ f ∈ M, ∃ t ∈ M.foldl (thawStep w) o, w - f.f0 - f.f1 ≤ t ∧ t ≤ w - f.f0 := by
  intro M
  induction M with
  | nil => intro o _ _ _ f hf; simp at hf
  | cons g M ih =>
    intro o hok hs hl f hf
    have hg := frOk_iff.1 (hok g List.mem_cons_self)
    rw [List.foldl_cons]
    have hstep : lstI (thawStep w o g) = w - g.f0 ∧ w - g.f0 ∈ thawStep w o g ∨ thawStep w o g = o ∧ w - g.f0 - g.f1 ≤ lstI o := by
      unfold thawStep
      by_cases c : lstI o < w - g.f0 - g.f1
      · rw [if_pos c, lstI_app]
        exact .inl ⟨rfl, by simp⟩
      · rw [if_neg c]
        exact .inr ⟨rfl, by omega⟩
    rcases List.mem_cons.1 hf with e | hf'
    · subst e
      rcases hstep with ⟨h1, h2⟩ | ⟨h1, h2⟩
      · exact ⟨w - f.f0, hours_sub w M _ _ h2, by omega, by omega⟩
      · have hne : o ≠ [] := by
          intro h0
          subst h0
          have : lstI [] = -2000 := rfl
          omega
        refine ⟨lstI o, hours_sub w M _ _ (by rw [h1]; exact lst_mem hne), h2, hl f List.mem_cons_self⟩
    · refine ih (thawStep w o g) (fun x hx => hok x (List.mem_cons_of_mem _ hx)) (List.pairwise_cons.1 hs).2 (fun x hx => ?_) f hf'
      rcases hstep with ⟨h1, _⟩ | ⟨h1, _⟩
      · rw [h1]
        exact (List.pairwise_cons.1 hs).1 x hx
      · rw [h1]
        exact hl x (List.mem_cons_of_mem _ hx)
theorem hours_one (w t : Int) : ∀ (M : List S25), (∀ f ∈ M, w - f.f0 - f.f1 ≤ t) → M.foldl (thawStep w) [t] = [t] := by
  intro M
  induction M with
  | nil => intro _; rfl
  | cons f M ih =>
    intro h
    rw [List.foldl_cons]
    have e : thawStep w [t] f = [t] := by
      unfold thawStep
      have : lstI [t] = t := rfl
      rw [this, if_neg (by have := h f List.mem_cons_self; omega)]
    rw [e]
    exact ih (fun g hg => h g (List.mem_cons_of_mem _ hg))
theorem span_fst (w : Int) : ∀ (l : List S25) (s : Int × Int) (x : Int), (span w l s).1 ≤ x ↔ s.1 ≤ x ∧ ∀ f ∈ l, w - f.f0 - f.f1 ≤ x := by
  intro l
  induction l with
  | nil => intro s x; simp [span]
  | cons f l ih =>
    intro s x
    have : span w (f :: l) s = span w l (max s.1 (w - f.f0 - f.f1), min s.2 (w - f.f0)) := rfl
    rw [this, ih]
    simp only [List.forall_mem_cons]
    constructor
    · rintro ⟨h1, h2⟩
      exact ⟨by omega, by omega, h2⟩
    · rintro ⟨h1, h2, h3⟩
      exact ⟨by omega, h3⟩
theorem span_snd (w : Int) : ∀ (l : List S25) (s : Int × Int) (x : Int), x ≤ (span w l s).2 ↔ x ≤ s.2 ∧ ∀ f ∈ l, x ≤ w - f.f0 := by
  intro l
  induction l with
  | nil => intro s x; simp [span]
  | cons f l ih =>
    intro s x
    have : span w (f :: l) s = span w l (max s.1 (w - f.f0 - f.f1), min s.2 (w - f.f0)) := rfl
    rw [this, ih]
    simp only [List.forall_mem_cons]
    constructor
    · rintro ⟨h1, h2⟩
      exact ⟨by omega, by omega, h2⟩
    · rintro ⟨h1, h2, h3⟩
      exact ⟨by omega, h3⟩
/-- One hour is enough just if the walk answers one hour; it is that hour. -/
theorem one_hours (w : Int) (hw : 0 ≤ w ∧ w ≤ 255) (l M : List S25) (hl : l.length ≤ 20) (hok : ∀ f ∈ l, frOk f.f0 f.f1 = true) (p : M.Perm l) (hs : M.Pairwise (fun f g => w - f.f0 ≤ w - g.f0)) :
    (oneTime l w).2 = decide ((hoursOf w M).length = 1) ∧ ((oneTime l w).2 = true → (oneTime l w).1 = (hoursOf w M).getD 0 0 ∧ ∀ f ∈ l, w - f.f0 - f.f1 ≤ (oneTime l w).1 ∧ (oneTime l w).1 ≤ w - f.f0 ∧ -200 ≤ (oneTime l w).1) := by
  have h29 : l29ok l w = true := l29ok_iff.2 ⟨⟨hl, by omega⟩, hok⟩
  match M, p, hs with
  | [], p, _ =>
    have : l = [] := (List.nil_perm.1 p)
    subst this
    unfold oneTime hoursOf
    rw [if_neg (fun h => h.2 rfl)]
    simp
  | f :: M, p, hs =>
    have hne : l ≠ [] := fun h => by subst h; simp at p
    have hokM : ∀ g ∈ f :: M, frOk g.f0 g.f1 = true := fun g hg => hok g (p.mem_iff.1 hg)
    have hf := frOk_iff.1 (hokM f List.mem_cons_self)
    have hmin : ∀ g ∈ l, w - f.f0 ≤ w - g.f0 := by
      intro g hg
      rcases List.mem_cons.1 (p.mem_iff.2 hg) with e | hg'
      · subst e; exact Int.le_refl _
      · exact (List.pairwise_cons.1 hs).1 g hg'
    have hsnd : (span w l (-2000, 2000)).2 = w - f.f0 := by
      have h1 := (span_snd w l (-2000, 2000) (w - f.f0)).2 ⟨by dsimp only; omega, hmin⟩
      have h2 := ((span_snd w l (-2000, 2000) (span w l (-2000, 2000)).2).1 (Int.le_refl _)).2 f (p.mem_iff.1 List.mem_cons_self)
      omega
    have h0 : hoursOf w (f :: M) = M.foldl (thawStep w) [w - f.f0] := by
      unfold hoursOf
      rw [List.foldl_cons]
      have : thawStep w [] f = [w - f.f0] := by
        unfold thawStep
        have : lstI [] = -2000 := rfl
        rw [this, if_pos (by omega)]
        rfl
      rw [this]
    unfold oneTime
    rw [if_pos ⟨h29, hne⟩, hsnd, h0]
    by_cases c : (span w l (-2000, 2000)).1 > w - f.f0
    · rw [if_pos c]
      have : ¬ ((span w l (-2000, 2000)).1 ≤ w - f.f0) := by omega
      have hex : ∃ g ∈ l, w - f.f0 < w - g.f0 - g.f1 := by
        apply Classical.byContradiction
        intro hc
        apply this
        rw [span_fst]
        refine ⟨by dsimp only; omega, fun g hg => ?_⟩
        have : ¬ w - f.f0 < w - g.f0 - g.f1 := fun hh => hc ⟨g, hg, hh⟩
        omega
      obtain ⟨g, hg, hgt⟩ := hex
      obtain ⟨t, ht, h1, h2⟩ := hours_cover w hw (f :: M) [] hokM hs (fun x hx => by
        have hx' := frOk_iff.1 (hokM x hx)
        have : lstI [] = -2000 := rfl
        omega) g (p.mem_iff.2 hg)
      have ht' : t ∈ M.foldl (thawStep w) [w - f.f0] := by rw [← h0]; exact ht
      have hlen : (M.foldl (thawStep w) [w - f.f0]).length ≠ 1 := by
        intro e1
        obtain ⟨z, hz⟩ := List.length_eq_one_iff.1 e1
        have a := hours_sub w M [w - f.f0] (w - f.f0) (by simp)
        rw [hz] at a ht'
        rw [List.mem_singleton] at a ht'
        omega
      refine ⟨?_, fun h => by simp at h⟩
      rw [decide_eq_false hlen]
    · rw [if_neg c]
      have hle : (span w l (-2000, 2000)).1 ≤ w - f.f0 := by omega
      have hall := ((span_fst w l (-2000, 2000) (w - f.f0)).1 hle).2
      rw [hours_one w (w - f.f0) M (fun g hg => hall g (p.mem_iff.1 (List.mem_cons_of_mem _ hg)))]
      exact ⟨by simp, fun _ => ⟨by simp, fun g hg => ⟨hall g hg, hmin g hg, by omega⟩⟩⟩

end Go.Proofs.Ytgibgapbbnbekaa.Lem
