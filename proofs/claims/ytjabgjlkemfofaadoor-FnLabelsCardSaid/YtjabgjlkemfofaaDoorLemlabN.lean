/- Plain lemmas on the printed functions: what they compute; conditions stand in each lemma. -/
import Derived.Test.YtjabgjlkemfofaaDoorQx0
import Derived.Test.YtjabgjlkemfofaaDoorQx1
import Derived.Test.YtjabgjlkemfofaaDoorQx2
import Derived.Test.YtjabgjlkemfofaaDoorQx4
import Derived.Test.YtjabgjlkemfofaaDoorQx5
import Derived.Test.YtjabgjlkemfofaaDoorQx7
import Derived.Test.YtjabgjlkemfofaaDoorQx8
import Derived.Test.YtjabgjlkemfofaaDoorQx9
import Derived.Test.YtjabgjlkemfofaaDoorQx10
import Derived.Test.YtjabgjlkemfofaaDoorQx13
import Derived.Test.YtjabgjlkemfofaaDoorQx14
import Derived.Test.YtjabgjlkemfofaaDoorQx15
import Derived.Test.YtjabgjlkemfofaaDoorQx16
import Derived.Test.YtjabgjlkemfofaaDoorQx17
import Derived.Test.YtjabgjlkemfofaaDoorQx18
import Derived.Test.YtjabgjlkemfofaaDoorQx19
import Derived.Laws.BitsLemmas
namespace Go.Proofs.YtjabgjlkemfofaaDoor.Lem
open Go.RowKit Go.Proofs.YtjabgjlkemfofaaDoor.Q Go.Proofs.YtjabgjlkemfofaaDoorW.PrintWords Go.Proofs.YtjabgjlkemfofaaDoorW.PrintLast Go.Proofs.YtjabgjlkemfofaaDoorW.PrintMore
set_option linter.unusedVariables false
set_option linter.unusedSimpArgs false
-- LEM
theorem rd_nat (l : List Int) (i : Nat) : rd l (i : Int) = l.getD i 0 := by simp [rd]
theorem wf64 {n : Int} (h : (Lit.int .i64 n).wf = true) : -9223372036854775808 ≤ n ∧ n ≤ 9223372036854775807 := by
  simp only [Lit.wf, IntKind.min, IntKind.max, IntKind.signed, IntKind.bits, Bool.and_eq_true, decide_eq_true_eq, if_true] at h
  omega
theorem w64 {n : Int} (h : -9223372036854775808 ≤ n) (h2 : n ≤ 9223372036854775807) : wrap64 n = n := by
  unfold wrap64
  omega
theorem w64s {i : Int} {n : Nat} (h0 : 0 ≤ i) (h1 : i < (n : Int)) (hn : n ≤ 9223372036854775807) : wrap64 (i + 1) = i + 1 := by
  unfold wrap64
  omega
/-- A loop over places i .. n with a state, without a way out. -/
theorem run_fold {σ R : Type} (L : Nat → Int → σ → Option R) (n : Nat) (hn : n ≤ 9223372036854775807) (step : σ → Nat → σ) (fin : σ → Option R)
    (h1 : ∀ k (i : Nat) s, i < n → L (k + 1) i s = L k (wrap64 ((i : Int) + 1)) (step s i))
    (h2 : ∀ k s, L (k + 1) n s = fin s) :
    ∀ (d : Nat) (k : Nat) (i : Nat) (s : σ), i + d = n → d < k → L k i s = fin ((List.range' i d).foldl step s) := by
  intro d
  induction d with
  | zero =>
    intro k i s hd hk
    obtain ⟨k, rfl⟩ : ∃ m, k = m + 1 := ⟨k - 1, by omega⟩
    have : i = n := by omega
    subst this
    simpa using h2 k s
  | succ d ih =>
    intro k i s hd hk
    obtain ⟨k, rfl⟩ : ∃ m, k = m + 1 := ⟨k - 1, by omega⟩
    rw [h1 k i s (by omega), w64s (n := n) (by omega) (by omega) hn]
    have := ih k (i + 1) (step s i) (by omega) (by omega)
    rw [List.range'_succ, List.foldl_cons]
    simpa using this
/-- A loop over places i .. n with a state and a way out: 'none' of step: out with 'out'. -/
def foldX {σ R : Type} (step : σ → Nat → σ ⊕ R) (fin : σ → Option R) : List Nat → σ → Option R
  | [], s => fin s
  | i :: is, s => match step s i with
    | .inl s' => foldX step fin is s'
    | .inr r => some r
theorem run_foldX {σ R : Type} (L : Nat → Int → σ → Option R) (n : Nat) (hn : n ≤ 9223372036854775807) (step : σ → Nat → σ ⊕ R) (fin : σ → Option R)
    (h1 : ∀ k (i : Nat) s, i < n → L (k + 1) i s = match step s i with | .inl s' => L k (wrap64 ((i : Int) + 1)) s' | .inr r => some r)
    (h2 : ∀ k s, L (k + 1) n s = fin s) :
    ∀ (d : Nat) (k : Nat) (i : Nat) (s : σ), i + d = n → d < k → L k i s = foldX step fin (List.range' i d) s := by
  intro d
  induction d with
  | zero =>
    intro k i s hd hk
    obtain ⟨k, rfl⟩ : ∃ m, k = m + 1 := ⟨k - 1, by omega⟩
    have : i = n := by omega
    subst this
    simpa [foldX] using h2 k s
  | succ d ih =>
    intro k i s hd hk
    obtain ⟨k, rfl⟩ : ∃ m, k = m + 1 := ⟨k - 1, by omega⟩
    rw [h1 k i s (by omega), w64s (n := n) (by omega) (by omega) hn, List.range'_succ]
    simp only [foldX]
    cases hs : step s i with
    | inl s' => simpa using ih k (i + 1) s' (by omega) (by omega)
    | inr r => rfl
/-- A loop that only asks whether all places pass. -/
theorem run_all {R : Type} (L : Nat → Int → Option R) (n : Nat) (hn : n ≤ 9223372036854775807) (p : Nat → Bool) (no : R) (fin : Option R)
    (h1 : ∀ k (i : Nat), i < n → L (k + 1) i = if p i = true then L k (wrap64 ((i : Int) + 1)) else some no)
    (h2 : ∀ k, L (k + 1) n = fin) (k : Nat) (hk : n < k) : L k 0 = if (List.range n).all p then fin else some no := by
  have key : ∀ (d k i : Nat), i + d = n → d < k → L k i = if (List.range' i d).all p then fin else some no := by
    intro d
    induction d with
    | zero =>
      intro k i hd hk
      obtain ⟨k, rfl⟩ : ∃ m, k = m + 1 := ⟨k - 1, by omega⟩
      have : i = n := by omega
      subst this
      simpa using h2 k
    | succ d ih =>
      intro k i hd hk
      obtain ⟨k, rfl⟩ : ∃ m, k = m + 1 := ⟨k - 1, by omega⟩
      rw [h1 k i (by omega), w64s (n := n) (by omega) (by omega) hn, List.range'_succ, List.all_cons]
      by_cases hp : p i = true
      · have := ih k (i + 1) (by omega) (by omega)
        simp only [hp, if_true, Bool.true_and]
        simpa using this
      · simp [hp]
  have := key n k 0 (by omega) hk
  rw [List.range_eq_range']
  simpa using this
theorem all_range_getD {α : Type} (l : List α) (d : α) (p : α → Bool) : (List.range l.length).all (fun i => p (l.getD i d)) = l.all p := by
  rw [Bool.eq_iff_iff, List.all_eq_true, List.all_eq_true]
  constructor
  · intro h x hx
    obtain ⟨i, hi, rfl⟩ := List.mem_iff_getElem.1 hx
    have := h i (List.mem_range.2 hi)
    simpa [List.getD_eq_getElem?_getD, hi] using this
  · intro h i hi
    have hi' := List.mem_range.1 hi
    have := h l[i] (List.getElem_mem hi')
    simpa [List.getD_eq_getElem?_getD, hi'] using this
theorem foldl_range_getD {α σ : Type} (l : List α) (d : α) (f : σ → α → σ) (s : σ) : (List.range' 0 l.length).foldl (fun s i => f s (l.getD i d)) s = l.foldl f s := by
  have : l = (List.range' 0 l.length).map (fun i => l.getD i d) := by
    apply List.ext_getElem
    · simp
    · intro i h1 h2
      simp [List.getD_eq_getElem?_getD, h1]
  conv => rhs; rw [this, List.foldl_map]
/-- A loop that fills a row place by place. -/
theorem copy_loop {α : Type} (L : Nat → List α → Int → Option (List α)) (n : Nat) (hn : n ≤ 9223372036854775807) (v : Nat → α)
    (h1 : ∀ k (i : Nat) xs, i < n → xs.length = n → L (k + 1) xs i = L k (xs.set i (v i)) (wrap64 ((i : Int) + 1)))
    (h2 : ∀ k xs, xs.length = n → L (k + 1) xs n = some xs) (xs0 : List α) (hx : xs0.length = n) (k : Nat) (hk : n < k) : L k xs0 0 = some ((List.range n).map v) := by
  have key : ∀ (d k i : Nat) (xs : List α), i + d = n → d < k → xs.length = n → (∀ j, j < i → xs[j]? = some (v j)) → L k xs i = some ((List.range n).map v) := by
    intro d
    induction d with
    | zero =>
      intro k i xs hd hk hl hj
      obtain ⟨k, rfl⟩ : ∃ m, k = m + 1 := ⟨k - 1, by omega⟩
      have : i = n := by omega
      subst this
      rw [h2 k xs hl]
      congr 1
      apply List.ext_getElem?
      intro j
      by_cases h : j < i
      · rw [hj j h]
        simp [h]
      · rw [List.getElem?_eq_none (by omega), List.getElem?_eq_none (by simp; omega)]
    | succ d ih =>
      intro k i xs hd hk hl hj
      obtain ⟨k, rfl⟩ : ∃ m, k = m + 1 := ⟨k - 1, by omega⟩
      rw [h1 k i xs (by omega) hl, w64s (n := n) (by omega) (by omega) hn]
      have := ih k (i + 1) (xs.set i (v i)) (by omega) (by omega) (by simpa using hl) (fun j hj2 => by
        rw [List.getElem?_set]
        by_cases e : i = j
        · subst e
          simp; omega
        · rw [if_neg e]
          exact hj j (by omega))
      simpa using this
  exact key n k 0 xs0 (by omega) hk hx (fun j hj => by omega)
theorem map_range_getD {α β : Type} (l : List α) (d : α) (f : α → β) : (List.range l.length).map (fun i => f (l.getD i d)) = l.map f := by
  apply List.ext_getElem
  · simp
  · intro i h1 h2
    simp at h1
    simp [List.getD_eq_getElem?_getD, h1]
/-- A loop over the places 0 .. n with a state, what it calls wanting more than B rounds, and what holds of the state at each place. -/
theorem loop_fold {σ R : Type} (L : Nat → Int → σ → Option R) (n B : Nat) (hn : n ≤ 9223372036854775807) (P : Nat → σ → Prop) (step : σ → Nat → σ) (fin : σ → Option R)
    (h1 : ∀ k (i : Nat) s, B < k → i < n → P i s → L (k + 1) i s = L k (wrap64 ((i : Int) + 1)) (step s i))
    (hP : ∀ (i : Nat) s, i < n → P i s → P (i + 1) (step s i))
    (h2 : ∀ k s, B < k → P n s → L (k + 1) n s = fin s) (k : Nat) (s : σ) (h0 : P 0 s) (hk : n + B + 1 < k) :
    L k 0 s = fin ((List.range n).foldl step s) ∧ P n ((List.range n).foldl step s) := by
  have key : ∀ (d k i : Nat) (s : σ), i + d = n → d + B + 1 < k → P i s → L k i s = fin ((List.range' i d).foldl step s) ∧ P n ((List.range' i d).foldl step s) := by
    intro d
    induction d with
    | zero =>
      intro k i s hd hk hp
      obtain ⟨k, rfl⟩ : ∃ m, k = m + 1 := ⟨k - 1, by omega⟩
      have : i = n := by omega
      subst this
      exact ⟨by simpa using h2 k s (by omega) hp, by simpa using hp⟩
    | succ d ih =>
      intro k i s hd hk hp
      obtain ⟨k, rfl⟩ : ∃ m, k = m + 1 := ⟨k - 1, by omega⟩
      rw [h1 k i s (by omega) (by omega) hp, w64s (n := n) (by omega) (by omega) hn]
      have := ih k (i + 1) (step s i) (by omega) (by omega) (hP i s (by omega) hp)
      rw [List.range'_succ, List.foldl_cons]
      simpa using this
  have := key n k 0 s (by omega) (by omega) h0
  rw [List.range_eq_range']
  simpa using this
/-- The same without anything to hold of the state. -/
theorem loop_fold' {σ R : Type} (L : Nat → Int → σ → Option R) (n B : Nat) (hn : n ≤ 9223372036854775807) (step : σ → Nat → σ) (fin : σ → Option R)
    (h1 : ∀ k (i : Nat) s, B < k → i < n → L (k + 1) i s = L k (wrap64 ((i : Int) + 1)) (step s i))
    (h2 : ∀ k s, B < k → L (k + 1) n s = fin s) (k : Nat) (s : σ) (hk : n + B + 1 < k) :
    L k 0 s = fin ((List.range n).foldl step s) :=
  (loop_fold L n B hn (fun _ _ => True) step fin (fun k i s a b _ => h1 k i s a b) (fun _ _ _ _ => trivial) (fun k s a _ => h2 k s a) k s trivial hk).1
theorem foldl_range_getD' {α σ : Type} (l : List α) (d : α) (f : σ → α → σ) (s : σ) : (List.range l.length).foldl (fun s i => f s (l.getD i d)) s = l.foldl f s := by
  rw [List.range_eq_range']
  exact foldl_range_getD l d f s
/-- A loop with a way out. -/
theorem loop_foldX {σ R : Type} (L : Nat → Int → σ → Option R) (n B : Nat) (hn : n ≤ 9223372036854775807) (P : Nat → σ → Prop) (step : σ → Nat → σ ⊕ R) (fin : σ → Option R)
    (h1 : ∀ k (i : Nat) s, B < k → i < n → P i s → L (k + 1) i s = match step s i with | .inl s' => L k (wrap64 ((i : Int) + 1)) s' | .inr r => some r)
    (hP : ∀ (i : Nat) s s', i < n → P i s → step s i = .inl s' → P (i + 1) s')
    (h2 : ∀ k s, B < k → P n s → L (k + 1) n s = fin s) (k : Nat) (s : σ) (h0 : P 0 s) (hk : n + B + 1 < k) :
    L k 0 s = foldX step fin (List.range n) s := by
  have key : ∀ (d k i : Nat) (s : σ), i + d = n → d + B + 1 < k → P i s → L k i s = foldX step fin (List.range' i d) s := by
    intro d
    induction d with
    | zero =>
      intro k i s hd hk hp
      obtain ⟨k, rfl⟩ : ∃ m, k = m + 1 := ⟨k - 1, by omega⟩
      have : i = n := by omega
      subst this
      simpa [foldX] using h2 k s (by omega) hp
    | succ d ih =>
      intro k i s hd hk hp
      obtain ⟨k, rfl⟩ : ∃ m, k = m + 1 := ⟨k - 1, by omega⟩
      rw [h1 k i s (by omega) (by omega) hp, w64s (n := n) (by omega) (by omega) hn, List.range'_succ]
      simp only [foldX]
      cases hs : step s i with
      | inl s' => simpa using ih k (i + 1) s' (by omega) (by omega) (hP i s s' (by omega) hp hs)
      | inr r => rfl
  have := key n k 0 s (by omega) (by omega) h0
  rw [List.range_eq_range']
  simpa using this
/-- A loop that only asks whether all places pass. -/
theorem loop_all {R : Type} (L : Nat → Int → Option R) (n B : Nat) (hn : n ≤ 9223372036854775807) (p : Nat → Bool) (no : R) (fin : Option R)
    (h1 : ∀ k (i : Nat), B < k → i < n → L (k + 1) i = if p i = true then L k (wrap64 ((i : Int) + 1)) else some no)
    (h2 : ∀ k, B < k → L (k + 1) n = fin) (k : Nat) (hk : n + B + 1 < k) : L k 0 = if (List.range n).all p then fin else some no := by
  have key : ∀ (d k i : Nat), i + d = n → d + B + 1 < k → L k i = if (List.range' i d).all p then fin else some no := by
    intro d
    induction d with
    | zero =>
      intro k i hd hk
      obtain ⟨k, rfl⟩ : ∃ m, k = m + 1 := ⟨k - 1, by omega⟩
      have : i = n := by omega
      subst this
      simpa using h2 k (by omega)
    | succ d ih =>
      intro k i hd hk
      obtain ⟨k, rfl⟩ : ∃ m, k = m + 1 := ⟨k - 1, by omega⟩
      rw [h1 k i (by omega) (by omega), w64s (n := n) (by omega) (by omega) hn, List.range'_succ, List.all_cons]
      by_cases hp : p i = true
      · have := ih k (i + 1) (by omega) (by omega)
        simp only [hp, if_true, Bool.true_and]
        simpa using this
      · simp [hp]
  have := key n k 0 (by omega) hk
  rw [List.range_eq_range']
  simpa using this
/-- A loop from place i to n inside of a greater text: what it costs, and where it goes on. -/
theorem seg {σ R : Type} (L : Nat → Int → σ → Option R) (L' : Nat → σ → Option R) (n B : Nat) (C : Nat → Nat) (P : Nat → σ → Prop) (step : σ → Nat → σ)
    (h1 : ∀ k (i : Nat) s, B < k → i < n → P i s → L (k + C i) i s = L k ((i : Int) + 1) (step s i))
    (hP : ∀ (i : Nat) s, i < n → P i s → P (i + 1) (step s i))
    (h2 : ∀ k s, B < k → P n s → L (k + 1) n s = L' k s) :
    ∀ (d i k : Nat) (s : σ), i + d = n → B < k → P i s → L (k + 1 + ((List.range' i d).map C).sum) i s = L' k ((List.range' i d).foldl step s) ∧ P n ((List.range' i d).foldl step s) := by
  intro d
  induction d with
  | zero =>
    intro i k s hd hk hp
    have : i = n := by omega
    subst this
    exact ⟨by simpa using h2 k s hk hp, by simpa using hp⟩
  | succ d ih =>
    intro i k s hd hk hp
    rw [List.range'_succ, List.map_cons, List.sum_cons, List.foldl_cons]
    have e : k + 1 + (C i + ((List.range' (i + 1) d).map C).sum) = (k + 1 + ((List.range' (i + 1) d).map C).sum) + C i := by omega
    rw [e, h1 _ i s (by omega) (by omega) hp]
    have := ih (i + 1) k (step s i) (by omega) hk (hP i s (by omega) hp)
    simpa using this
theorem in_impl (a b c : Int) : impl_in.f a b c = some (decide (b ≤ a ∧ a ≤ c)) := by
  unfold impl_in.f
  by_cases h : b ≤ a <;> simp [h]
theorem rdIPart (l : List S26) (i : Nat) : rd_T26 l (i : Int) = l.getD i z26 := by simp [rd_T26]
/-- A name of one to ten small letters. -/
def nmB (b : ByteArray) : Bool := (List.range b.size).all (fun i => decide (97 ≤ bt b i ∧ bt b i ≤ 122)) && decide (1 ≤ (b.size : Int) ∧ (b.size : Int) ≤ 10)
theorem nm_impl (b : ByteArray) (hb : b.size ≤ 9223372036854775807) (k : Nat) (hk : b.size < k) : impl_nameOk.f k b = some (nmB b) := by
  unfold impl_nameOk.f nmB
  have := run_all (fun k i => impl_nameOk.l0 k b b.size i) b.size hb (fun i => decide (97 ≤ bt b i ∧ bt b i ≤ 122)) false (some (decide (1 ≤ (b.size : Int) ∧ (b.size : Int) ≤ 10)))
    (fun k i hi => by
      simp only [impl_nameOk.l0]
      rw [if_pos (by omega), if_pos (by omega), if_pos (by omega)]
      by_cases h1 : bt b i < 97
      · rw [if_pos h1, if_neg (by simp; omega)]
      · rw [if_neg h1]
        by_cases h2 : bt b i > 122
        · rw [if_pos h2, if_neg (by simp; omega)]
        · rw [if_neg h2, if_pos (by simp; omega)])
    (fun k => by
      simp only [impl_nameOk.l0]
      rw [if_neg (by omega), in_impl]
      rfl) k hk
  exact this.trans (by cases (List.range b.size).all _ <;> simp)
theorem contains_ok (l : List ByteArray) (v : ByteArray) (hl : l.length ≤ 1000000000) (k : Nat) (hk : l.length < k) : slices_Contains_string_string.f k l v = some (l.any (fun x => decide (v.toList = x.toList))) := by
  unfold slices_Contains_string_string.f slices_Index_string_string.f
  have key : ∀ (d k i : Nat), i + d = l.length → d < k → ∃ r, slices_Index_string_string.l0 k l v l.length i = some r ∧ decide (r ≥ 0) = (l.drop i).any (fun x => decide (v.toList = x.toList)) := by
    intro d
    induction d with
    | zero =>
      intro k i hi hk
      obtain ⟨k, rfl⟩ : ∃ m, k = m + 1 := ⟨k - 1, by omega⟩
      simp only [slices_Index_string_string.l0]
      rw [if_neg (by omega), List.drop_eq_nil_of_le (by omega)]
      exact ⟨_, rfl, rfl⟩
    | succ d ih =>
      intro k i hi hk
      obtain ⟨k, rfl⟩ : ∃ m, k = m + 1 := ⟨k - 1, by omega⟩
      have hi2 : i < l.length := by omega
      have er : rdOf ByteArray.empty l (i : Int) = l[i] := by simp [rdOf, List.getD_eq_getElem?_getD, hi2]
      simp only [slices_Index_string_string.l0]
      rw [if_pos (by omega), if_pos (by omega), if_pos (by omega), er, List.drop_eq_getElem_cons hi2, List.any_cons]
      by_cases h : v.toList = l[i].toList
      · rw [if_pos h]
        exact ⟨_, rfl, by simp [h]⟩
      · rw [if_neg h, w64s (n := l.length) (by omega) (by omega) (by omega)]
        obtain ⟨r, er, hr⟩ := ih k (i + 1) (by omega) (by omega)
        exact ⟨r, er, by rw [hr]; simp [h]⟩
  obtain ⟨r, er, hr⟩ := key l.length k 0 (by omega) hk
  have er' : slices_Index_string_string.l0 k l v l.length 0 = some r := er
  rw [er']
  simp only [Option.bind_some, hr]
  rfl
/-- Place i's name is a name, and none before it is the same. -/
def okN (l : List ByteArray) (i : Nat) : Bool := nmB (l.getD i ByteArray.empty) && !(l.take i).any (fun x => decide ((l.getD i ByteArray.empty).toList = x.toList))
def namesB (l : List ByteArray) : Bool := (List.range l.length).all (okN l) && decide (1 ≤ (l.length : Int) ∧ (l.length : Int) ≤ 12)
theorem names_impl (l : List ByteArray) (hl : l.length ≤ 1000000000) (B : Nat) (hB : ∀ x ∈ l, x.size ≤ B) (hB2 : B ≤ 1000000000) (k : Nat) (hk : l.length + (l.length + B) + 1 < k) : impl_namesOk.f k l = some (namesB l) := by
  unfold impl_namesOk.f namesB
  have := loop_all (fun k i => impl_namesOk.l0 k l l l.length i) l.length (l.length + B) (by omega) (okN l) false (some (decide (1 ≤ (l.length : Int) ∧ (l.length : Int) ≤ 12)))
    (fun k i hB1 hi => by
      have er : rdOf ByteArray.empty l (i : Int) = l.getD i ByteArray.empty := by simp [rdOf]
      have eg : l.getD i ByteArray.empty = l[i] := by simp [List.getD_eq_getElem?_getD, hi]
      have hb : (l.getD i ByteArray.empty).size ≤ B := by rw [eg]; exact hB _ (List.getElem_mem hi)
      simp only [impl_namesOk.l0]
      rw [if_pos (by omega), if_pos (by omega), if_pos (by omega), er, nm_impl _ (by omega) k (by omega)]
      simp only [Option.bind_some]
      by_cases h : nmB (l.getD i ByteArray.empty) = true
      · rw [if_pos h, if_pos (by omega), Int.toNat_natCast, contains_ok _ _ (by simp; omega) k (by simp; omega)]
        simp only [Option.bind_some]
        have eo : okN l i = !(l.take i).any (fun x => decide ((l.getD i ByteArray.empty).toList = x.toList)) := by
          unfold okN
          rw [h, Bool.true_and]
        rw [eo]
        cases hc : (l.take i).any (fun x => decide ((l.getD i ByteArray.empty).toList = x.toList)) <;> simp
      · rw [if_neg h, if_neg (fun hh => h (by unfold okN at hh; rw [Bool.and_eq_true] at hh; exact hh.1))])
    (fun k hB1 => by
      simp only [impl_namesOk.l0]
      rw [if_neg (by omega), in_impl]
      rfl) k hk
  exact this.trans (by cases (List.range l.length).all _ <;> simp)
theorem namesOf_ok (l : List S26) (hl : l.length ≤ 1000000000) (k : Nat) (hk : l.length < k) : impl_namesOf.f k l = some (l.map S26.f0) := by
  unfold impl_namesOf.f
  have key : ∀ (d k i : Nat), i + d = l.length → d < k → impl_namesOf.l0 k ((l.take i).map S26.f0) l l.length i = some (l.map S26.f0) := by
    intro d
    induction d with
    | zero =>
      intro k i hi hk
      obtain ⟨k, rfl⟩ : ∃ m, k = m + 1 := ⟨k - 1, by omega⟩
      simp only [impl_namesOf.l0]
      rw [if_neg (by omega), List.take_of_length_le (by omega)]
    | succ d ih =>
      intro k i hi hk
      obtain ⟨k, rfl⟩ : ∃ m, k = m + 1 := ⟨k - 1, by omega⟩
      have hi2 : i < l.length := by omega
      have er : rd_T26 l (i : Int) = l[i] := by simp [rd_T26, List.getD_eq_getElem?_getD, hi2]
      simp only [impl_namesOf.l0]
      rw [if_pos (by omega), if_pos (by omega), if_pos (by omega), if_pos (by simp; omega), er, w64s (n := l.length) (by omega) (by omega) (by omega)]
      have := ih k (i + 1) (by omega) (by omega)
      rw [List.take_succ_eq_append_getElem hi2, List.map_append, Int.natCast_add] at this
      exact this
  exact key l.length k 0 (by omega) hk
def amB (p : S26) : Bool := decide (1 ≤ p.f1 ∧ p.f1 ≤ 100000)
def partsOk (l : List S26) : Bool := namesB (l.map S26.f0) && l.all amB
theorem parts_impl (l : List S26) (hl : l.length ≤ 1000000000) (B : Nat) (hB : ∀ x ∈ l, x.f0.size ≤ B) (hB2 : B ≤ 1000000000) (k : Nat) (hk : l.length + (l.length + B) + 1 < k) : impl_PartsOk.f k l = some (partsOk l) := by
  unfold impl_PartsOk.f partsOk
  rw [namesOf_ok l hl k (by omega)]
  simp only [Option.bind_some]
  rw [names_impl (l.map S26.f0) (by simpa using hl) B (fun x hx => by
    obtain ⟨y, hy, rfl⟩ := List.mem_map.1 hx
    exact hB y hy) hB2 k (by simpa using hk)]
  simp only [Option.bind_some]
  have hp : ∀ p : S26, impl_Part_42.pred p = !amB p := by
    intro p
    unfold impl_Part_42.pred impl_PartsOk_1.f amB
    rw [in_impl]
    cases decide (1 ≤ p.f1 ∧ p.f1 ≤ 100000) <;> simp
  have ha : l.any impl_Part_42.pred = !l.all amB := by
    rw [List.not_all_eq_any_not]
    congr 1
    exact funext hp
  unfold impl_Part_42.f
  rw [ha]
  cases namesB (l.map S26.f0) <;> simp
def sepL : List UInt8 := [44, 32]
/-- A text cut at each ", ". -/
def cutL : List UInt8 → List UInt8 → List (List UInt8)
  | cur, [] => [cur]
  | cur, [c] => [cur ++ [c]]
  | cur, c :: d :: r => if c = 44 ∧ d = 32 then cur :: cutL [] r else cutL (cur ++ [c]) (d :: r)
theorem cutL_sep (cur r : List UInt8) : cutL cur (44 :: 32 :: r) = cur :: cutL [] r := by rw [cutL, if_pos ⟨rfl, rfl⟩]
theorem cutL_cons (cur : List UInt8) (c : UInt8) (l : List UInt8) (h : ¬ (c = 44 ∧ l[0]? = some 32)) : cutL cur (c :: l) = cutL (cur ++ [c]) l := by
  cases l with
  | nil => rw [cutL, cutL]
  | cons d r => rw [cutL, if_neg (fun hh => h ⟨hh.1, by rw [hh.2]; rfl⟩)]
theorem index_sep (r : List UInt8) : Lib.index (44 :: 32 :: r) sepL = 0 := by
  rw [Lib.index, if_pos (by simp [sepL])]
theorem index_cons (c : UInt8) (l : List UInt8) (h : ¬ (c = 44 ∧ l[0]? = some 32)) : Lib.index (c :: l) sepL = if Lib.index l sepL = -1 then -1 else Lib.index l sepL + 1 := by
  have np : ¬ sepL.isPrefixOf (c :: l) = true := by
    intro hp
    have := List.isPrefixOf_iff_prefix.1 hp
    obtain ⟨t, ht⟩ := this
    unfold sepL at ht
    rw [List.cons_append, List.cons.injEq] at ht
    obtain ⟨h1, h2⟩ := ht
    exact h ⟨h1.symm, by rw [← h2]; rfl⟩
  rw [Lib.index, if_neg np]
  by_cases e : Lib.index l sepL = -1
  · rw [if_pos e, if_pos (beq_iff_eq.2 e)]
  · rw [if_neg e, if_neg (fun hh => e (beq_iff_eq.1 hh))]
theorem cut_index : ∀ (n : Nat) (l cur : List UInt8), l.length ≤ n → (Lib.index l sepL = -1 → cutL cur l = [cur ++ l]) ∧ ∀ i : Nat, Lib.index l sepL = i → cutL cur l = (cur ++ l.take i) :: cutL [] (l.drop (i + 2)) := by
  intro n
  induction n with
  | zero =>
    intro l cur hl
    have : l = [] := List.length_eq_zero_iff.1 (by omega)
    subst this
    refine ⟨fun _ => by rw [cutL, List.append_nil], fun i h => ?_⟩
    have e : Lib.index [] sepL = -1 := rfl
    omega
  | succ n ih =>
    intro l cur hl
    cases l with
    | nil =>
      refine ⟨fun _ => by rw [cutL, List.append_nil], fun i h => ?_⟩
      have e : Lib.index [] sepL = -1 := rfl
      omega
    | cons c l =>
      rw [List.length_cons] at hl
      by_cases h : c = 44 ∧ l[0]? = some 32
      · obtain ⟨rfl, h0⟩ := h
        obtain ⟨r, rfl⟩ : ∃ r, l = 32 :: r := by
          cases l with
          | nil => cases h0
          | cons d r => exact ⟨r, by simpa using h0⟩
        have e := index_sep r
        refine ⟨fun hh => by omega, fun i hi => ?_⟩
        have : i = 0 := by omega
        subst this
        rw [cutL_sep]
        simp
      · have e := index_cons c l h
        obtain ⟨ih1, ih2⟩ := ih l (cur ++ [c]) (by omega)
        rw [cutL_cons cur c l h]
        refine ⟨fun hh => ?_, fun i hi => ?_⟩
        · have := Lib.index_ge l sepL
          have e2 : Lib.index l sepL = -1 := by
            by_cases e3 : Lib.index l sepL = -1
            · exact e3
            · rw [if_neg e3] at e
              omega
          rw [ih1 e2]
          simp
        · have e2 : ¬ Lib.index l sepL = -1 := fun e3 => by
            rw [if_pos e3] at e
            omega
          rw [if_neg e2] at e
          have hg := Lib.index_ge l sepL
          obtain ⟨j, rfl⟩ : ∃ j, i = j + 1 := ⟨i - 1, by omega⟩
          rw [ih2 j (by omega)]
          simp
theorem split_cut : ∀ (n : Nat) (l : List UInt8), l.length ≤ n → Lib.split l sepL = cutL [] l := by
  intro n
  induction n with
  | zero =>
    intro l hl
    have : l = [] := List.length_eq_zero_iff.1 (by omega)
    subst this
    rfl
  | succ n ih =>
    intro l hl
    obtain ⟨h1, h2⟩ := cut_index l.length l [] (Nat.le_refl _)
    rcases Lib.index_spec l sepL with ⟨hx, _⟩ | ⟨i, hx, _⟩
    · rw [h1 hx]
      unfold Lib.split
      rw [Lib.count_miss hx]
      rfl
    · rw [h2 i hx]
      have hr := Lib.index_room l sepL (by omega)
      have hs : sepL.length = 2 := rfl
      have hd := ih (l.drop (i + 2)) (by rw [List.length_drop]; omega)
      rw [← hd]
      unfold Lib.split
      rw [Lib.count_hit (by decide) hx, hs, Nat.add_comm 1, Lib.splitK, if_neg (by
        intro hh
        have := beq_iff_eq.1 hh
        omega), hx, hs]
      rfl
theorem cut_len : ∀ (n : Nat) (l cur : List UInt8), l.length ≤ n → ((cutL cur l).map List.length).sum + 2 * (cutL cur l).length = cur.length + l.length + 2 := by
  intro n
  induction n with
  | zero =>
    intro l cur hl
    have : l = [] := List.length_eq_zero_iff.1 (by omega)
    subst this
    simp [cutL]
  | succ n ih =>
    intro l cur hl
    cases l with
    | nil => simp [cutL]
    | cons c l =>
      rw [List.length_cons] at hl
      by_cases h : c = 44 ∧ l[0]? = some 32
      · obtain ⟨rfl, h0⟩ := h
        obtain ⟨r, rfl⟩ : ∃ r, l = 32 :: r := by
          cases l with
          | nil => cases h0
          | cons d r => exact ⟨r, by simpa using h0⟩
        rw [List.length_cons] at hl
        have := ih r [] (by omega)
        rw [cutL_sep]
        simp only [List.map_cons, List.sum_cons, List.length_cons, List.length_nil] at this ⊢
        omega
      · have := ih l (cur ++ [c]) (by omega)
        rw [cutL_cons cur c l h, this]
        simp only [List.length_append, List.length_cons, List.length_nil]
        omega
theorem cut_ne (l cur : List UInt8) : cutL cur l ≠ [] := by
  intro e
  have := cut_len l.length l cur (Nat.le_refl _)
  rw [e] at this
  simp at this
def mkB (l : List UInt8) : ByteArray := ⟨l.toArray⟩
theorem toList_data (b : ByteArray) : b.toList = b.data.toList := Go.Lib.toList_data b
theorem eq_of_data {a b : ByteArray} (h : a.data.toList = b.data.toList) : a = b := by
  cases a with
  | mk a =>
    cases b with
    | mk b => exact congrArg ByteArray.mk (Array.toList_inj.1 h)
theorem mk_data (b : ByteArray) : mkB b.data.toList = b := eq_of_data rfl
/-- The pieces of a text. -/
def pieces (a : ByteArray) : List ByteArray := (cutL [] a.data.toList).map mkB
theorem split_pieces (a : ByteArray) : splitL a (⟨#[44, 32]⟩ : ByteArray) = pieces a := by
  have h : (splitL a (⟨#[44, 32]⟩ : ByteArray)).map (·.data.toList) = cutL [] a.data.toList := by
    unfold splitL
    rw [Lib.splitB_data]
    exact split_cut a.data.toList.length a.data.toList (Nat.le_refl _)
  unfold pieces
  rw [← h, List.map_map]
  exact (List.map_id'' (fun x => mk_data x) _).symm
theorem pieces_ne (a : ByteArray) : 1 ≤ (pieces a).length := by
  unfold pieces
  rw [List.length_map]
  have := cut_ne a.data.toList []
  cases h : cutL [] a.data.toList with
  | nil => exact absurd h this
  | cons x l => simp
theorem mkB_size (l : List UInt8) : (mkB l).size = l.length := rfl
theorem pieces_sum (a : ByteArray) : ((pieces a).map ByteArray.size).sum + 2 * (pieces a).length = a.size + 2 := by
  have := cut_len a.data.toList.length a.data.toList [] (Nat.le_refl _)
  have e : a.data.toList.length = a.size := rfl
  unfold pieces
  rw [List.map_map, List.length_map]
  have e2 : (ByteArray.size ∘ mkB) = List.length := rfl
  rw [e2]
  rw [e] at this
  simp only [List.length_nil] at this
  omega
theorem sum_mem (l : List ByteArray) (x : ByteArray) (h : x ∈ l) : x.size ≤ (l.map ByteArray.size).sum := by
  induction l with
  | nil => cases h
  | cons y l ih =>
    rw [List.map_cons, List.sum_cons]
    rcases List.mem_cons.1 h with rfl | h
    · omega
    · have := ih h
      omega
theorem sum_le (l : List ByteArray) (h : ∀ x ∈ l, x.size ≤ 10) : (l.map ByteArray.size).sum ≤ 10 * l.length := by
  induction l with
  | nil => simp
  | cons y l ih =>
    rw [List.map_cons, List.sum_cons, List.length_cons]
    have h1 := h y List.mem_cons_self
    have := ih (fun x hx => h x (List.mem_cons_of_mem _ hx))
    omega
theorem nmB_size {b : ByteArray} (h : nmB b = true) : 1 ≤ b.size ∧ b.size ≤ 10 := by
  unfold nmB at h
  rw [Bool.and_eq_true, decide_eq_true_eq] at h
  omega
theorem names_each {l : List ByteArray} (h : namesB l = true) : ∀ x ∈ l, nmB x = true := by
  intro x hx
  unfold namesB at h
  rw [Bool.and_eq_true] at h
  obtain ⟨i, hi, rfl⟩ := List.mem_iff_getElem.1 hx
  have := List.all_eq_true.1 h.1 i (List.mem_range.2 hi)
  unfold okN at this
  rw [Bool.and_eq_true] at this
  have e : l.getD i ByteArray.empty = l[i] := by simp [List.getD_eq_getElem?_getD, hi]
  rw [e] at this
  exact this.1
theorem names_short (a : ByteArray) (h : namesB (pieces a) = true) : a.size ≤ 150 := by
  have h1 := pieces_sum a
  have h2 := sum_le (pieces a) (fun x hx => (nmB_size (names_each h x hx)).2)
  unfold namesB at h
  rw [Bool.and_eq_true, decide_eq_true_eq] at h
  omega
theorem read_room (n s z k : Nat) (h : s + 2 * n = z + 2) (hz : z ≤ 1048576) (hk : 4000000 < k) : n ≤ 1000000000 ∧ n + (n + 1048578) + 1 < k := by omega
theorem read_impl (a : ByteArray) (ha : a.size ≤ 1048576) (k : Nat) (hk : 4000000 < k) : impl_ReadLabel.f k a = some (if namesB (pieces a) = true then (pieces a, true) else ([], false)) := by
  have h1 := pieces_sum a
  obtain ⟨r1, r2⟩ := read_room _ _ _ k h1 ha hk
  have hB : ∀ x ∈ pieces a, x.size ≤ 1048578 := fun x hx => by
    have := sum_mem (pieces a) x hx
    omega
  have hn := names_impl (pieces a) r1 1048578 hB (by decide) k r2
  unfold impl_ReadLabel.f strings_Split.f
  have e2 : (⟨#[44, 32]⟩ : ByteArray).size = 2 := rfl
  rw [if_pos (by omega), if_pos (by rw [e2]; omega), split_pieces]
  simp only [Option.bind_some]
  rw [hn]
  simp only [Option.bind_some]
  split <;> rfl
/-! ### the reference -/
def bad (o : List ByteArray) (x : ByteArray) : Bool := o.any (fun y => decide (y.toList = x.toList)) || !nmB x || decide (o.length = 12)
def chk : List ByteArray → List ByteArray → List ByteArray × Bool
  | o, [] => (o, true)
  | o, x :: xs => if bad o x = true then ([], false) else chk (o ++ [x]) xs
theorem bt_list (a : ByteArray) (k : Nat) (h : k < a.size) : bt a (k : Int) = ((a.data.toList[k]'h).toNat : Int) := by
  unfold bt
  rw [dif_pos (by rw [Int.toNat_natCast]; exact h)]
  rfl
theorem extract_list (a : ByteArray) (b k : Nat) : a.extract b k = mkB ((a.data.toList.take k).drop b) := by
  apply eq_of_data
  simp [mkB, ByteArray.data_extract, List.take_drop]
  rw [List.drop_take, List.drop_take, Nat.add_sub_cancel_left]
theorem okN_app (o : List ByteArray) (r : List ByteArray) (i : Nat) (h : i < o.length) : okN (o ++ r) i = okN o i := by
  unfold okN
  rw [List.getD_eq_getElem?_getD, List.getElem?_append_left h, List.take_append_of_le_length (by omega), ← List.getD_eq_getElem?_getD]
theorem okN_at (o : List ByteArray) (x : ByteArray) (r : List ByteArray) : okN (o ++ x :: r) o.length = (nmB x && !o.any (fun y => decide (y.toList = x.toList))) := by
  unfold okN
  have e : (o ++ x :: r).getD o.length ByteArray.empty = x := by
    rw [List.getD_eq_getElem?_getD, List.getElem?_append_right (Nat.le_refl _), Nat.sub_self]
    rfl
  have e2 : (o ++ x :: r).take o.length = o := by rw [List.take_append_of_le_length (Nat.le_refl _), List.take_length]
  rw [e, e2]
  congr 2
  congr 1
  funext y
  exact decide_eq_decide.2 ⟨Eq.symm, Eq.symm⟩
def namesR (l : List ByteArray) : Bool := (List.range l.length).all (okN l) && decide (l.length ≤ 12)
theorem chk_ok : ∀ (xs o : List ByteArray), o.length ≤ 12 → (∀ i, i < o.length → okN o i = true) → chk o xs = if namesR (o ++ xs) = true then (o ++ xs, true) else ([], false)
  | [], o, ho, hk => by
    have : namesR (o ++ []) = true := by
      unfold namesR
      rw [List.append_nil, decide_eq_true ho, Bool.and_true, List.all_eq_true]
      exact fun i hi => hk i (List.mem_range.1 hi)
    rw [chk, if_pos this, List.append_nil]
  | x :: xs, o, ho, hk => by
    rw [chk]
    have hat := okN_at o x xs
    by_cases hb : bad o x = true
    · rw [if_pos hb]
      have hn : ¬ namesR (o ++ x :: xs) = true := by
        intro h
        unfold namesR at h
        rw [Bool.and_eq_true, decide_eq_true_eq, List.all_eq_true] at h
        have h1 := h.1 o.length (List.mem_range.2 (by rw [List.length_append, List.length_cons]; omega))
        rw [hat, Bool.and_eq_true] at h1
        have h2 := h.2
        rw [List.length_append, List.length_cons] at h2
        unfold bad at hb
        rw [h1.1, (by simpa using h1.2 : o.any (fun y => decide (y.toList = x.toList)) = false), decide_eq_false (by omega : ¬ o.length = 12)] at hb
        simp at hb
      rw [if_neg hn]
    · have hb' := Bool.eq_false_iff.2 hb
      unfold bad at hb'
      simp only [Bool.or_eq_false_iff, Bool.not_eq_false', decide_eq_false_iff_not] at hb'
      obtain ⟨⟨h1, h2⟩, h3⟩ := hb'
      rw [if_neg hb]
      have e : o ++ [x] ++ xs = o ++ x :: xs := by simp
      rw [chk_ok xs (o ++ [x]) (by rw [List.length_append, List.length_singleton]; omega) (fun i hi => by
        rw [List.length_append, List.length_singleton] at hi
        by_cases h : i < o.length
        · rw [okN_app o [x] i h]
          exact hk i h
        · have : i = o.length := by omega
          subst this
          rw [okN_at o x [], h1, h2]
          rfl), e]
theorem names_R (l : List ByteArray) (h : 1 ≤ l.length) : namesR l = namesB l := by
  unfold namesR namesB
  congr 1
  exact decide_eq_decide.2 ⟨fun _ => by omega, fun _ => by omega⟩
/-- Part x comes ahead of part y. -/
def ahead (x y : S26) : Bool := decide (y.f1 < x.f1) || (decide (y.f1 = x.f1) && Op.bytesLess x.f0.toList y.f0.toList)
/-- x put into a row (told from its end). -/
def insR (x : S26) : List S26 → List S26
  | [] => [x]
  | y :: ys => if ahead x y = true then y :: insR x ys else x :: y :: ys
def insE (x : S26) (l : List S26) : List S26 := (insR x l.reverse).reverse
def sortL (l : List S26) : List S26 := l.foldl (fun s x => insE x s) []
theorem insR_length (x : S26) : ∀ l, (insR x l).length = l.length + 1
  | [] => rfl
  | y :: ys => by
    unfold insR
    split
    · rw [List.length_cons, insR_length x ys]; rfl
    · rfl
theorem insE_length (x : S26) (l : List S26) : (insE x l).length = l.length + 1 := by
  unfold insE
  rw [List.length_reverse, insR_length, List.length_reverse]
theorem insE_nil (x : S26) : insE x [] = [x] := rfl
theorem insR_cons (x y : S26) (ys : List S26) : insR x (y :: ys) = if ahead x y = true then y :: insR x ys else x :: y :: ys := rfl
theorem insE_snoc (x y : S26) (l : List S26) : insE x (l ++ [y]) = if ahead x y = true then insE x l ++ [y] else l ++ [y, x] := by
  unfold insE
  rw [List.reverse_append, List.reverse_singleton, List.singleton_append]
  by_cases h : ahead x y = true
  · rw [if_pos h, insR_cons, if_pos h, List.reverse_cons]
  · rw [if_neg h, insR_cons, if_neg h]
    simp
/-! ### the program's sort -/
theorem cmpBytes_lt : ∀ (a b : List UInt8), (Lib.compareBytes a b < 0 ↔ Op.bytesLess a b = true)
  | [], [] => by simp [Lib.compareBytes, Op.bytesLess]
  | [], _ :: _ => by simp [Lib.compareBytes, Op.bytesLess]
  | _ :: _, [] => by simp [Lib.compareBytes, Op.bytesLess]
  | x :: a, y :: b => by
    have ih := cmpBytes_lt a b
    unfold Lib.compareBytes Op.bytesLess
    by_cases h : x < y
    · simp [h]
    · by_cases h2 : y < x
      · have hne : ¬ x = y := fun e => by subst e; exact UInt8.lt_irrefl _ h2
        simp [h, h2, hne]
      · have he : x = y := by
          rcases UInt8.lt_or_lt_of_ne (a := x) (b := y) with h3
          apply Classical.byContradiction
          intro hn
          rcases UInt8.lt_or_lt_of_ne hn with h4 | h4
          · exact h h4
          · exact h2 h4
        subst he
        simp [h, ih]
theorem ltOf_cmp (x y : S26) (hx : amB x = true) (hy : amB y = true) : ltOf cmpP x y = ahead x y := by
  have h1 := of_decide_eq_true hx
  have h2 := of_decide_eq_true hy
  unfold ltOf cmpP ahead
  rw [w64 (n := y.f1 - x.f1) (by omega) (by omega), toList_data, toList_data]
  by_cases e : y.f1 - x.f1 = 0
  · have e2 : y.f1 = x.f1 := by omega
    rw [if_pos e, decide_eq_false (by omega : ¬ y.f1 < x.f1), decide_eq_true e2, Bool.false_or, Bool.true_and]
    have := cmpBytes_lt x.f0.data.toList y.f0.data.toList
    cases hb : Op.bytesLess x.f0.data.toList y.f0.data.toList with
    | true => exact decide_eq_true (this.2 hb)
    | false => exact decide_eq_false (fun h => by rw [this.1 h] at hb; cases hb)
  · rw [if_neg e, decide_eq_false (by omega : ¬ y.f1 = x.f1), Bool.false_and, Bool.or_false]
    by_cases h : y.f1 < x.f1
    · rw [decide_eq_true h, decide_eq_true (by omega)]
    · rw [decide_eq_false h, decide_eq_false (by omega)]
theorem arr_get (A B : List S26) (x : S26) : ((A ++ x :: B).toArray)[A.length]! = x := by
  rw [getElem!_pos _ _ (by simp)]
  simp
theorem arr_get' (A B : List S26) (x : S26) (n : Nat) (h : n = A.length) : ((A ++ x :: B).toArray)[n]! = x := by
  subst h
  exact arr_get A B x
theorem insInner_ok (x : S26) (hx : amB x = true) : ∀ (n : Nat) (A B : List S26), A.length = n → (∀ y ∈ A, amB y = true) → Go.Sort.insInner (ltOf cmpP) 0 n (A ++ x :: B).toArray = (insE x A ++ B).toArray := by
  intro n
  induction n with
  | zero =>
    intro A B hA _
    have : A = [] := List.length_eq_zero_iff.1 hA
    subst this
    rfl
  | succ n ih =>
    intro A B hA hy
    have hne : A ≠ [] := fun h => by rw [h] at hA; cases hA
    obtain ⟨A', y, rfl⟩ : ∃ A' y, A = A' ++ [y] := ⟨A.dropLast, A.getLast hne, (List.dropLast_concat_getLast hne).symm⟩
    have hA' : A'.length = n := by rw [List.length_append] at hA; simpa using hA
    have hyy := hy y (by simp)
    have e1 : (A' ++ [y] ++ x :: B).toArray[n + 1]! = x := arr_get' _ _ _ _ (by rw [List.length_append, hA']; rfl)
    have eq : A' ++ [y] ++ x :: B = A' ++ y :: (x :: B) := by simp
    have e2 : (A' ++ [y] ++ x :: B).toArray[n]! = y := by rw [eq]; exact arr_get' _ _ _ _ hA'.symm
    unfold Go.Sort.insInner
    rw [e1, e2, ltOf_cmp x y hx hyy, insE_snoc]
    have hd : decide (n + 1 > 0) = true := decide_eq_true (by omega)
    by_cases h : ahead x y = true
    · rw [if_pos h, if_pos (by rw [h]; simp)]
      have hsw : Go.Sort.swp (A' ++ [y] ++ x :: B).toArray (n + 1) n = (A' ++ x :: (y :: B)).toArray := by
        unfold Go.Sort.swp
        rw [e1, e2]
        apply Array.ext_getElem?
        intro j
        rw [Array.getElem?_setIfInBounds, Array.getElem?_setIfInBounds, Array.size_setIfInBounds, List.getElem?_toArray, List.getElem?_toArray, List.size_toArray]
        have hlen : (A' ++ [y] ++ x :: B).length = n + 1 + 1 + B.length := by simp [hA']; omega
        by_cases h1 : n = j
        · subst h1
          rw [if_pos rfl, if_pos (by omega), List.getElem?_append_right (by omega), hA', Nat.sub_self]
          rfl
        · rw [if_neg h1]
          by_cases h2 : n + 1 = j
          · subst h2
            rw [if_pos rfl, if_pos (by omega), List.getElem?_append_right (by omega), hA', show n + 1 - n = 1 by omega]
            rfl
          · rw [if_neg h2, eq]
            by_cases h3 : j < n
            · rw [List.getElem?_append_left (by omega), List.getElem?_append_left (by omega)]
            · rw [List.getElem?_append_right (by omega), List.getElem?_append_right (by omega), hA']
              obtain ⟨m, hm⟩ : ∃ m, j - n = m + 2 := ⟨j - n - 2, by omega⟩
              rw [hm]
              rfl
      rw [hsw, ih A' (y :: B) hA' (fun z hz => hy z (by simp [hz]))]
      simp
    · rw [if_neg h, if_neg (by simp [h])]
      simp
theorem insR_mem (x : S26) : ∀ (l : List S26) (y : S26), y ∈ insR x l ↔ y = x ∨ y ∈ l
  | [], y => by simp [insR]
  | z :: l, y => by
    unfold insR
    split
    · rw [List.mem_cons, insR_mem x l y, List.mem_cons]
      constructor
      · rintro (h | h | h)
        · exact .inr (.inl h)
        · exact .inl h
        · exact .inr (.inr h)
      · rintro (h | h | h)
        · exact .inr (.inl h)
        · exact .inl h
        · exact .inr (.inr h)
    · simp
theorem insE_mem (x : S26) (l : List S26) (y : S26) : y ∈ insE x l ↔ y = x ∨ y ∈ l := by
  unfold insE
  rw [List.mem_reverse, insR_mem, List.mem_reverse]
theorem insOuter_ok (N : Nat) : ∀ (rest S : List S26) (i : Nat), S.length = i → i + rest.length = N → (∀ y ∈ S, amB y = true) → (∀ y ∈ rest, amB y = true) → Go.Sort.insOuter (ltOf cmpP) 0 N i (S ++ rest).toArray = (rest.foldl (fun s x => insE x s) S).toArray := by
  intro rest
  induction rest with
  | nil =>
    intro S i hS hi _ _
    unfold Go.Sort.insOuter
    rw [if_neg (by simp at hi; omega)]
    simp
  | cons x rest ih =>
    intro S i hS hi h1 h2
    rw [List.length_cons] at hi
    unfold Go.Sort.insOuter
    rw [if_pos (by omega), insInner_ok x (h2 x (by simp)) i S rest hS h1, List.foldl_cons]
    exact ih (insE x S) (i + 1) (by rw [insE_length, hS]) (by omega) (fun y hy => by
      rcases (insE_mem x S y).1 hy with e | e
      · rw [e]; exact h2 x (by simp)
      · exact h1 y e) (fun y hy => h2 y (by simp [hy]))
theorem sortP_ok (l : List S26) (h : ∀ y ∈ l, amB y = true) : sortP l = sortL l := by
  unfold sortP sortL Go.Sort.insertionSort
  cases l with
  | nil =>
    unfold Go.Sort.insOuter
    rw [if_neg (by simp)]
    rfl
  | cons x l =>
    have := insOuter_ok (x :: l).length l [x] 1 rfl (by rw [List.length_cons]; omega) (fun y hy => h y (by simp at hy; simp [hy])) (fun y hy => h y (by simp [hy]))
    rw [Nat.zero_add]
    have e : (x :: l) = [x] ++ l := rfl
    rw [← e] at this
    rw [this, List.foldl_cons, insE_nil]
set_option maxRecDepth 100000 in
theorem len_small (n k : Nat) (hn : n ≤ 12) (hk : 0 < k) : ∃ v, bits_Len.f k (n : Int) = some v := by
  obtain ⟨k, rfl⟩ : ∃ m, k = m + 1 := ⟨k - 1, by omega⟩
  unfold bits_Len.f bits_Len64.f
  rw [if_neg (by omega)]
  rw [bits_Len64.j0]
  rw [if_neg (by omega), if_neg (by omega), if_pos (by omega), if_pos (by omega)]
  exact ⟨_, rfl⟩
/-- What both give back. -/
def sorted (l : List S26) : List S26 := if partsOk l = true then sortL l else []
theorem ok_len {l : List S26} (h : partsOk l = true) : 1 ≤ l.length ∧ l.length ≤ 12 ∧ ∀ y ∈ l, amB y = true := by
  unfold partsOk namesB at h
  simp only [Bool.and_eq_true, List.length_map, decide_eq_true_eq, List.all_eq_true] at h
  exact ⟨by omega, by omega, h.2⟩
theorem sorted_impl (l : List S26) (hl : l.length ≤ 1000000000) (B : Nat) (hB : ∀ x ∈ l, x.f0.size ≤ B) (hB2 : B ≤ 1000000000) (k : Nat) (hk : l.length + (l.length + B) + 20 < k) : impl_SortedParts.f k l = some (sorted l) := by
  unfold impl_SortedParts.f sorted
  rw [parts_impl l hl B hB hB2 k (by omega)]
  simp only [Option.bind_some]
  by_cases h : partsOk l = true
  · obtain ⟨h1, h2, h3⟩ := ok_len h
    rw [if_pos h, if_pos h]
    obtain ⟨v, hv⟩ := len_small l.length k h2 (by omega)
    unfold impl_Part_33.f
    rw [if_pos (by omega), if_pos (by omega)]
    simp only [Option.bind_some]
    unfold impl_Part_34.f
    rw [hv]
    simp only [Option.bind_some]
    rw [if_pos (by omega), if_pos h2]
    simp only [Option.bind_some]
    rw [sortP_ok l h3]
  · rw [if_neg h, if_neg h]
theorem sortL_length : ∀ (l S : List S26), (l.foldl (fun s x => insE x s) S).length = S.length + l.length
  | [], S => by simp
  | x :: l, S => by rw [List.foldl_cons, sortL_length l, insE_length, List.length_cons]; omega
theorem sorted_length (l : List S26) : (sorted l).length ≤ 12 := by
  unfold sorted
  split
  · rename_i h
    have := ok_len h
    unfold sortL
    rw [sortL_length]
    simpa using this.2.1
  · simp
theorem sortL_mem : ∀ (l S : List S26) (y : S26), y ∈ l.foldl (fun s x => insE x s) S ↔ y ∈ S ∨ y ∈ l
  | [], S, y => by simp
  | x :: l, S, y => by
    rw [List.foldl_cons, sortL_mem l, insE_mem, List.mem_cons]
    constructor
    · rintro ((h | h) | h)
      · exact .inr (.inl h)
      · exact .inl h
      · exact .inr (.inr h)
    · rintro (h | h | h)
      · exact .inl (.inr h)
      · exact .inl (.inl h)
      · exact .inr h
theorem sorted_each (l : List S26) : ∀ y ∈ sorted l, y.f0.size ≤ 10 ∧ amB y = true ∧ y ∈ l := by
  intro y hy
  unfold sorted at hy
  by_cases h : partsOk l = true
  · rw [if_pos h] at hy
    unfold sortL at hy
    have hm : y ∈ l := by
      rcases (sortL_mem l [] y).1 hy with h2 | h2
      · cases h2
      · exact h2
    have hn : namesB (l.map S26.f0) = true := by
      unfold partsOk at h
      rw [Bool.and_eq_true] at h
      exact h.1
    exact ⟨(nmB_size (names_each hn y.f0 (List.mem_map.2 ⟨y, hm, rfl⟩))).2, (ok_len h).2.2 y hm, hm⟩
  · rw [if_neg h] at hy
    cases hy
def sepB : ByteArray := ⟨#[44, 32]⟩
theorem tail_len (sep : List UInt8) (hs : sep.length = 2) : ∀ (r : List (List UInt8)), (∀ x ∈ r, x.length ≤ 10) → (Lib.joinTail sep r).length ≤ 12 * r.length
  | [], _ => by simp [Lib.joinTail]
  | x :: r, h => by
    have ih := tail_len sep hs r (fun y hy => h y (by simp [hy]))
    have hx := h x (by simp)
    unfold Lib.joinTail at ih ⊢
    rw [List.map_cons, List.flatten_cons, List.length_append, List.length_append, List.length_cons]
    omega
theorem join_len (l : List ByteArray) (h : ∀ x ∈ l, x.size ≤ 10) : (Lib.join (l.map (·.data.toList)) sepB.data.toList).length ≤ 12 * l.length := by
  cases l with
  | nil => exact Nat.le_of_eq rfl
  | cons x r =>
    rw [List.map_cons, Lib.join_cons, List.length_append]
    have hx := h x List.mem_cons_self
    have e : x.data.toList.length = x.size := rfl
    have := tail_len sepB.data.toList rfl (r.map (·.data.toList)) (fun y hy => by
      obtain ⟨z, hz, rfl⟩ := List.mem_map.1 hy
      have e2 : z.data.toList.length = z.size := rfl
      have := h z (List.mem_cons_of_mem _ hz)
      omega)
    rw [List.length_map] at this
    rw [List.length_cons]
    omega
theorem tail_snoc (sep : List UInt8) (r : List (List UInt8)) (x : List UInt8) : Lib.joinTail sep (r ++ [x]) = Lib.joinTail sep r ++ (sep ++ x) := by
  unfold Lib.joinTail
  rw [List.map_append, List.flatten_append]
  simp
theorem join_snoc (sep : List UInt8) (r : List (List UInt8)) (x : List UInt8) (h : r ≠ []) : Lib.join (r ++ [x]) sep = Lib.join r sep ++ (sep ++ x) := by
  cases r with
  | nil => exact absurd rfl h
  | cons y r => rw [List.cons_append, Lib.join_cons, Lib.join_cons, tail_snoc, List.append_assoc]
/-- The text of a label. -/
def labelB (l : List S26) : ByteArray := joinB ((sorted l).map S26.f0) sepB
theorem label_impl (l : List S26) (hl : l.length ≤ 1000000000) (B : Nat) (hB : ∀ x ∈ l, x.f0.size ≤ B) (hB2 : B ≤ 1000000000) (k : Nat) (hk : l.length + (l.length + B) + 20 < k) : impl_LabelText.f k l = some (labelB l) := by
  unfold impl_LabelText.f
  rw [sorted_impl l hl B hB hB2 k hk]
  simp only [Option.bind_some]
  have hs := sorted_length l
  rw [namesOf_ok (sorted l) (Nat.le_trans hs (by decide)) k (Nat.lt_of_le_of_lt hs (by omega))]
  simp only [Option.bind_some]
  unfold strings_Join.f
  have hj := join_len ((sorted l).map S26.f0) (fun x hx => by
    obtain ⟨y, hy, rfl⟩ := List.mem_map.1 hx
    exact (sorted_each l y hy).1)
  rw [List.length_map] at hj
  have e : (⟨#[44, 32]⟩ : ByteArray) = sepB := rfl
  rw [e, if_pos (by rw [List.length_map]; exact Nat.le_trans hs (by decide)), if_pos (Nat.le_trans hj (Nat.le_trans (Nat.mul_le_mul_left 12 hs) (by decide)))]
  rfl
/-! ### what a sorted row keeps: the sum; the greatest first -/
def sumG : List S26 → Int
  | [] => 0
  | x :: l => x.f1 + sumG l
theorem sumG_append (a b : List S26) : sumG (a ++ b) = sumG a + sumG b := by
  induction a with
  | nil => rw [List.nil_append]; simp only [sumG]; omega
  | cons x a ih => rw [List.cons_append]; simp only [sumG]; rw [ih]; omega
theorem sumG_reverse (a : List S26) : sumG a.reverse = sumG a := by
  induction a with
  | nil => rfl
  | cons x a ih => rw [List.reverse_cons, sumG_append, ih]; simp only [sumG]; omega
theorem sumG_insR (x : S26) : ∀ l, sumG (insR x l) = x.f1 + sumG l
  | [] => rfl
  | y :: ys => by
    rw [insR_cons]
    split
    · simp only [sumG]; rw [sumG_insR x ys]; omega
    · simp only [sumG]
theorem sumG_sort : ∀ (l S : List S26), sumG (l.foldl (fun s x => insE x s) S) = sumG S + sumG l
  | [], S => by rw [List.foldl_nil]; simp only [sumG]; omega
  | x :: l, S => by
    rw [List.foldl_cons, sumG_sort l, insE, sumG_reverse, sumG_insR, sumG_reverse]
    simp only [sumG]
    omega
theorem insR_up (x : S26) : ∀ (l : List S26), l.Pairwise (fun a b => a.f1 ≤ b.f1) → (insR x l).Pairwise (fun a b => a.f1 ≤ b.f1)
  | [], _ => List.pairwise_singleton _ _
  | y :: ys, h => by
    rw [insR_cons]
    have h1 := List.pairwise_cons.1 h
    by_cases c : ahead x y = true
    · rw [if_pos c, List.pairwise_cons]
      refine ⟨fun z hz => ?_, insR_up x ys h1.2⟩
      rcases (insR_mem x ys z).1 hz with e | e
      · subst e
        unfold ahead at c
        simp only [Bool.or_eq_true, Bool.and_eq_true, decide_eq_true_eq] at c
        omega
      · exact h1.1 z e
    · rw [if_neg c, List.pairwise_cons]
      have hxy : x.f1 ≤ y.f1 := by
        unfold ahead at c
        simp only [Bool.or_eq_true, Bool.and_eq_true, decide_eq_true_eq, not_or] at c
        omega
      refine ⟨fun z hz => ?_, h⟩
      rcases List.mem_cons.1 hz with e | e
      · subst e; exact hxy
      · have := h1.1 z e
        omega
theorem insE_down (x : S26) (l : List S26) (h : l.Pairwise (fun a b => b.f1 ≤ a.f1)) : (insE x l).Pairwise (fun a b => b.f1 ≤ a.f1) := by
  unfold insE
  rw [List.pairwise_reverse]
  exact insR_up x _ (List.pairwise_reverse.2 h)
theorem sortL_down : ∀ (l S : List S26), S.Pairwise (fun a b => b.f1 ≤ a.f1) → (l.foldl (fun s x => insE x s) S).Pairwise (fun a b => b.f1 ≤ a.f1)
  | [], _, h => h
  | x :: l, S, h => by
    rw [List.foldl_cons]
    exact sortL_down l _ (insE_down x S h)
theorem sumG_bd : ∀ (l : List S26), (∀ y ∈ l, amB y = true) → 0 ≤ sumG l ∧ sumG l ≤ 100000 * (l.length : Int)
  | [], _ => ⟨Int.le_refl _, by simp [sumG]⟩
  | x :: l, h => by
    have ih := sumG_bd l (fun y hy => h y (List.mem_cons_of_mem _ hy))
    have hx := of_decide_eq_true (h x List.mem_cons_self)
    simp only [sumG, List.length_cons]
    omega
/-- Who must be named. -/
def big (p s : Int) (x : S26) : Bool := decide (p * s ≤ x.f1 * 100)
def mustL (l : List S26) (p : Int) : List ByteArray := if partsOk l = true ∧ (0 ≤ p ∧ p ≤ 100) then ((sortL l).filter (big p (sumG l))).map S26.f0 else []
theorem prod_bd {p s : Int} (hp : 0 ≤ p ∧ p ≤ 100) (hs : 0 ≤ s ∧ s ≤ 1200000) : 0 ≤ p * s ∧ p * s ≤ 120000000 := by
  have h1 : p * s ≤ 100 * s := Int.mul_le_mul_of_nonneg_right hp.2 hs.1
  exact ⟨Int.mul_nonneg hp.1 hs.1, by omega⟩
theorem mustQ_big {p s : Int} (hp : 0 ≤ p ∧ p ≤ 100) (hs : 0 ≤ s ∧ s ≤ 1200000) (x : S26) (hx : amB x = true) : mustQ (p, s) x = !big p s x := by
  have hx := of_decide_eq_true hx
  have hb := prod_bd hp hs
  unfold mustQ big
  dsimp only
  rw [w64 (n := x.f1 * 100) (by omega) (by omega), w64 (n := p * s) (by omega) (by omega)]
  by_cases c : p * s ≤ x.f1 * 100
  · rw [decide_eq_true c, decide_eq_false (by omega)]; rfl
  · rw [decide_eq_false c, decide_eq_true (by omega)]; rfl
/-- Deleting out of a row in which, behind the first that goes, all go. -/
theorem del_prefix (q : S26 → Bool) (l : List S26) (h : l.Pairwise (fun a b => q a = true → q b = true)) (a : Int × Int) (hq : ∀ x ∈ l, mustQ a x = q x) : impl_Part_40.f l a = some (l.filter (fun x => !q x)) := by
  have hg : ∀ j (hj : j < l.length), mustQ a (l.getD j z26) = q l[j] := by
    intro j hj
    have e : l.getD j z26 = l[j] := by simp [List.getD_eq_getElem?_getD, hj]
    rw [e]
    exact hq _ (List.getElem_mem hj)
  unfold impl_Part_40.f
  by_cases hall : ∀ x ∈ l, q x = false
  · have e1 : idxR (fun j => mustQ a (l.getD j z26)) l.length = -1 := idxR_miss _ _ (fun j hj => by rw [hg j hj]; exact hall _ (List.getElem_mem hj))
    rw [e1, if_pos rfl]
    congr 1
    rw [List.filter_eq_self.2]
    intro x hx
    rw [hall x hx]
    rfl
  · obtain ⟨i, hi, hqi, hbef⟩ : ∃ i, ∃ hi : i < l.length, q l[i] = true ∧ ∀ j (hj : j < i), q (l[j]'(by omega)) = false := by
      have : ∃ x ∈ l, q x = true := by
        apply Classical.byContradiction
        intro hn
        exact hall (fun x hx => by
          cases hh : q x with
          | false => rfl
          | true => exact absurd ⟨x, hx, hh⟩ hn)
      have hlt := List.findIdx_lt_length_of_exists this
      refine ⟨l.findIdx q, hlt, List.findIdx_getElem, fun j hj => ?_⟩
      have := List.not_of_lt_findIdx hj
      cases hh : q (l[j]'(by omega)) with
      | false => rfl
      | true => exact absurd hh (by simpa using this)
    have e1 : idxR (fun j => mustQ a (l.getD j z26)) l.length = (i : Int) := idxR_hit _ _ _ hi (by show mustQ a (l.getD i z26) = true; rw [hg i hi]; exact hqi) (fun j hj => by show mustQ a (l.getD j z26) = false; rw [hg j (by omega)]; exact hbef j hj)
    rw [e1, if_neg (by omega), Int.toNat_natCast]
    have hlater : ∀ x ∈ l.drop (i + 1), q x = true := by
      intro x hx
      have hsplit : l = l.take (i + 1) ++ l.drop (i + 1) := (List.take_append_drop _ _).symm
      have hm : l[i] ∈ l.take (i + 1) := by
        rw [List.take_succ_eq_append_getElem hi]
        exact List.mem_append_right _ List.mem_cons_self
      rw [hsplit] at h
      have h3 := (List.pairwise_append.1 h).2.2
      exact h3 _ hm x hx hqi
    rw [if_pos (by
      rw [List.all_eq_true]
      intro x hx
      rw [hq x (List.mem_of_mem_drop hx)]
      exact hlater x hx)]
    congr 1
    have hsplit : l = l.take i ++ l.drop i := (List.take_append_drop _ _).symm
    conv => rhs; rw [hsplit, List.filter_append]
    have f1 : (l.take i).filter (fun x => !q x) = l.take i := by
      rw [List.filter_eq_self.2]
      intro x hx
      obtain ⟨j, hj, rfl⟩ := List.mem_iff_getElem.1 hx
      rw [List.length_take] at hj
      rw [List.getElem_take, hbef j (by omega)]
      rfl
    have f2 : (l.drop i).filter (fun x => !q x) = [] := by
      rw [List.filter_eq_nil_iff]
      intro x hx
      rw [List.drop_eq_getElem_cons hi] at hx
      rcases List.mem_cons.1 hx with e | e
      · rw [e, hqi]; simp
      · rw [hlater x e]; simp
    rw [f1, f2, List.append_nil]
theorem must_impl (l : List S26) (p : Int) (hl : l.length ≤ 1000000000) (B : Nat) (hB : ∀ x ∈ l, x.f0.size ≤ B) (hB2 : B ≤ 1000000000) (k : Nat) (hk : l.length + (l.length + B) + 60 < k) : impl_MustName.f k l p = some (mustL l p) := by
  unfold impl_MustName.f mustL
  rw [parts_impl l hl B hB hB2 k (by omega)]
  simp only [Option.bind_some]
  obtain ⟨k, rfl⟩ : ∃ m, k = m + 1 := ⟨k - 1, by omega⟩
  by_cases h : partsOk l = true
  · obtain ⟨h1, h2, h3⟩ := ok_len h
    rw [if_pos h, in_impl]
    simp only [Option.bind_some]
    by_cases hp : 0 ≤ p ∧ p ≤ 100
    · rw [decide_eq_true hp, impl_MustName.j0, if_neg (by simp), if_pos ⟨h, hp⟩]
      have hbd := sumG_bd l h3
      have key : ∀ (d k i : Nat) (s : Int), i + d = l.length → d + 1 + (l.length + (l.length + B) + 40) < k → 0 ≤ s ∧ s ≤ 100000 * (i : Int) → s + sumG (l.drop i) = sumG l → impl_MustName.l0 k l l (l.length : Int) i p s = some (((sortL l).filter (big p (sumG l))).map S26.f0) := by
        intro d
        induction d with
        | zero =>
          intro k i s hi hk hs he
          obtain ⟨k, rfl⟩ : ∃ m, k = m + 1 := ⟨k - 1, by omega⟩
          rw [List.drop_eq_nil_iff.2 (by omega)] at he
          have hs2 : s = sumG l := by simp only [sumG] at he; omega
          subst hs2
          rw [impl_MustName.l0, if_neg (by omega), sorted_impl l hl B hB hB2 k (by omega)]
          simp only [Option.bind_some]
          have e : sorted l = sortL l := by unfold sorted; rw [if_pos h]
          have hlen : (sortL l).length = l.length := by
            unfold sortL
            rw [sortL_length]
            simp
          have hS : 0 ≤ sumG l ∧ sumG l ≤ 1200000 := by omega
          have hmem : ∀ y ∈ sortL l, amB y = true := fun y hy => (sorted_each l y (by rw [e]; exact hy)).2.1
          rw [e, del_prefix (fun x => !big p (sumG l) x) (sortL l) (by
            refine (sortL_down l [] List.Pairwise.nil).imp (fun {a b} hab hqa => ?_)
            unfold big at hqa ⊢
            rw [Bool.not_eq_true', decide_eq_false_iff_not] at hqa ⊢
            omega) (p, sumG l) (fun x hx => mustQ_big hp hS x (hmem x hx))]
          simp only [Option.bind_some, Bool.not_not]
          have hfl := List.length_filter_le (fun x => big p (sumG l) x) (sortL l)
          rw [namesOf_ok _ (by omega) k (by omega)]
          simp only [Option.bind_some]
        | succ d ih =>
          intro k i s hi hk hs he
          obtain ⟨k, rfl⟩ : ∃ m, k = m + 1 := ⟨k - 1, by omega⟩
          have hil : i < l.length := by omega
          have er : rd_T26 l (i : Int) = l[i] := by simp [rd_T26, List.getD_eq_getElem?_getD, hil]
          have hx := of_decide_eq_true (h3 _ (List.getElem_mem hil))
          rw [List.drop_eq_getElem_cons hil] at he
          simp only [sumG] at he
          rw [impl_MustName.l0, if_pos (by omega), if_pos (by omega), if_pos (by omega), er, w64 (n := (i : Int) + 1) (by omega) (by omega), w64 (n := s + l[i].f1) (by omega) (by omega)]
          have e2 : (i : Int) + 1 = ((i + 1 : Nat) : Int) := by omega
          rw [e2]
          exact ih k (i + 1) _ (by omega) (by omega) (by omega) (by omega)
      exact key l.length k 0 0 (by omega) (by omega) (by omega) (by rw [List.drop_zero]; omega)
    · rw [decide_eq_false hp, impl_MustName.j0, if_pos (by simp), if_neg (fun hh => hp hh.2)]
  · rw [if_neg h, impl_MustName.j0, if_pos rfl, if_neg (fun hh => h hh.1)]
theorem must_length (l : List S26) (p : Int) : (mustL l p).length ≤ 12 := by
  unfold mustL
  split
  · rename_i h
    have := ok_len h.1
    rw [List.length_map]
    have h2 := List.length_filter_le (big p (sumG l)) (sortL l)
    have h3 : (sortL l).length = l.length := by
      unfold sortL
      rw [sortL_length]
      simp
    omega
  · exact Nat.zero_le _
/-! ### the order of texts -/
theorem bl_total : ∀ (a b : List UInt8), Op.bytesLess a b = true ∨ a = b ∨ Op.bytesLess b a = true
  | [], [] => .inr (.inl rfl)
  | [], _ :: _ => .inl rfl
  | _ :: _, [] => .inr (.inr rfl)
  | x :: a, y :: b => by
    unfold Op.bytesLess
    by_cases h : x < y
    · exact .inl (by simp [h])
    · by_cases h2 : y < x
      · exact .inr (.inr (by simp [h2]))
      · have e : x = y := UInt8.toNat_inj.1 (by
          rw [UInt8.lt_iff_toNat_lt] at h h2
          omega)
        subst e
        rcases bl_total a b with h3 | h3 | h3
        · exact .inl (by simp [h3])
        · exact .inr (.inl (by rw [h3]))
        · exact .inr (.inr (by simp [h3]))
theorem bl_trans : ∀ (a b c : List UInt8), Op.bytesLess a b = true → Op.bytesLess b c = true → Op.bytesLess a c = true
  | _, _, [], _, h2 => by cases ‹List UInt8› <;> simp [Op.bytesLess] at h2
  | [], _, _ :: _, _, _ => rfl
  | _ :: _, [], _ :: _, h1, _ => by simp [Op.bytesLess] at h1
  | x :: a, y :: b, z :: c, h1, h2 => by
    unfold Op.bytesLess at h1 h2 ⊢
    rw [Bool.or_eq_true, Bool.and_eq_true, decide_eq_true_eq, beq_iff_eq] at h1 h2 ⊢
    rcases h1 with h1 | ⟨rfl, h1⟩
    · rcases h2 with h2 | ⟨rfl, _⟩
      · exact .inl (UInt8.lt_trans h1 h2)
      · exact .inl h1
    · rcases h2 with h2 | ⟨rfl, h2⟩
      · exact .inl h2
      · exact .inr ⟨rfl, bl_trans a b c h1 h2⟩
theorem ahead_iff (x y : S26) : ahead x y = true ↔ y.f1 < x.f1 ∨ (y.f1 = x.f1 ∧ Op.bytesLess x.f0.toList y.f0.toList = true) := by
  unfold ahead
  rw [Bool.or_eq_true, Bool.and_eq_true, decide_eq_true_eq, decide_eq_true_eq]
theorem ahead_trans {x y z : S26} (h1 : ahead x y = true) (h2 : ahead y z = true) : ahead x z = true := by
  rw [ahead_iff] at *
  rcases h1 with h1 | ⟨e1, h1⟩
  · rcases h2 with h2 | ⟨e2, _⟩
    · exact .inl (by omega)
    · exact .inl (by omega)
  · rcases h2 with h2 | ⟨e2, h2⟩
    · exact .inl (by omega)
    · exact .inr ⟨by omega, bl_trans _ _ _ h1 h2⟩
theorem ahead_total {x y : S26} (h : x.f0 ≠ y.f0) (h1 : ¬ ahead x y = true) : ahead y x = true := by
  rw [ahead_iff] at *
  have hne : x.f0.toList ≠ y.f0.toList := fun e => h (eq_of_data (by rw [toList_data, toList_data] at e; exact e))
  by_cases e : x.f1 = y.f1
  · rcases bl_total x.f0.toList y.f0.toList with h3 | h3 | h3
    · exact absurd (.inr ⟨e.symm, h3⟩) h1
    · exact absurd h3 hne
    · exact .inr ⟨e, h3⟩
  · exact .inl (by omega)
/-! ### the sorted row -/
theorem insR_perm (x : S26) : ∀ l, (insR x l).Perm (x :: l)
  | [] => List.Perm.refl _
  | y :: l => by
    rw [insR_cons]
    split
    · exact ((insR_perm x l).cons y).trans (List.Perm.swap x y l)
    · exact List.Perm.refl _
theorem insE_perm (x : S26) (l : List S26) : (insE x l).Perm (x :: l) := by
  unfold insE
  exact (List.reverse_perm _).trans ((insR_perm x _).trans ((List.reverse_perm l).cons x))
theorem sortL_perm : ∀ (l S : List S26), (l.foldl (fun s x => insE x s) S).Perm (l ++ S)
  | [], S => List.Perm.refl _
  | x :: l, S => by
    rw [List.foldl_cons, List.cons_append]
    exact (sortL_perm l (insE x S)).trans (((insE_perm x S).append_left l).trans List.perm_middle)
theorem insR_sorted (x : S26) : ∀ (l : List S26), l.Pairwise (fun a b => ahead b a = true) → (∀ y ∈ l, x.f0 ≠ y.f0) → (insR x l).Pairwise (fun a b => ahead b a = true)
  | [], _, _ => by simp [insR]
  | y :: l, h, hx => by
    rw [insR_cons]
    rw [List.pairwise_cons] at h
    by_cases ha : ahead x y = true
    · rw [if_pos ha, List.pairwise_cons]
      refine ⟨fun z hz => ?_, insR_sorted x l h.2 (fun z hz => hx z (List.mem_cons_of_mem _ hz))⟩
      rcases (insR_mem x l z).1 hz with rfl | hz
      · exact ha
      · exact h.1 z hz
    · rw [if_neg ha, List.pairwise_cons, List.pairwise_cons]
      have hyx := ahead_total (hx y List.mem_cons_self) ha
      refine ⟨fun z hz => ?_, h⟩
      rcases List.mem_cons.1 hz with rfl | hz
      · exact hyx
      · exact ahead_trans (h.1 z hz) hyx
theorem insE_sorted (x : S26) (l : List S26) (h : l.Pairwise (fun a b => ahead a b = true)) (hx : ∀ y ∈ l, x.f0 ≠ y.f0) : (insE x l).Pairwise (fun a b => ahead a b = true) := by
  unfold insE
  rw [List.pairwise_reverse]
  exact insR_sorted x _ (List.pairwise_reverse.2 h) (fun y hy => hx y (List.mem_reverse.1 hy))
theorem sortL_sorted : ∀ (l S : List S26), S.Pairwise (fun a b => ahead a b = true) → (l ++ S).Pairwise (fun a b => a.f0 ≠ b.f0) → (l.foldl (fun s x => insE x s) S).Pairwise (fun a b => ahead a b = true)
  | [], S, h, _ => h
  | x :: l, S, h, hd => by
    rw [List.foldl_cons]
    rw [List.cons_append, List.pairwise_cons] at hd
    have hp : (l ++ insE x S).Perm (x :: (l ++ S)) := ((insE_perm x S).append_left l).trans List.perm_middle
    refine sortL_sorted l (insE x S) (insE_sorted x S h (fun y hy => hd.1 y (List.mem_append_right _ hy))) ?_
    refine (hp.pairwise_iff (fun {a b} e => fun e2 => e e2.symm)).2 ?_
    rw [List.pairwise_cons]
    exact hd
/-! ### names, as a row without twins -/
theorem names_iff (l : List ByteArray) : namesB l = true ↔ (∀ x ∈ l, nmB x = true) ∧ l.Pairwise (fun a b => a ≠ b) ∧ 1 ≤ l.length ∧ l.length ≤ 12 := by
  constructor
  · intro h
    refine ⟨names_each h, ?_, ?_⟩
    · rw [List.pairwise_iff_getElem]
      intro i j hi hj hij e
      unfold namesB at h
      rw [Bool.and_eq_true] at h
      have h1 := List.all_eq_true.1 h.1 j (List.mem_range.2 hj)
      unfold okN at h1
      rw [Bool.and_eq_true] at h1
      have h2 : (l.take j).any (fun x => decide ((l.getD j ByteArray.empty).toList = x.toList)) = true := by
        refine List.any_eq_true.2 ⟨l[i], ?_, ?_⟩
        · exact List.mem_iff_getElem.2 ⟨i, by rw [List.length_take]; omega, by rw [List.getElem_take]⟩
        · have eg : l.getD j ByteArray.empty = l[j] := by simp [List.getD_eq_getElem?_getD, hj]
          exact decide_eq_true (by rw [eg, e])
      rw [h2] at h1
      exact absurd h1.2 (by simp)
    · unfold namesB at h
      rw [Bool.and_eq_true, decide_eq_true_eq] at h
      omega
  · rintro ⟨h1, h2, h3, h4⟩
    unfold namesB
    rw [Bool.and_eq_true, decide_eq_true_eq]
    refine ⟨List.all_eq_true.2 (fun i hi => ?_), by omega⟩
    have hi := List.mem_range.1 hi
    have eg : l.getD i ByteArray.empty = l[i] := by simp [List.getD_eq_getElem?_getD, hi]
    unfold okN
    rw [eg, h1 _ (List.getElem_mem hi), Bool.true_and, Bool.not_eq_true']
    apply Bool.eq_false_iff.2
    intro hany
    obtain ⟨x, hx, he⟩ := List.any_eq_true.1 hany
    obtain ⟨j, hj, rfl⟩ := List.mem_iff_getElem.1 hx
    rw [List.length_take] at hj
    rw [List.getElem_take] at he
    have he2 := of_decide_eq_true he
    rw [toList_data, toList_data] at he2
    exact (List.pairwise_iff_getElem.1 h2) j i (by omega) hi (by omega) (eq_of_data he2).symm
theorem parts_names {l : List S26} (h : partsOk l = true) : namesB (l.map S26.f0) = true := by
  unfold partsOk at h
  rw [Bool.and_eq_true] at h
  exact h.1
theorem sort_perm (l : List S26) : (sortL l).Perm l := by
  have := sortL_perm l []
  rwa [List.append_nil] at this
theorem sort_names {l : List S26} (h : partsOk l = true) : namesB ((sortL l).map S26.f0) = true := by
  have h1 := (names_iff _).1 (parts_names h)
  have hp : ((sortL l).map S26.f0).Perm (l.map S26.f0) := (sort_perm l).map _
  rw [names_iff]
  refine ⟨fun x hx => h1.1 x (hp.mem_iff.1 hx), (hp.pairwise_iff (fun {a b} e => e.symm)).2 h1.2.1, ?_⟩
  rw [hp.length_eq]
  exact h1.2.2
theorem sort_sorted {l : List S26} (h : partsOk l = true) : (sortL l).Pairwise (fun a b => ahead a b = true) := by
  have h1 := (names_iff _).1 (parts_names h)
  refine sortL_sorted l [] List.Pairwise.nil ?_
  rw [List.append_nil]
  exact List.pairwise_map.1 h1.2.1
/-! ### a label's pieces -/
theorem nm_no (x : ByteArray) (h : nmB x = true) : ∀ c ∈ x.data.toList, c ≠ 44 := by
  intro c hc e
  obtain ⟨i, hi, rfl⟩ := List.mem_iff_getElem.1 hc
  unfold nmB at h
  rw [Bool.and_eq_true] at h
  have h1 := of_decide_eq_true (List.all_eq_true.1 h.1 i (List.mem_range.2 hi))
  rw [bt_list x i hi, e] at h1
  exact absurd h1.1 (by decide)
theorem cut_app : ∀ (p : List UInt8) (cur r : List UInt8), (∀ c ∈ p, c ≠ 44) → cutL cur (p ++ r) = cutL (cur ++ p) r
  | [], cur, r, _ => by rw [List.nil_append, List.append_nil]
  | c :: p, cur, r, h => by
    rw [List.cons_append, cutL_cons cur c (p ++ r) (fun hh => h c List.mem_cons_self hh.1), cut_app p (cur ++ [c]) r (fun d hd => h d (List.mem_cons_of_mem _ hd)), List.append_assoc]
    rfl
theorem cut_tail : ∀ (r : List (List UInt8)) (cur : List UInt8), (∀ p ∈ r, ∀ c ∈ p, c ≠ 44) → cutL cur (Lib.joinTail sepL r) = cur :: r
  | [], cur, _ => by
    rw [show Lib.joinTail sepL [] = [] from rfl, cutL]
  | p :: r, cur, h => by
    have e : Lib.joinTail sepL (p :: r) = 44 :: 32 :: (p ++ Lib.joinTail sepL r) := by
      unfold Lib.joinTail
      rw [List.map_cons, List.flatten_cons]
      simp [sepL]
    rw [e, cutL_sep, cut_app p [] _ (h p List.mem_cons_self), List.nil_append, cut_tail r p (fun q hq => h q (List.mem_cons_of_mem _ hq))]
theorem cut_join (ps : List (List UInt8)) (h : ∀ p ∈ ps, ∀ c ∈ p, c ≠ 44) (hne : ps ≠ []) : cutL [] (Lib.join ps sepL) = ps := by
  cases ps with
  | nil => exact absurd rfl hne
  | cons p r => rw [Lib.join_cons, cut_app p [] _ (h p List.mem_cons_self), List.nil_append, cut_tail r p (fun q hq => h q (List.mem_cons_of_mem _ hq))]
theorem pieces_join (N : List ByteArray) (hne : N ≠ []) (h : ∀ x ∈ N, ∀ c ∈ x.data.toList, c ≠ 44) : pieces (joinB N sepB) = N := by
  unfold pieces joinB
  have e : cutL [] (Lib.join (N.map (·.data.toList)) sepB.data.toList) = N.map (·.data.toList) := cut_join _ (fun p hp => by
    obtain ⟨x, hx, rfl⟩ := List.mem_map.1 hp
    exact h x hx) (fun e => hne (List.map_eq_nil_iff.1 e))
  show (cutL [] (Lib.join (N.map (·.data.toList)) sepB.data.toList)).map mkB = N
  rw [e, List.map_map]
  exact List.map_id'' (fun x => mk_data x) _
theorem join_more (N : List ByteArray) (hne : N ≠ []) (x : ByteArray) : (joinB N sepB ++ (⟨#[44, 32]⟩ : ByteArray)) ++ x = joinB (N ++ [x]) sepB := by
  apply eq_of_data
  rw [ByteArray.data_append, Array.toList_append, ByteArray.data_append, Array.toList_append]
  show Lib.join (N.map (·.data.toList)) sepB.data.toList ++ sepL ++ x.data.toList = Lib.join ((N ++ [x]).map (·.data.toList)) sepB.data.toList
  rw [List.map_append, List.map_cons, List.map_nil, join_snoc _ _ _ (fun e => hne (List.map_eq_nil_iff.1 e)), List.append_assoc]
  rfl
/-! ### what stands ahead in a sorted row -/
theorem filter_take {α : Type} (q : α → Bool) : ∀ (S : List α), S.Pairwise (fun a b => q b = true → q a = true) → S.filter q = S.take (S.filter q).length ∧ ∀ (k : Nat) (h : k < S.length), q S[k] = decide (k < (S.filter q).length)
  | [], _ => ⟨rfl, fun k h => absurd h (by simp)⟩
  | x :: S, h => by
    rw [List.pairwise_cons] at h
    obtain ⟨ih1, ih2⟩ := filter_take q S h.2
    by_cases hx : q x = true
    · rw [List.filter_cons_of_pos hx]
      refine ⟨by rw [List.length_cons, List.take_succ_cons, ← ih1], fun k hk => ?_⟩
      cases k with
      | zero => rw [List.getElem_cons_zero, hx]; simp
      | succ k =>
        rw [List.getElem_cons_succ, ih2 k (by simpa using hk), List.length_cons]
        exact decide_eq_decide.2 ⟨fun h => by omega, fun h => by omega⟩
    · have hn : S.filter q = [] := by
        rw [List.filter_eq_nil_iff]
        intro y hy hqy
        exact hx (h.1 y hy hqy)
      rw [List.filter_cons_of_neg hx, hn]
      refine ⟨by simp, fun k hk => ?_⟩
      rw [decide_eq_false (by simp)]
      apply Bool.eq_false_iff.2
      intro hq
      cases k with
      | zero => exact hx hq
      | succ k => exact hx (h.1 _ (List.getElem_mem (by simpa using hk)) hq)
theorem and255 (x : Int) : 0 ≤ Go.bits .and .i64 x 255 ∧ Go.bits .and .i64 x 255 ≤ 255 := by
  have h2 : ((BitVec.ofInt 64 255).toNat : Nat) = 255 := rfl
  have h1 : ∀ a : Nat, a &&& 255 ≤ 255 := fun a => Nat.and_le_right
  have h3 := h1 (BitVec.ofInt 64 x).toNat
  have : Go.bits .and .i64 x 255 = (((BitVec.ofInt 64 x).toNat &&& 255 : Nat) : Int) := by
    have h5 : (BitVec.ofInt 64 x &&& BitVec.ofInt 64 255).toNat = (BitVec.ofInt 64 x).toNat &&& 255 := by rw [BitVec.toNat_and, h2]
    show Go.IntKind.i64.wrap ((BitVec.ofInt 64 x &&& BitVec.ofInt 64 255).toNat : Int) = _
    rw [h5, Go.IntKind.wrap_i64]
    omega
  rw [this]
  omega
theorem byte_ok (l : List Int) (i h : Int) (hi : 0 ≤ i) (hl : l.length ≤ 9223372036854775807) : ∃ x i' h', spec_l01Byte.f l i h = some (x, i', h') ∧ 0 ≤ x ∧ x ≤ 255 ∧ 0 ≤ i' := by
  unfold spec_l01Byte.f
  by_cases h1 : i < (l.length : Int)
  · rw [if_pos h1, if_pos hi]
    refine ⟨_, _, _, rfl, (and255 _).1, (and255 _).2, ?_⟩
    rw [w64 (by omega) (by omega)]
    omega
  · rw [if_neg h1]
    exact ⟨_, _, _, rfl, (and255 _).1, (and255 _).2, hi⟩
theorem below_ok (l : List Int) (i h n : Int) (hi : 0 ≤ i) (hl : l.length ≤ 9223372036854775807) : ∃ x i' h', spec_l01Below.f l i h n = some (x, i', h') ∧ 0 ≤ x ∧ (0 < n → x < n) ∧ (n ≤ 0 → x = 0) ∧ 0 ≤ i' := by
  unfold spec_l01Below.f
  by_cases h1 : n ≤ 0
  · rw [if_pos h1]
    exact ⟨_, _, _, rfl, Int.le_refl _, fun h => by omega, fun _ => rfl, hi⟩
  · rw [if_neg h1]
    have hn : n ≠ 0 := by omega
    by_cases h2 : n ≤ 256
    · rw [if_pos h2]
      obtain ⟨x, i1, g1, e1, a1, b1, c1⟩ := byte_ok l i h hi hl
      rw [e1]
      simp only [Option.bind_some]
      rw [if_neg hn]
      refine ⟨_, _, _, rfl, Int.tmod_nonneg _ a1, fun h => ?_, fun h => by omega, c1⟩
      exact Int.tmod_lt_of_pos _ h
    · rw [if_neg h2]
      obtain ⟨x1, i1, g1, e1, a1, b1, c1⟩ := byte_ok l i h hi hl
      rw [e1]
      simp only [Option.bind_some]
      obtain ⟨x2, i2, g2, e2, a2, b2, c2⟩ := byte_ok l i1 g1 c1 hl
      rw [e2]
      simp only [Option.bind_some]
      obtain ⟨x3, i3, g3, e3, a3, b3, c3⟩ := byte_ok l i2 g2 c2 hl
      rw [e3]
      simp only [Option.bind_some]
      obtain ⟨x4, i4, g4, e4, a4, b4, c4⟩ := byte_ok l i3 g3 c3 hl
      rw [e4]
      simp only [Option.bind_some]
      rw [if_neg hn]
      refine ⟨_, _, _, rfl, Int.tmod_nonneg _ ?_, fun h => Int.tmod_lt_of_pos _ h, fun h => by omega, c4⟩
      unfold wrap64
      omega
theorem new_ok (l : List Int) (k : Nat) (hk : l.length < k) (hl : l.length ≤ 9223372036854775807) : ∃ h, spec_l01New.f k l = some (l, 0, h) := by
  have key : ∀ (d k : Nat) (h : Int) (i : Nat), i ≤ l.length → l.length - i = d → d < k → ∃ h', spec_l01New.l0 k l h i = some (l, 0, h') := by
    intro d
    induction d with
    | zero =>
      intro k h i hi hd hk
      obtain ⟨k, rfl⟩ : ∃ m, k = m + 1 := ⟨k - 1, by omega⟩
      simp only [spec_l01New.l0]
      rw [if_neg (by omega)]
      exact ⟨_, rfl⟩
    | succ d ih =>
      intro k h i hi hd hk
      obtain ⟨k, rfl⟩ : ∃ m, k = m + 1 := ⟨k - 1, by omega⟩
      simp only [spec_l01New.l0]
      rw [if_pos (by omega)]
      by_cases h4 : (i : Int) < 4000
      · rw [if_pos h4, if_pos (by omega), w64s (n := l.length) (by omega) (by omega) hl]
        exact ih k _ (i + 1) (by omega) (by omega) (by omega)
      · rw [if_neg h4]
        exact ⟨_, rfl⟩
  exact key l.length k _ 0 (by omega) (by omega) hk
theorem at_ok (l : List Int) (i : Int) (hi : 0 ≤ i) (hi2 : i ≤ 1000) (hl : l.length ≤ 9223372036854775807) (hw : ∀ x ∈ l, (Lit.int .u8 x).wf = true) : ∃ v, laws_at.f l i = some v ∧ 0 ≤ v ∧ v ≤ 255 := by
  unfold laws_at.f
  by_cases h : (l.length : Int) = 0
  · rw [if_pos h]
    exact ⟨0, rfl, by omega, by omega⟩
  · rw [if_neg h]
    have e : wrap64 (wrap64 (i * 5) + 1) = i * 5 + 1 := by unfold wrap64; omega
    rw [e]
    have h1 : 0 ≤ Int.tmod (i * 5 + 1) (l.length : Int) := Int.tmod_nonneg _ (by omega)
    have h2 : Int.tmod (i * 5 + 1) (l.length : Int) < (l.length : Int) := Int.tmod_lt_of_pos _ (by omega)
    rw [if_pos h1, if_pos h2]
    generalize Int.tmod (i * 5 + 1) (l.length : Int) = j at h1 h2
    have hj : j.toNat < l.length := by omega
    have hr : rd l j = l[j.toNat] := by simp [rd, List.getD_eq_getElem?_getD, hj]
    have hb := hw _ (List.getElem_mem hj)
    simp only [Lit.wf, IntKind.min, IntKind.max, IntKind.signed, IntKind.bits, Bool.and_eq_true, decide_eq_true_eq] at hb
    rw [hr]
    generalize l[j.toNat] = v at hb
    refine ⟨_, rfl, ?_, ?_⟩ <;> (rw [w64 (by simp at hb; omega) (by simp at hb; omega)]; simp at hb; omega)
theorem big_eq (l : List Int) : laws_big.f l = some (decide ((l.length : Int) > 1048576)) := rfl
/-! ### what is drawn -/
def names8 : List ByteArray := [(⟨#[102, 108, 111, 117, 114]⟩ : ByteArray), (⟨#[119, 97, 116, 101, 114]⟩ : ByteArray), (⟨#[115, 97, 108, 116]⟩ : ByteArray), (⟨#[121, 101, 97, 115, 116]⟩ : ByteArray), (⟨#[111, 105, 108]⟩ : ByteArray), (⟨#[114, 121, 101]⟩ : ByteArray), (⟨#[115, 101, 101, 100, 115]⟩ : ByteArray), (⟨#[109, 105, 108, 107]⟩ : ByteArray)]
theorem names8_ok : ∀ x ∈ names8, nmB x = true := by
  intro x hx
  unfold names8 at hx
  simp only [List.mem_cons, List.not_mem_nil, or_false] at hx
  rcases hx with rfl | rfl | rfl | rfl | rfl | rfl | rfl | rfl <;> decide +kernel
/-- A row of parts with names that differ. -/
def good (L : List S26) : Prop := (∀ x ∈ L, nmB x.f0 = true ∧ 1 ≤ x.f1 ∧ x.f1 ≤ 100000) ∧ L.Pairwise (fun a b => a.f0 ≠ b.f0)
theorem good_snoc {L : List S26} {x : S26} (h : good L) (hx : nmB x.f0 = true ∧ 1 ≤ x.f1 ∧ x.f1 ≤ 100000) (hn : ∀ y ∈ L, y.f0 ≠ x.f0) : good (L ++ [x]) := by
  refine ⟨fun y hy => ?_, ?_⟩
  · rcases List.mem_append.1 hy with hy | hy
    · exact h.1 y hy
    · rw [List.mem_singleton.1 hy]
      exact hx
  · rw [List.pairwise_append]
    exact ⟨h.2, by simp, fun y hy z hz => by
      rw [List.mem_singleton.1 hz]
      exact hn y hy⟩
theorem good_ok {L : List S26} (h : good L) (h1 : 1 ≤ L.length) (h2 : L.length ≤ 12) : partsOk L = true := by
  unfold partsOk
  rw [Bool.and_eq_true]
  refine ⟨(names_iff _).2 ⟨fun x hx => ?_, List.pairwise_map.2 h.2, by rw [List.length_map]; omega, by rw [List.length_map]; omega⟩, List.all_eq_true.2 (fun x hx => ?_)⟩
  · obtain ⟨y, hy, rfl⟩ := List.mem_map.1 hx
    exact (h.1 y hy).1
  · exact decide_eq_true (h.1 x hx).2
theorem find_loop (L : List S26) (hL : L.length ≤ 12) (n x5 : Int) (s : List Int) (p q : Int) (nm : ByteArray) (gr : Int) : ∀ (d i k : Nat) (b : Bool), i + d = L.length → d < k →
    ∃ k', k ≤ k' + d + 1 ∧ spec_l28List.l1 k L n x5 b (i : Int) s p q nm gr = if (b || (L.drop i).any (fun y => y.f0.toList == nm.toList)) = true then spec_l28List.l0 k' L n (wrap64 (x5 + 1)) s p q else spec_l28List.l0 k' (L ++ [(⟨nm, gr⟩ : S26)]) n (wrap64 (x5 + 1)) s p q := by
  intro d
  induction d with
  | zero =>
    intro i k b hi hk
    obtain ⟨k, rfl⟩ : ∃ m, k = m + 1 := ⟨k - 1, by omega⟩
    refine ⟨k, by omega, ?_⟩
    have e : L.drop i = [] := List.drop_eq_nil_iff.2 (by omega)
    rw [spec_l28List.l1, if_neg (by omega), e]
    cases b with
    | true => rfl
    | false =>
      rw [if_neg (by simp), if_pos (by omega)]
      rfl
  | succ d ih =>
    intro i k b hi hk
    obtain ⟨k, rfl⟩ : ∃ m, k = m + 1 := ⟨k - 1, by omega⟩
    have hil : i < L.length := by omega
    have er : rd_T26 L (i : Int) = L[i] := by simp [rd_T26, List.getD_eq_getElem?_getD, hil]
    have e1 : wrap64 ((i : Int) + 1) = ((i + 1 : Nat) : Int) := by
      rw [w64 (n := (i : Int) + 1) (by omega) (by omega)]
      omega
    rw [spec_l28List.l1, if_pos (by omega), List.drop_eq_getElem_cons hil, List.any_cons]
    cases b with
    | true =>
      rw [if_pos rfl, e1]
      clear e1
      obtain ⟨k', h1, h2⟩ := ih (i + 1) k true (by omega) (by omega)
      refine ⟨k', by omega, ?_⟩
      rw [h2]
      simp
    | false =>
      rw [if_neg (by simp), if_pos (by omega), er, e1]
      clear e1
      obtain ⟨k', h1, h2⟩ := ih (i + 1) k (L[i].f0.toList == nm.toList) (by omega) (by omega)
      refine ⟨k', by omega, ?_⟩
      rw [h2, Bool.false_or]
theorem draw_loop (s : List Int) (hs : s.length ≤ 1000000000) (n : Nat) (hn : n ≤ 6) : ∀ (d i k : Nat) (L : List S26) (p q : Int), i + d = n → 20 * d + 1 < k → 0 ≤ p → L.length ≤ i → (0 < i → 1 ≤ L.length) → good L →
    ∃ L' p' q', spec_l28List.l0 k L (n : Int) (i : Int) s p q = some (L', p', q') ∧ good L' ∧ L'.length ≤ n ∧ (0 < n → 1 ≤ L'.length) := by
  intro d
  induction d with
  | zero =>
    intro i k L p q hi hk hp hl h1 hg
    obtain ⟨k, rfl⟩ : ∃ m, k = m + 1 := ⟨k - 1, by omega⟩
    rw [spec_l28List.l0, if_neg (by omega)]
    exact ⟨L, p, q, rfl, hg, by omega, fun h => h1 (by omega)⟩
  | succ d ih =>
    intro i k L p q hi hk hp hl h1 hg
    obtain ⟨k, rfl⟩ : ∃ m, k = m + 1 := ⟨k - 1, by omega⟩
    obtain ⟨u, p1, q1, e1, a1, b1, _, d1⟩ := below_ok s p q 2 hp (by omega)
    obtain ⟨v, p2, q2, e2, a2, b2, _, d2⟩ := below_ok s p1 q1 60 d1 (by omega)
    have hu := b1 (by omega)
    have hv := b2 (by omega)
    clear b1 b2
    rw [spec_l28List.l0, if_pos (by omega)]
    simp only [Option.bind_some]
    rw [e1]
    simp only [Option.bind_some]
    rw [e2]
    simp only [Option.bind_some]
    rw [w64 (n := u * 3) (by omega) (by omega), w64 (n := (i : Int) + u * 3) (by omega) (by omega), w64 (n := 10 * v) (by omega) (by omega), w64 (n := 1 + 10 * v) (by omega) (by omega)]
    obtain ⟨j, hj, hj8⟩ : ∃ j : Nat, Int.tmod ((i : Int) + u * 3) 8 = (j : Int) ∧ j < 8 := by
      refine ⟨(Int.tmod ((i : Int) + u * 3) 8).toNat, ?_, ?_⟩
      · rw [Int.tmod_eq_emod_of_nonneg (by omega)]
        omega
      · rw [Int.tmod_eq_emod_of_nonneg (by omega)]
        omega
    rw [hj]
    have e8 : ([(⟨#[102, 108, 111, 117, 114]⟩ : ByteArray), (⟨#[119, 97, 116, 101, 114]⟩ : ByteArray), (⟨#[115, 97, 108, 116]⟩ : ByteArray), (⟨#[121, 101, 97, 115, 116]⟩ : ByteArray), (⟨#[111, 105, 108]⟩ : ByteArray), (⟨#[114, 121, 101]⟩ : ByteArray), (⟨#[115, 101, 101, 100, 115]⟩ : ByteArray), (⟨#[109, 105, 108, 107]⟩ : ByteArray)] : List ByteArray) = names8 := rfl
    have el : names8.length = 8 := rfl
    rw [e8, if_pos (by omega), if_pos (by rw [el]; omega)]
    have er : rdOf ByteArray.empty names8 (j : Int) = names8[j]'(by rw [el]; exact hj8) := by
      have : j < names8.length := by rw [el]; exact hj8
      simp [rdOf, List.getD_eq_getElem?_getD, this]
    rw [er]
    have hok : nmB (names8[j]'(by rw [el]; exact hj8)) = true := names8_ok _ (List.getElem_mem _)
    generalize names8[j]'(by rw [el]; exact hj8) = nm at hok ⊢
    obtain ⟨k', h3, h4⟩ := find_loop L (by omega) (n : Int) (i : Int) s p2 q2 nm (1 + 10 * v) L.length 0 k false (by omega) (by omega)
    have e0 : ((0 : Nat) : Int) = 0 := rfl
    rw [e0, List.drop_zero, Bool.false_or] at h4
    have ei : wrap64 ((i : Int) + 1) = ((i + 1 : Nat) : Int) := by
      rw [w64 (n := (i : Int) + 1) (by omega) (by omega)]
      omega
    rw [ei] at h4
    clear ei
    have e5 : spec_l28List.l1 k L (n : Int) (i : Int) false 0 s p2 q2 nm (1 + 10 * v) = _ := h4
    first | rw [h4] | (refine (congrArg (fun z => ∃ L' p' q', z = some (L', p', q') ∧ good L' ∧ L'.length ≤ n ∧ (0 < n → 1 ≤ L'.length)) h4).mpr ?_)
    by_cases hf : (L.any (fun y => y.f0.toList == nm.toList)) = true
    · rw [if_pos hf]
      have h1L : 1 ≤ L.length := by
        cases L with
        | nil => simp at hf
        | cons y L => simp
      exact ih (i + 1) k' L p2 q2 (by omega) (by omega) d2 (by omega) (fun _ => h1L) hg
    · rw [if_neg hf]
      refine ih (i + 1) k' (L ++ [(⟨nm, 1 + 10 * v⟩ : S26)]) p2 q2 (by omega) (by omega) d2 (by rw [List.length_append, List.length_singleton]; omega) (fun _ => by rw [List.length_append, List.length_singleton]; omega) (good_snoc hg ⟨hok, by show 1 ≤ 1 + 10 * v; omega, by show 1 + 10 * v ≤ 100000; omega⟩ (fun y hy e => hf ?_))
      exact List.any_eq_true.2 ⟨y, hy, by rw [show y.f0 = nm from e]; exact beq_self_eq_true _⟩
theorem draw_parts (l : List Int) (hl : l.length ≤ 1000000000) (k : Nat) (hk : l.length + 200 < k) : ∃ L, spec_DrawParts.f k l = some L ∧ partsOk L = true ∧ L.length ≤ 6 := by
  unfold spec_DrawParts.f
  obtain ⟨h, e⟩ := new_ok l k (by omega) (by omega)
  rw [e]
  simp only [Option.bind_some]
  unfold spec_l28List.f
  obtain ⟨x, p, q, e1, a1, b1, _, d1⟩ := below_ok l 0 h 6 (by omega) (by omega)
  have hx := b1 (by omega)
  clear b1
  rw [e1]
  simp only [Option.bind_some]
  obtain ⟨n, hn⟩ : ∃ n : Nat, 1 + x = (n : Int) := ⟨(1 + x).toNat, by omega⟩
  rw [w64 (n := 1 + x) (by omega) (by omega), hn]
  obtain ⟨L, p', q', h1, h2, h3, h4⟩ := draw_loop l hl n (by omega) n 0 k [] p q (by omega) (by omega) d1 (Nat.le_refl _) (fun h => absurd h (by omega)) ⟨fun x hx => by simp at hx, List.Pairwise.nil⟩
  have e0 : ((0 : Nat) : Int) = 0 := rfl
  rw [e0] at h1
  rw [h1]
  exact ⟨L, rfl, good_ok h2 (h4 (by omega)) (by omega), by omega⟩
theorem str_one (m : Nat) (h : m < 256) : (strOfNums [(m : Int)]).data.toList = [UInt8.ofNat m] := by
  show [UInt8.ofNat (m : Int).toNat] = _
  rw [Int.toNat_natCast]
theorem str_size (m : Nat) (h : m < 256) : (strOfNums [(m : Int)]).size = 1 := rfl
theorem digits_len : ∀ (b n : Nat), n ≤ b → (Lib.decDigits n).length ≤ n + 1 := by
  intro b
  induction b with
  | zero =>
    intro n h
    rw [Lib.decDigits, dif_pos (by omega)]
    simp
  | succ b ih =>
    intro n h
    rw [Lib.decDigits]
    split
    · simp
    · have := ih (n / 10) (by omega)
      rw [List.length_append, List.length_singleton]
      omega
theorem fmt_impl (n : Nat) (hn : n ≤ 1000) : ∃ r, impl_FormatInt.f (n : Int) = some r ∧ r.data.toList = Lib.itoa (n : Int) ∧ r.size ≤ 1001 := by
  unfold impl_FormatInt.f strconv_Itoa_45.f
  rw [if_pos (by omega), if_pos (by omega)]
  refine ⟨_, rfl, rfl, ?_⟩
  have : (Lib.itoa (n : Int)).length ≤ n + 1 := by
    rw [Lib.itoa, if_neg (by omega), Int.toNat_natCast]
    exact digits_len n n (Nat.le_refl _)
  show (Lib.itoa (n : Int)).toArray.size ≤ 1001
  rw [List.size_toArray]
  omega
theorem amB_bd {x : S26} (h : amB x = true) : 1 ≤ x.f1 ∧ x.f1 ≤ 100000 := of_decide_eq_true h
theorem loop0 (code : List Int) (L S : List S26) (t : ByteArray) (N : List ByteArray) (hSL : S.length = L.length) (hL : L.length ≤ 12) (hN : N = S.map S26.f0)
    (hS : S.Pairwise (fun a b => ahead a b = true)) (ha : ∀ y ∈ L, amB y = true) : ∀ (d i k : Nat), i + d = L.length →
    laws_FnLabels.l0 (k + d) code L S t N (sumG (L.take i)) (i : Int) = laws_FnLabels.l0 k code L S t N (sumG L) (L.length : Int) := by
  intro d
  induction d with
  | zero =>
    intro i k hi
    have : i = L.length := by omega
    subst this
    rw [List.take_length]
    rfl
  | succ d ih =>
    intro i k hi
    have hil : i < L.length := by omega
    have hiS : i < S.length := by omega
    have hNl : N.length = S.length := by rw [hN, List.length_map]
    have erN : rdOf ByteArray.empty N (i : Int) = S[i].f0 := by
      subst hN
      simp [rdOf, List.getD_eq_getElem?_getD, hiS]
    have erS : rd_T26 S (i : Int) = S[i] := by simp [rd_T26, List.getD_eq_getElem?_getD, hiS]
    have erL : rd_T26 L (i : Int) = L[i] := by simp [rd_T26, List.getD_eq_getElem?_getD, hil]
    have et : L.take (i + 1) = L.take i ++ [L[i]] := List.take_succ_eq_append_getElem hil
    have esum : sumG (L.take (i + 1)) = sumG (L.take i) + L[i].f1 := by
      rw [et, sumG_append]
      simp [sumG]
    have hb := sumG_bd (L.take i) (fun y hy => ha y (List.mem_of_mem_take hy))
    rw [List.length_take] at hb
    have hai := amB_bd (ha _ (List.getElem_mem hil))
    have hnext : laws_FnLabels.l0 (k + d) code L S t N (wrap64 (sumG (L.take i) + L[i].f1)) (wrap64 ((i : Int) + 1)) = laws_FnLabels.l0 k code L S t N (sumG L) (L.length : Int) := by
      rw [w64 (n := sumG (L.take i) + L[i].f1) (by omega) (by omega), w64 (n := (i : Int) + 1) (by omega) (by omega), ← esum, show (i : Int) + 1 = ((i + 1 : Nat) : Int) by omega]
      exact ih (i + 1) k (by omega)
    rw [show k + (d + 1) = (k + d) + 1 by omega, laws_FnLabels.l0, if_pos (by omega), if_pos (by omega), if_pos (by omega), if_pos (by omega), erN, erS, erL, if_pos rfl]
    by_cases h0 : i = 0
    · rw [if_neg (by omega)]
      exact hnext
    · have hpj : i - 1 < S.length := by omega
      have erP : rd_T26 S ((i : Int) - 1) = S[i - 1] := by
        rw [show (i : Int) - 1 = ((i - 1 : Nat) : Int) by omega]
        simp [rd_T26, List.getD_eq_getElem?_getD, hpj]
      have hah := (List.pairwise_iff_getElem.1 hS) (i - 1) i hpj hiS (by omega)
      rw [ahead_iff] at hah
      rw [if_pos (by omega), w64 (n := (i : Int) - 1) (by omega) (by omega), if_pos (by omega), if_pos (by omega), erP]
      rcases hah with h | ⟨h, h2⟩
      · rw [if_neg (by omega), if_neg (by omega)]
        exact hnext
      · rw [if_neg (by omega), if_pos h, if_pos h2]
        exact hnext
theorem loop1 (L S : List S26) (t : ByteArray) (N m : List ByteArray) (sum p : Int) (hp : 0 ≤ p ∧ p ≤ 100) (hs : 0 ≤ sum ∧ sum ≤ 1200000) (hS : S.length ≤ 12) (ha : ∀ y ∈ S, amB y = true)
    (hm1 : ∀ (i : Nat) (h : i < S.length), big p sum S[i] = decide (i < m.length)) (hm2 : ∀ (i : Nat) (h : i < S.length), i < m.length → rdOf ByteArray.empty m (i : Int) = S[i].f0) : ∀ (d i k : Nat), i + d = S.length →
    laws_FnLabels.l1 (k + d) L S t N sum p m (i : Int) = laws_FnLabels.l1 k L S t N sum p m (S.length : Int) := by
  intro d
  induction d with
  | zero =>
    intro i k hi
    have : i = S.length := by omega
    subst this
    rfl
  | succ d ih =>
    intro i k hi
    have hiS : i < S.length := by omega
    have erS : rd_T26 S (i : Int) = S[i] := by simp [rd_T26, List.getD_eq_getElem?_getD, hiS]
    have hai := amB_bd (ha _ (List.getElem_mem hiS))
    have hpb := prod_bd hp hs
    have hnext : laws_FnLabels.l1 (k + d) L S t N sum p m (wrap64 ((i : Int) + 1)) = laws_FnLabels.l1 k L S t N sum p m (S.length : Int) := by
      rw [w64 (n := (i : Int) + 1) (by omega) (by omega), show (i : Int) + 1 = ((i + 1 : Nat) : Int) by omega]
      exact ih (i + 1) k (by omega)
    have h1 := hm1 i hiS
    unfold big at h1
    have hq : ((decide ((i : Int) < (m.length : Int))) != (decide ((wrap64 (100 * S[i].f1)) ≥ (wrap64 (p * sum))))) = false := by
      rw [w64 (n := 100 * S[i].f1) (by omega) (by omega), w64 (n := p * sum) (by omega) (by omega)]
      have e1 : decide ((i : Int) < (m.length : Int)) = decide (i < m.length) := decide_eq_decide.2 ⟨fun h => by omega, fun h => by omega⟩
      have e2 : decide (100 * S[i].f1 ≥ p * sum) = decide (p * sum ≤ S[i].f1 * 100) := decide_eq_decide.2 ⟨fun h => by omega, fun h => by omega⟩
      rw [e1, e2, h1]
      cases decide (i < m.length) <;> rfl
    rw [show k + (d + 1) = (k + d) + 1 by omega, laws_FnLabels.l1, if_pos (by omega), if_pos (by omega), erS, hq, if_neg (by simp)]
    by_cases hi2 : i < m.length
    · rw [if_pos (by omega), hm2 i hiS hi2, if_pos rfl]
      exact hnext
    · rw [if_neg (by omega)]
      exact hnext
theorem percent_rye (k : Nat) (hk : 100 < k) : ∃ r, impl_PercentText.f k (⟨#[114, 121, 101]⟩ : ByteArray) 1 3 = some r ∧ r.toList = [114, 121, 101, 32, 51, 51, 37] := by
  have e2 := parts_impl [(⟨(⟨#[114, 121, 101]⟩ : ByteArray), 1⟩ : S26)] (by simp) 3 (fun y hy => by
    rw [List.mem_singleton] at hy
    subst hy
    exact Nat.le_refl 3) (by omega) k (by rw [List.length_singleton]; omega)
  have hp : partsOk [(⟨(⟨#[114, 121, 101]⟩ : ByteArray), 1⟩ : S26)] = true := by decide +kernel
  obtain ⟨r2, h2, d2, z2⟩ := fmt_impl 33 (by omega)
  have hd : Int.tdiv 100 3 = ((33 : Nat) : Int) := by decide
  have ez : (⟨#[32]⟩ : ByteArray).size = 1 := rfl
  have ex : (⟨#[114, 121, 101]⟩ : ByteArray).size = 3 := rfl
  refine ⟨(((⟨#[114, 121, 101]⟩ : ByteArray) ++ (⟨#[32]⟩ : ByteArray)) ++ r2) ++ (⟨#[37]⟩ : ByteArray), ?_, ?_⟩
  · unfold impl_PercentText.f
    rw [e2]
    simp only [Option.bind_some, in_impl]
    rw [if_pos hp, decide_eq_true (by omega), if_pos rfl, if_pos (by rw [ex]; omega), if_neg (by omega), w64 (n := (1 : Int) * 100) (by omega) (by omega), show (1 : Int) * 100 = 100 from rfl, hd, w64 (n := ((33 : Nat) : Int)) (by omega) (by omega), h2]
    simp only [Option.bind_some]
    rw [if_pos (by rw [ByteArray.size_append, ez, ex]; omega), if_pos (by rw [ByteArray.size_append, ByteArray.size_append, ez, ex]; omega)]
  · rw [toList_data, ByteArray.data_append, Array.toList_append, ByteArray.data_append, Array.toList_append, d2]
    have : Lib.itoa ((33 : Nat) : Int) = [51, 51] := by
      rw [Lib.itoa, if_neg (by omega), Int.toNat_natCast, Lib.decDigits, dif_neg (by omega), Lib.decDigits, dif_pos (by omega)]
      rfl
    rw [this]
    rfl


end Go.Proofs.YtjabgjlkemfofaaDoor.Lem
