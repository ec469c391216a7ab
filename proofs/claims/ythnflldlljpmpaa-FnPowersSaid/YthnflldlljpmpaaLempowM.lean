/- Plain lemmas on the printed functions: what they compute; conditions stand in each lemma. -/
import Derived.Test.YthnflldlljpmpaaQx0
import Derived.Test.YthnflldlljpmpaaQx1
import Derived.Test.YthnflldlljpmpaaQx2
import Derived.Test.YthnflldlljpmpaaQx3
import Derived.Test.YthnflldlljpmpaaQx4
import Derived.Test.YthnflldlljpmpaaQx5
import Derived.Test.YthnflldlljpmpaaQx7
import Derived.Test.YthnflldlljpmpaaQx9
import Derived.Test.YthnflldlljpmpaaQx10
import Derived.Test.YthnflldlljpmpaaQx11
import Derived.Test.YthnflldlljpmpaaQx12
import Derived.Test.YthnflldlljpmpaaQx13
import Derived.Test.YthnflldlljpmpaaQx14
import Derived.Test.YthnflldlljpmpaaQx16
import Derived.Test.YthnflldlljpmpaaQx17
import Derived.Test.YthnflldlljpmpaaQx18
import Derived.Test.YthnflldlljpmpaaQx19
import Derived.Test.YthnflldlljpmpaaQx20
import Derived.Test.YthnflldlljpmpaaQx21
import Derived.Test.YthnflldlljpmpaaQx22
import Derived.Test.YthnflldlljpmpaaQx23
import Derived.Test.YthnflldlljpmpaaQx25
import Derived.Laws.BitsLemmas
namespace Go.Proofs.Ythnflldlljpmpaa.Lem
open Go.RowKit Go.Proofs.Ythnflldlljpmpaa.Q Go.Proofs.YthnflldlljpmpaaW.PrintWords Go.Proofs.YthnflldlljpmpaaW.PrintLast Go.Proofs.YthnflldlljpmpaaW.PrintMore
set_option linter.unusedVariables false
set_option linter.unusedSimpArgs false
-- LEM
theorem rd_nat (l : List Int) (i : Nat) : rd l (i : Int) = l.getD i 0 := by simp [rd]
theorem wf64 {n : Int} (h : (Lit.int .i64 n).wf = true) : -9223372036854775808 ≤ n ∧ n ≤ 9223372036854775807 := by
  simp only [Lit.wf, IntKind.min, IntKind.max, IntKind.signed, IntKind.bits, Bool.and_eq_true, decide_eq_true_eq, if_true] at h
  omega
theorem w64 {n : Int} (h : -9223372036854775808 ≤ n) (h2 : n ≤ 9223372036854775807) : wrap64 n = n := by
  unfold wrap64
  omega
theorem w64s {i : Int} {n : Nat} (h0 : 0 ≤ i) (h1 : i < (n : Int)) (hn : n ≤ 9223372036854775807) : wrap64 (i + 1) = i + 1 := by
  unfold wrap64
  omega
/-- A loop over places i .. n with a state, without a way out. -/
theorem run_fold {σ R : Type} (L : Nat → Int → σ → Option R) (n : Nat) (hn : n ≤ 9223372036854775807) (step : σ → Nat → σ) (fin : σ → Option R)
    (h1 : ∀ k (i : Nat) s, i < n → L (k + 1) i s = L k (wrap64 ((i : Int) + 1)) (step s i))
    (h2 : ∀ k s, L (k + 1) n s = fin s) :
    ∀ (d : Nat) (k : Nat) (i : Nat) (s : σ), i + d = n → d < k → L k i s = fin ((List.range' i d).foldl step s) := by
  intro d
  induction d with
  | zero =>
    intro k i s hd hk
    obtain ⟨k, rfl⟩ : ∃ m, k = m + 1 := ⟨k - 1, by omega⟩
    have : i = n := by omega
    subst this
    simpa using h2 k s
  | succ d ih =>
    intro k i s hd hk
    obtain ⟨k, rfl⟩ : ∃ m, k = m + 1 := ⟨k - 1, by omega⟩
    rw [h1 k i s (by omega), w64s (n := n) (by omega) (by omega) hn]
    have := ih k (i + 1) (step s i) (by omega) (by omega)
    rw [List.range'_succ, List.foldl_cons]
    simpa using this
/-- A loop over places i .. n with a state and a way out: 'none' of step: out with 'out'. -/
def foldX {σ R : Type} (step : σ → Nat → σ ⊕ R) (fin : σ → Option R) : List Nat → σ → Option R
  | [], s => fin s
  | i :: is, s => match step s i with
    | .inl s' => foldX step fin is s'
    | .inr r => some r
theorem run_foldX {σ R : Type} (L : Nat → Int → σ → Option R) (n : Nat) (hn : n ≤ 9223372036854775807) (step : σ → Nat → σ ⊕ R) (fin : σ → Option R)
    (h1 : ∀ k (i : Nat) s, i < n → L (k + 1) i s = match step s i with | .inl s' => L k (wrap64 ((i : Int) + 1)) s' | .inr r => some r)
    (h2 : ∀ k s, L (k + 1) n s = fin s) :
    ∀ (d : Nat) (k : Nat) (i : Nat) (s : σ), i + d = n → d < k → L k i s = foldX step fin (List.range' i d) s := by
  intro d
  induction d with
  | zero =>
    intro k i s hd hk
    obtain ⟨k, rfl⟩ : ∃ m, k = m + 1 := ⟨k - 1, by omega⟩
    have : i = n := by omega
    subst this
    simpa [foldX] using h2 k s
  | succ d ih =>
    intro k i s hd hk
    obtain ⟨k, rfl⟩ : ∃ m, k = m + 1 := ⟨k - 1, by omega⟩
    rw [h1 k i s (by omega), w64s (n := n) (by omega) (by omega) hn, List.range'_succ]
    simp only [foldX]
    cases hs : step s i with
    | inl s' => simpa using ih k (i + 1) s' (by omega) (by omega)
    | inr r => rfl
/-- A loop that only asks whether all places pass. -/
theorem run_all {R : Type} (L : Nat → Int → Option R) (n : Nat) (hn : n ≤ 9223372036854775807) (p : Nat → Bool) (no : R) (fin : Option R)
    (h1 : ∀ k (i : Nat), i < n → L (k + 1) i = if p i = true then L k (wrap64 ((i : Int) + 1)) else some no)
    (h2 : ∀ k, L (k + 1) n = fin) (k : Nat) (hk : n < k) : L k 0 = if (List.range n).all p then fin else some no := by
  have key : ∀ (d k i : Nat), i + d = n → d < k → L k i = if (List.range' i d).all p then fin else some no := by
    intro d
    induction d with
    | zero =>
      intro k i hd hk
      obtain ⟨k, rfl⟩ : ∃ m, k = m + 1 := ⟨k - 1, by omega⟩
      have : i = n := by omega
      subst this
      simpa using h2 k
    | succ d ih =>
      intro k i hd hk
      obtain ⟨k, rfl⟩ : ∃ m, k = m + 1 := ⟨k - 1, by omega⟩
      rw [h1 k i (by omega), w64s (n := n) (by omega) (by omega) hn, List.range'_succ, List.all_cons]
      by_cases hp : p i = true
      · have := ih k (i + 1) (by omega) (by omega)
        simp only [hp, if_true, Bool.true_and]
        simpa using this
      · simp [hp]
  have := key n k 0 (by omega) hk
  rw [List.range_eq_range']
  simpa using this
theorem all_range_getD {α : Type} (l : List α) (d : α) (p : α → Bool) : (List.range l.length).all (fun i => p (l.getD i d)) = l.all p := by
  rw [Bool.eq_iff_iff, List.all_eq_true, List.all_eq_true]
  constructor
  · intro h x hx
    obtain ⟨i, hi, rfl⟩ := List.mem_iff_getElem.1 hx
    have := h i (List.mem_range.2 hi)
    simpa [List.getD_eq_getElem?_getD, hi] using this
  · intro h i hi
    have hi' := List.mem_range.1 hi
    have := h l[i] (List.getElem_mem hi')
    simpa [List.getD_eq_getElem?_getD, hi'] using this
theorem foldl_range_getD {α σ : Type} (l : List α) (d : α) (f : σ → α → σ) (s : σ) : (List.range' 0 l.length).foldl (fun s i => f s (l.getD i d)) s = l.foldl f s := by
  have : l = (List.range' 0 l.length).map (fun i => l.getD i d) := by
    apply List.ext_getElem
    · simp
    · intro i h1 h2
      simp [List.getD_eq_getElem?_getD, h1]
  conv => rhs; rw [this, List.foldl_map]
/-- A loop that fills a row place by place. -/
theorem copy_loop {α : Type} (L : Nat → List α → Int → Option (List α)) (n : Nat) (hn : n ≤ 9223372036854775807) (v : Nat → α)
    (h1 : ∀ k (i : Nat) xs, i < n → xs.length = n → L (k + 1) xs i = L k (xs.set i (v i)) (wrap64 ((i : Int) + 1)))
    (h2 : ∀ k xs, xs.length = n → L (k + 1) xs n = some xs) (xs0 : List α) (hx : xs0.length = n) (k : Nat) (hk : n < k) : L k xs0 0 = some ((List.range n).map v) := by
  have key : ∀ (d k i : Nat) (xs : List α), i + d = n → d < k → xs.length = n → (∀ j, j < i → xs[j]? = some (v j)) → L k xs i = some ((List.range n).map v) := by
    intro d
    induction d with
    | zero =>
      intro k i xs hd hk hl hj
      obtain ⟨k, rfl⟩ : ∃ m, k = m + 1 := ⟨k - 1, by omega⟩
      have : i = n := by omega
      subst this
      rw [h2 k xs hl]
      congr 1
      apply List.ext_getElem?
      intro j
      by_cases h : j < i
      · rw [hj j h]
        simp [h]
      · rw [List.getElem?_eq_none (by omega), List.getElem?_eq_none (by simp; omega)]
    | succ d ih =>
      intro k i xs hd hk hl hj
      obtain ⟨k, rfl⟩ : ∃ m, k = m + 1 := ⟨k - 1, by omega⟩
      rw [h1 k i xs (by omega) hl, w64s (n := n) (by omega) (by omega) hn]
      have := ih k (i + 1) (xs.set i (v i)) (by omega) (by omega) (by simpa using hl) (fun j hj2 => by
        rw [List.getElem?_set]
        by_cases e : i = j
        · subst e
          simp; omega
        · rw [if_neg e]
          exact hj j (by omega))
      simpa using this
  exact key n k 0 xs0 (by omega) hk hx (fun j hj => by omega)
theorem map_range_getD {α β : Type} (l : List α) (d : α) (f : α → β) : (List.range l.length).map (fun i => f (l.getD i d)) = l.map f := by
  apply List.ext_getElem
  · simp
  · intro i h1 h2
    simp at h1
    simp [List.getD_eq_getElem?_getD, h1]
/-- A loop over the places 0 .. n with a state, what it calls wanting more than B rounds, and what holds of the state at each place. -/
theorem loop_fold {σ R : Type} (L : Nat → Int → σ → Option R) (n B : Nat) (hn : n ≤ 9223372036854775807) (P : Nat → σ → Prop) (step : σ → Nat → σ) (fin : σ → Option R)
    (h1 : ∀ k (i : Nat) s, B < k → i < n → P i s → L (k + 1) i s = L k (wrap64 ((i : Int) + 1)) (step s i))
    (hP : ∀ (i : Nat) s, i < n → P i s → P (i + 1) (step s i))
    (h2 : ∀ k s, B < k → P n s → L (k + 1) n s = fin s) (k : Nat) (s : σ) (h0 : P 0 s) (hk : n + B + 1 < k) :
    L k 0 s = fin ((List.range n).foldl step s) ∧ P n ((List.range n).foldl step s) := by
  have key : ∀ (d k i : Nat) (s : σ), i + d = n → d + B + 1 < k → P i s → L k i s = fin ((List.range' i d).foldl step s) ∧ P n ((List.range' i d).foldl step s) := by
    intro d
    induction d with
    | zero =>
      intro k i s hd hk hp
      obtain ⟨k, rfl⟩ : ∃ m, k = m + 1 := ⟨k - 1, by omega⟩
      have : i = n := by omega
      subst this
      exact ⟨by simpa using h2 k s (by omega) hp, by simpa using hp⟩
    | succ d ih =>
      intro k i s hd hk hp
      obtain ⟨k, rfl⟩ : ∃ m, k = m + 1 := ⟨k - 1, by omega⟩
      rw [h1 k i s (by omega) (by omega) hp, w64s (n := n) (by omega) (by omega) hn]
      have := ih k (i + 1) (step s i) (by omega) (by omega) (hP i s (by omega) hp)
      rw [List.range'_succ, List.foldl_cons]
      simpa using this
  have := key n k 0 s (by omega) (by omega) h0
  rw [List.range_eq_range']
  simpa using this
/-- The same without anything to hold of the state. -/
theorem loop_fold' {σ R : Type} (L : Nat → Int → σ → Option R) (n B : Nat) (hn : n ≤ 9223372036854775807) (step : σ → Nat → σ) (fin : σ → Option R)
    (h1 : ∀ k (i : Nat) s, B < k → i < n → L (k + 1) i s = L k (wrap64 ((i : Int) + 1)) (step s i))
    (h2 : ∀ k s, B < k → L (k + 1) n s = fin s) (k : Nat) (s : σ) (hk : n + B + 1 < k) :
    L k 0 s = fin ((List.range n).foldl step s) :=
  (loop_fold L n B hn (fun _ _ => True) step fin (fun k i s a b _ => h1 k i s a b) (fun _ _ _ _ => trivial) (fun k s a _ => h2 k s a) k s trivial hk).1
theorem foldl_range_getD' {α σ : Type} (l : List α) (d : α) (f : σ → α → σ) (s : σ) : (List.range l.length).foldl (fun s i => f s (l.getD i d)) s = l.foldl f s := by
  rw [List.range_eq_range']
  exact foldl_range_getD l d f s
/-- A loop with a way out. -/
theorem loop_foldX {σ R : Type} (L : Nat → Int → σ → Option R) (n B : Nat) (hn : n ≤ 9223372036854775807) (P : Nat → σ → Prop) (step : σ → Nat → σ ⊕ R) (fin : σ → Option R)
    (h1 : ∀ k (i : Nat) s, B < k → i < n → P i s → L (k + 1) i s = match step s i with | .inl s' => L k (wrap64 ((i : Int) + 1)) s' | .inr r => some r)
    (hP : ∀ (i : Nat) s s', i < n → P i s → step s i = .inl s' → P (i + 1) s')
    (h2 : ∀ k s, B < k → P n s → L (k + 1) n s = fin s) (k : Nat) (s : σ) (h0 : P 0 s) (hk : n + B + 1 < k) :
    L k 0 s = foldX step fin (List.range n) s := by
  have key : ∀ (d k i : Nat) (s : σ), i + d = n → d + B + 1 < k → P i s → L k i s = foldX step fin (List.range' i d) s := by
    intro d
    induction d with
    | zero =>
      intro k i s hd hk hp
      obtain ⟨k, rfl⟩ : ∃ m, k = m + 1 := ⟨k - 1, by omega⟩
      have : i = n := by omega
      subst this
      simpa [foldX] using h2 k s (by omega) hp
    | succ d ih =>
      intro k i s hd hk hp
      obtain ⟨k, rfl⟩ : ∃ m, k = m + 1 := ⟨k - 1, by omega⟩
      rw [h1 k i s (by omega) (by omega) hp, w64s (n := n) (by omega) (by omega) hn, List.range'_succ]
      simp only [foldX]
      cases hs : step s i with
      | inl s' => simpa using ih k (i + 1) s' (by omega) (by omega) (hP i s s' (by omega) hp hs)
      | inr r => rfl
  have := key n k 0 s (by omega) (by omega) h0
  rw [List.range_eq_range']
  simpa using this
/-- A loop that only asks whether all places pass. -/
theorem loop_all {R : Type} (L : Nat → Int → Option R) (n B : Nat) (hn : n ≤ 9223372036854775807) (p : Nat → Bool) (no : R) (fin : Option R)
    (h1 : ∀ k (i : Nat), B < k → i < n → L (k + 1) i = if p i = true then L k (wrap64 ((i : Int) + 1)) else some no)
    (h2 : ∀ k, B < k → L (k + 1) n = fin) (k : Nat) (hk : n + B + 1 < k) : L k 0 = if (List.range n).all p then fin else some no := by
  have key : ∀ (d k i : Nat), i + d = n → d + B + 1 < k → L k i = if (List.range' i d).all p then fin else some no := by
    intro d
    induction d with
    | zero =>
      intro k i hd hk
      obtain ⟨k, rfl⟩ : ∃ m, k = m + 1 := ⟨k - 1, by omega⟩
      have : i = n := by omega
      subst this
      simpa using h2 k (by omega)
    | succ d ih =>
      intro k i hd hk
      obtain ⟨k, rfl⟩ : ∃ m, k = m + 1 := ⟨k - 1, by omega⟩
      rw [h1 k i (by omega) (by omega), w64s (n := n) (by omega) (by omega) hn, List.range'_succ, List.all_cons]
      by_cases hp : p i = true
      · have := ih k (i + 1) (by omega) (by omega)
        simp only [hp, if_true, Bool.true_and]
        simpa using this
      · simp [hp]
  have := key n k 0 (by omega) hk
  rw [List.range_eq_range']
  simpa using this
/-- A loop from place i to n inside of a greater text: what it costs, and where it goes on. -/
theorem seg {σ R : Type} (L : Nat → Int → σ → Option R) (L' : Nat → σ → Option R) (n B : Nat) (C : Nat → Nat) (P : Nat → σ → Prop) (step : σ → Nat → σ)
    (h1 : ∀ k (i : Nat) s, B < k → i < n → P i s → L (k + C i) i s = L k ((i : Int) + 1) (step s i))
    (hP : ∀ (i : Nat) s, i < n → P i s → P (i + 1) (step s i))
    (h2 : ∀ k s, B < k → P n s → L (k + 1) n s = L' k s) :
    ∀ (d i k : Nat) (s : σ), i + d = n → B < k → P i s → L (k + 1 + ((List.range' i d).map C).sum) i s = L' k ((List.range' i d).foldl step s) ∧ P n ((List.range' i d).foldl step s) := by
  intro d
  induction d with
  | zero =>
    intro i k s hd hk hp
    have : i = n := by omega
    subst this
    exact ⟨by simpa using h2 k s hk hp, by simpa using hp⟩
  | succ d ih =>
    intro i k s hd hk hp
    rw [List.range'_succ, List.map_cons, List.sum_cons, List.foldl_cons]
    have e : k + 1 + (C i + ((List.range' (i + 1) d).map C).sum) = (k + 1 + ((List.range' (i + 1) d).map C).sum) + C i := by omega
    rw [e, h1 _ i s (by omega) (by omega) hp]
    have := ih (i + 1) k (step s i) (by omega) hk (hP i s (by omega) hp)
    simpa using this
theorem in_spec (a b c : Int) : spec_l01In.f a b c = some (decide (b ≤ a ∧ a ≤ c)) := by
  unfold spec_l01In.f
  by_cases h : b ≤ a <;> simp [h]
theorem in_impl (a b c : Int) : impl_in.f a b c = some (decide (b ≤ a ∧ a ≤ c)) := by
  unfold impl_in.f
  by_cases h : b ≤ a <;> simp [h]
theorem and255 (x : Int) : 0 ≤ Go.bits .and .i64 x 255 ∧ Go.bits .and .i64 x 255 ≤ 255 := by
  have h2 : ((BitVec.ofInt 64 255).toNat : Nat) = 255 := rfl
  have h1 : ∀ a : Nat, a &&& 255 ≤ 255 := fun a => Nat.and_le_right
  have h3 := h1 (BitVec.ofInt 64 x).toNat
  have : Go.bits .and .i64 x 255 = (((BitVec.ofInt 64 x).toNat &&& 255 : Nat) : Int) := by
    have h5 : (BitVec.ofInt 64 x &&& BitVec.ofInt 64 255).toNat = (BitVec.ofInt 64 x).toNat &&& 255 := by rw [BitVec.toNat_and, h2]
    show Go.IntKind.i64.wrap ((BitVec.ofInt 64 x &&& BitVec.ofInt 64 255).toNat : Int) = _
    rw [h5, Go.IntKind.wrap_i64]
    omega
  rw [this]
  omega
theorem byte_ok (l : List Int) (i h : Int) (hi : 0 ≤ i) (hl : l.length ≤ 9223372036854775807) : ∃ x i' h', spec_l01Byte.f l i h = some (x, i', h') ∧ 0 ≤ x ∧ x ≤ 255 ∧ 0 ≤ i' := by
  unfold spec_l01Byte.f
  by_cases h1 : i < (l.length : Int)
  · rw [if_pos h1, if_pos hi]
    refine ⟨_, _, _, rfl, (and255 _).1, (and255 _).2, ?_⟩
    rw [w64 (by omega) (by omega)]
    omega
  · rw [if_neg h1]
    exact ⟨_, _, _, rfl, (and255 _).1, (and255 _).2, hi⟩
theorem below_ok (l : List Int) (i h n : Int) (hi : 0 ≤ i) (hl : l.length ≤ 9223372036854775807) : ∃ x i' h', spec_l01Below.f l i h n = some (x, i', h') ∧ 0 ≤ x ∧ (0 < n → x < n) ∧ (n ≤ 0 → x = 0) ∧ 0 ≤ i' := by
  unfold spec_l01Below.f
  by_cases h1 : n ≤ 0
  · rw [if_pos h1]
    exact ⟨_, _, _, rfl, Int.le_refl _, fun h => by omega, fun _ => rfl, hi⟩
  · rw [if_neg h1]
    have hn : n ≠ 0 := by omega
    by_cases h2 : n ≤ 256
    · rw [if_pos h2]
      obtain ⟨x, i1, g1, e1, a1, b1, c1⟩ := byte_ok l i h hi hl
      rw [e1]
      simp only [Option.bind_some]
      rw [if_neg hn]
      refine ⟨_, _, _, rfl, Int.tmod_nonneg _ a1, fun h => ?_, fun h => by omega, c1⟩
      exact Int.tmod_lt_of_pos _ h
    · rw [if_neg h2]
      obtain ⟨x1, i1, g1, e1, a1, b1, c1⟩ := byte_ok l i h hi hl
      rw [e1]
      simp only [Option.bind_some]
      obtain ⟨x2, i2, g2, e2, a2, b2, c2⟩ := byte_ok l i1 g1 c1 hl
      rw [e2]
      simp only [Option.bind_some]
      obtain ⟨x3, i3, g3, e3, a3, b3, c3⟩ := byte_ok l i2 g2 c2 hl
      rw [e3]
      simp only [Option.bind_some]
      obtain ⟨x4, i4, g4, e4, a4, b4, c4⟩ := byte_ok l i3 g3 c3 hl
      rw [e4]
      simp only [Option.bind_some]
      rw [if_neg hn]
      refine ⟨_, _, _, rfl, Int.tmod_nonneg _ ?_, fun h => Int.tmod_lt_of_pos _ h, fun h => by omega, c4⟩
      unfold wrap64
      omega
theorem new_ok (l : List Int) (k : Nat) (hk : l.length < k) (hl : l.length ≤ 9223372036854775807) : ∃ h, spec_l01New.f k l = some (l, 0, h) := by
  have key : ∀ (d k : Nat) (h : Int) (i : Nat), i ≤ l.length → l.length - i = d → d < k → ∃ h', spec_l01New.l0 k l h i = some (l, 0, h') := by
    intro d
    induction d with
    | zero =>
      intro k h i hi hd hk
      obtain ⟨k, rfl⟩ : ∃ m, k = m + 1 := ⟨k - 1, by omega⟩
      simp only [spec_l01New.l0]
      rw [if_neg (by omega)]
      exact ⟨_, rfl⟩
    | succ d ih =>
      intro k h i hi hd hk
      obtain ⟨k, rfl⟩ : ∃ m, k = m + 1 := ⟨k - 1, by omega⟩
      simp only [spec_l01New.l0]
      rw [if_pos (by omega)]
      by_cases h4 : (i : Int) < 4000
      · rw [if_pos h4, if_pos (by omega), w64s (n := l.length) (by omega) (by omega) hl]
        exact ih k _ (i + 1) (by omega) (by omega) (by omega)
      · rw [if_neg h4]
        exact ⟨_, rfl⟩
  exact key l.length k _ 0 (by omega) (by omega) hk
theorem at_ok (l : List Int) (i : Int) (hi : 0 ≤ i) (hi2 : i ≤ 1000) (hl : l.length ≤ 9223372036854775807) (hw : ∀ x ∈ l, (Lit.int .u8 x).wf = true) : ∃ v, laws_at.f l i = some v ∧ 0 ≤ v ∧ v ≤ 255 := by
  unfold laws_at.f
  by_cases h : (l.length : Int) = 0
  · rw [if_pos h]
    exact ⟨0, rfl, by omega, by omega⟩
  · rw [if_neg h]
    have e : wrap64 (wrap64 (i * 5) + 1) = i * 5 + 1 := by unfold wrap64; omega
    rw [e]
    have h1 : 0 ≤ Int.tmod (i * 5 + 1) (l.length : Int) := Int.tmod_nonneg _ (by omega)
    have h2 : Int.tmod (i * 5 + 1) (l.length : Int) < (l.length : Int) := Int.tmod_lt_of_pos _ (by omega)
    rw [if_pos h1, if_pos h2]
    generalize Int.tmod (i * 5 + 1) (l.length : Int) = j at h1 h2
    have hj : j.toNat < l.length := by omega
    have hr : rd l j = l[j.toNat] := by simp [rd, List.getD_eq_getElem?_getD, hj]
    have hb := hw _ (List.getElem_mem hj)
    simp only [Lit.wf, IntKind.min, IntKind.max, IntKind.signed, IntKind.bits, Bool.and_eq_true, decide_eq_true_eq] at hb
    rw [hr]
    generalize l[j.toNat] = v at hb
    refine ⟨_, rfl, ?_, ?_⟩ <;> (rw [w64 (by simp at hb; omega) (by simp at hb; omega)]; simp at hb; omega)
theorem big_eq (l : List Int) : laws_big.f l = some (decide ((l.length : Int) > 1048576)) := rfl
def cvMachine (x : S44) : S40 := ⟨x.f0, x.f1, x.f2⟩
theorem toMachine_ok (a0 a1 a2 : Int) : laws_toMachine.f a0 a1 a2 = some (a0, a1, a2) := rfl
theorem eqMachine_self (a0 a1 a2 : Int) : laws_eqMachine.f a0 a1 a2 a0 a1 a2 = some true := by simp [laws_eqMachine.f]
theorem rdLMachine (l : List S44) (i : Nat) : rd_T44 l (i : Int) = l.getD i z44 := by simp [rd_T44]
theorem rdIMachine (l : List S40) (i : Nat) : rd_T40 l (i : Int) = l.getD i z40 := by simp [rd_T40]
theorem toMachineS_ok (l : List S44) (k : Nat) (hl : l.length ≤ 1000000000) (hk : l.length < k) : laws_toMachineS.f k l = some (l.map cvMachine) := by
  unfold laws_toMachineS.f
  rw [if_pos (by omega), if_pos (by rw [Int.toNat_natCast]; omega)]
  have := copy_loop (fun k x3 x4 => laws_toMachineS.l0 k l x3 x4) l.length (by omega) (fun i => cvMachine (l.getD i z44))
    (fun k i xs hi hx => by
      simp only [laws_toMachineS.l0, toMachine_ok, Option.bind_some, rdLMachine]
      rw [if_pos (by omega), if_pos (by omega), if_pos (by omega)]
      simp [cvMachine])
    (fun k xs hx => by
      simp only [laws_toMachineS.l0]
      rw [if_neg (by omega)]) (List.replicate l.length z40) (by simp) k hk
  rw [map_range_getD] at this
  simpa using this
theorem eqMachineS_self (l : List S40) (k : Nat) (hl : l.length ≤ 1000000000) (hk : l.length < k) : laws_eqMachineS.f k l l = some true := by
  unfold laws_eqMachineS.f
  rw [if_pos rfl]
  have := run_all (fun k x5 => laws_eqMachineS.l0 k l l x5) l.length (by omega) (fun _ => true) false (some true)
    (fun k i hi => by
      simp only [laws_eqMachineS.l0, eqMachine_self, Option.bind_some]
      rw [if_pos (by omega), if_pos (by omega), if_pos (by omega)])
    (fun k => by
      simp only [laws_eqMachineS.l0]
      rw [if_neg (by omega)]) k hk
  rw [this]
  simp
theorem szMachineS_ok (l : List S44) (hl : l.length ≤ 9223372036854775807) : ∃ q, laws_szMachineS.f l 1048576 = some q ∧ (q < 0 ∨ (0 ≤ q ∧ l.length ≤ 1048576)) := by
  unfold laws_szMachineS.f
  rw [w64 (n := 1048576 - (l.length : Int)) (by omega) (by omega)]
  by_cases h : 1048576 - (l.length : Int) < 0
  · rw [if_pos h]
    exact ⟨_, rfl, .inl (by omega)⟩
  · rw [if_neg h]
    exact ⟨_, rfl, .inr ⟨by omega, by omega⟩⟩
def mOk (m : S40) : Bool := decide ((0 ≤ m.f0 ∧ m.f0 ≤ 1439) ∧ (m.f0 + 1 ≤ m.f1 ∧ m.f1 ≤ 1440) ∧ 1 ≤ m.f2 ∧ m.f2 ≤ 10000)
theorem mOk_iff {m : S40} : mOk m = true ↔ (0 ≤ m.f0 ∧ m.f0 ≤ 1439) ∧ (m.f0 + 1 ≤ m.f1 ∧ m.f1 ≤ 1440) ∧ 1 ≤ m.f2 ∧ m.f2 ≤ 10000 := by simp [mOk]
def machOk (l : List S40) : Bool := decide (l.length ≤ 12) && l.all mOk
theorem machOk_iff {l : List S40} : machOk l = true ↔ l.length ≤ 12 ∧ ∀ m ∈ l, mOk m = true := by simp [machOk, List.all_eq_true]
theorem mach_one (a b c : Int) : impl_MachinesOk_1.f a b c = some (!mOk ⟨a, b, c⟩) := by
  simp only [impl_MachinesOk_1.f, in_impl, Option.bind_some, mOk]
  by_cases h : 0 ≤ a ∧ a ≤ 1439
  · rw [decide_eq_true h, if_pos rfl, w64 (n := a + 1) (by omega) (by omega)]
    by_cases h2 : a + 1 ≤ b ∧ b ≤ 1440
    · rw [decide_eq_true h2, if_pos rfl]
      simp [h, h2]
    · rw [decide_eq_false h2, if_neg (by simp), decide_eq_false (fun hh => h2 hh.2.1)]
      rfl
  · rw [decide_eq_false h, if_neg (by simp), decide_eq_false (fun hh => h hh.1)]
    rfl
theorem mach_impl (l : List S40) : impl_MachinesOk.f l = some (machOk l) := by
  have e : impl_Machine_30.pred = fun x => !mOk x := by
    funext x
    simp only [impl_Machine_30.pred, mach_one]
    cases mOk x <;> simp
  simp only [impl_MachinesOk.f, impl_Machine_30.f, Option.bind_some, machOk, e]
  by_cases h : (l.length : Int) ≤ 12
  · rw [if_pos h, decide_eq_true (by omega), Bool.true_and]
    congr 1
    rw [List.any_eq_not_all_not]
    simp
  · rw [if_neg h, decide_eq_false (by omega), Bool.false_and]
theorem mach_spec (l : List S40) (k : Nat) (hl : l.length ≤ 1000000000) (hk : l.length < k) : spec_MachinesOk.f k l = some (machOk l) := by
  unfold spec_MachinesOk.f
  rw [run_all (fun k x3 => spec_MachinesOk.l0 k l x3) l.length (by omega) (fun i => mOk (l.getD i z40)) false (some (decide (l.length ≤ 12)))
    (fun k i hi => by
      simp only [spec_MachinesOk.l0, in_spec, Option.bind_some, rdIMachine]
      rw [if_pos (by omega), if_pos (by omega)]
      generalize l.getD i z40 = m
      unfold mOk
      by_cases h : 0 ≤ m.f0 ∧ m.f0 ≤ 1439
      · rw [decide_eq_true h, if_pos rfl, w64 (n := m.f0 + 1) (by omega) (by omega)]
        by_cases h2 : m.f0 + 1 ≤ m.f1 ∧ m.f1 ≤ 1440
        · rw [decide_eq_true h2, if_pos rfl]
          simp only [h, h2, and_self, true_and]
        · rw [decide_eq_false h2, if_neg (by simp), decide_eq_false (fun hh => h2 hh.2.1), if_neg (by simp)]
      · rw [decide_eq_false h, if_neg (by simp), decide_eq_false (fun hh => h hh.1), if_neg (by simp)])
    (fun k => by
      simp only [spec_MachinesOk.l0]
      rw [if_neg (by omega)]
      congr 1
      rw [decide_eq_decide]
      omega) k hk]
  rw [all_range_getD l z40 mOk]
  unfold machOk
  cases l.all mOk <;> simp
/-- The power at minute t. -/
def pwS (acc : Int) (t : Nat) (m : S40) : Int := if m.f0 ≤ (t : Int) ∧ (t : Int) < m.f1 then acc + m.f2 else acc
def pw (l : List S40) (t : Nat) : Int := l.foldl (fun acc m => pwS acc t m) 0
def pws (l : List S40) : List Int := (List.range 1440).map (pw l)
theorem pw_bounds {l : List S40} (h : ∀ m ∈ l, mOk m = true) (t : Nat) : 0 ≤ pw l t ∧ pw l t ≤ 10000 * l.length := by
  have key : ∀ (l : List S40) (a : Int), (∀ m ∈ l, mOk m = true) → a ≤ l.foldl (fun acc m => pwS acc t m) a ∧ l.foldl (fun acc m => pwS acc t m) a ≤ a + 10000 * l.length := by
    intro l
    induction l with
    | nil => intro a _; simp
    | cons m l ih =>
      intro a h
      rw [List.foldl_cons, List.length_cons]
      have hm := mOk_iff.1 (h m List.mem_cons_self)
      have := ih (pwS a t m) (fun x hx => h x (List.mem_cons_of_mem _ hx))
      have e : a ≤ pwS a t m ∧ pwS a t m ≤ a + 10000 := by
        unfold pwS
        split <;> omega
      omega
  have := key l 0 h
  unfold pw
  omega
theorem pw_snoc (l : List S40) (m : S40) (t : Nat) : pw (l ++ [m]) t = pwS (pw l t) t m := by
  unfold pw
  rw [List.foldl_append]
  rfl
theorem rd_map (g : Nat → Int) (n : Nat) (x : Int) (h0 : 0 ≤ x) (h1 : x < n) : rd ((List.range n).map g) x = g x.toNat := by
  have : x.toNat < n := by omega
  simp [rd, List.getD_eq_getElem?_getD, this]
theorem set_map (g : Nat → Int) (n : Nat) (j : Nat) (v : Int) : ((List.range n).map g).set j v = (List.range n).map (fun t => if t = j then v else g t) := by
  apply List.ext_getElem?
  intro i
  rw [List.getElem?_set]
  by_cases hi : i < n
  · by_cases e : j = i
    · subst e
      simp [hi]
    · have e2 : ¬ i = j := fun h => e h.symm
      simp [hi, e, e2]
  · by_cases e : j = i
    · subst e
      simp [hi]
    · simp [hi, e]
/-- What one machine adds from minute x on. -/
def addFrom (g : Nat → Int) (x b w : Int) (t : Nat) : Int := if x ≤ (t : Int) ∧ (t : Int) < b then g t + w else g t
theorem addFrom_step (g : Nat → Int) (x b w : Int) (hx : 0 ≤ x) (hb : x < b) : addFrom (fun t => if t = x.toNat then g x.toNat + w else g t) (x + 1) b w = addFrom g x b w := by
  funext t
  unfold addFrom
  dsimp only
  by_cases h : (t : Int) = x
  · have e : t = x.toNat := by omega
    rw [if_neg (by omega), if_pos e, if_pos (by omega), e]
  · have e : ¬ t = x.toNat := by omega
    by_cases h2 : x ≤ (t : Int) ∧ (t : Int) < b
    · rw [if_pos (by omega), if_neg e, if_pos h2]
    · rw [if_neg (by omega), if_neg e, if_neg h2]
theorem zeros_map (n : Nat) : (List.range n).map (pw []) = List.replicate n 0 := by
  apply List.ext_getElem
  · simp
  · intro i h1 h2
    simp [pw]
theorem inner_spec (l : List S40) (i : Nat) (hi : i < l.length) (M : S40) (hM : l.getD i z40 = M) (hm : mOk M = true) :
    ∀ (d k : Nat) (x : Int) (g : Nat → Int), 0 ≤ x → x + d = M.f1 → (∀ t : Nat, x ≤ (t : Int) → 0 ≤ g t ∧ g t ≤ 1000000) →
      spec_l26Powers.l1 (k + d + 1) l ((List.range 1440).map g) i x = spec_l26Powers.l0 k l ((List.range 1440).map (addFrom g x M.f1 M.f2)) (wrap64 ((i : Int) + 1)) := by
  have hm2 := mOk_iff.1 hm
  intro d
  induction d with
  | zero =>
    intro k x g h0 hd hg
    simp only [spec_l26Powers.l1, rdIMachine, hM]
    rw [if_pos (by omega), if_pos (by omega), if_neg (by omega)]
    have : addFrom g x M.f1 M.f2 = g := by
      funext t
      unfold addFrom
      rw [if_neg (by omega)]
    rw [this]
  | succ d ih =>
    intro k x g h0 hd hg
    have e : k + (d + 1) + 1 = (k + d + 1) + 1 := by omega
    rw [e]
    generalize hK : k + d + 1 = K
    simp only [spec_l26Powers.l1, rdIMachine, hM]
    rw [if_pos (by omega), if_pos (by omega), if_pos (by omega), if_pos h0, if_pos (by simp; omega), rd_map g 1440 x h0 (by omega), set_map]
    have hb := hg x.toNat (by omega)
    rw [w64 (n := g x.toNat + M.f2) (by omega) (by omega), w64 (n := x + 1) (by omega) (by omega)]
    rw [← hK, ih k (x + 1) _ (by omega) (by omega) (fun t ht => by rw [if_neg (by omega)]; exact hg t (by omega))]
    rw [addFrom_step g x _ _ h0 (by omega)]
theorem inner_impl (l : List S40) (i : Nat) (hi : i < l.length) (M : S40) (hM : l.getD i z40 = M) (hm : mOk M = true) :
    ∀ (d k : Nat) (x : Int) (g : Nat → Int), 0 ≤ x → x + d = M.f1 → (∀ t : Nat, x ≤ (t : Int) → 0 ≤ g t ∧ g t ≤ 1000000) →
      impl_powers.l1 (k + d + 1) ((List.range 1440).map g) x l l.length i M.f0 M.f1 M.f2 = impl_powers.l0 k ((List.range 1440).map (addFrom g x M.f1 M.f2)) l l.length (wrap64 ((i : Int) + 1)) := by
  have hm2 := mOk_iff.1 hm
  intro d
  induction d with
  | zero =>
    intro k x g h0 hd hg
    simp only [impl_powers.l1]
    rw [if_neg (by omega)]
    have : addFrom g x M.f1 M.f2 = g := by
      funext t
      unfold addFrom
      rw [if_neg (by omega)]
    rw [this]
  | succ d ih =>
    intro k x g h0 hd hg
    have e : k + (d + 1) + 1 = (k + d + 1) + 1 := by omega
    rw [e]
    generalize hK : k + d + 1 = K
    simp only [impl_powers.l1]
    rw [if_pos (by omega), if_pos h0, if_pos (by simp; omega), rd_map g 1440 x h0 (by omega), set_map]
    have hb := hg x.toNat (by omega)
    rw [w64 (n := g x.toNat + M.f2) (by omega) (by omega), w64 (n := x + 1) (by omega) (by omega)]
    rw [← hK, ih k (x + 1) _ (by omega) (by omega) (fun t ht => by rw [if_neg (by omega)]; exact hg t (by omega))]
    rw [addFrom_step g x _ _ h0 (by omega)]
set_option maxRecDepth 100000 in
theorem powers_spec (l : List S40) (h : machOk l = true) (k : Nat) (hk : 20000 < k) : spec_l26Powers.f k l = some (pws l) := by
  obtain ⟨hl, hm⟩ := machOk_iff.1 h
  unfold spec_l26Powers.f
  rw [if_pos (by omega)]
  have key : ∀ (d k i : Nat), i + d = l.length → d * 1443 + 1 < k → spec_l26Powers.l0 k l ((List.range 1440).map (pw (l.take i))) i = some (pws l) := by
    intro d
    induction d with
    | zero =>
      intro k i hd hk
      obtain ⟨k, rfl⟩ : ∃ m, k = m + 1 := ⟨k - 1, by omega⟩
      simp only [spec_l26Powers.l0]
      rw [if_neg (by omega)]
      have : l.take i = l := List.take_of_length_le (by omega)
      rw [this]
      rfl
    | succ d ih =>
      intro k i hd hk
      have hi : i < l.length := by omega
      have hM : l.getD i z40 = l[i] := by simp [List.getD_eq_getElem?_getD, hi]
      have hmi := hm _ (List.getElem_mem hi)
      have hm2 := mOk_iff.1 hmi
      have hlt : ∀ m ∈ l.take i, mOk m = true := fun m hm' => hm m (List.mem_of_mem_take hm')
      have hb : ∀ t : Nat, 0 ≤ pw (l.take i) t ∧ pw (l.take i) t ≤ 1000000 := fun t => by
        have := pw_bounds hlt t
        have e : (l.take i).length ≤ 12 := by rw [List.length_take]; omega
        omega
      generalize hd2 : ((l[i]).f1 - (l[i]).f0).toNat = dur
      have hdur : dur ≤ 1440 := by omega
      have hk1 : (d + 1) * 1443 + 1 < k := hk
      obtain ⟨k, rfl⟩ : ∃ m, k = m + dur + 1 + 1 := ⟨k - dur - 2, by omega⟩
      have hk3 : d * 1443 + 1 < k := by omega
      simp only [spec_l26Powers.l0, rdIMachine, hM]
      rw [if_pos (by omega), if_pos (by omega)]
      rw [inner_spec l i hi l[i] hM hmi dur k _ _ (by omega) (by omega) (fun t _ => hb t)]
      rw [w64s (n := l.length) (by omega) (by omega) (by omega)]
      have e : addFrom (pw (l.take i)) (l[i]).f0 (l[i]).f1 (l[i]).f2 = pw (l.take (i + 1)) := by
        funext t
        rw [List.take_succ_eq_append_getElem hi, pw_snoc]
        rfl
      rw [e]
      have hd3 : i + 1 + d = l.length := by omega
      have := ih k (i + 1) hd3 hk3
      rw [Int.natCast_add] at this
      exact this
  have hk2 : l.length * 1443 + 1 < k := by clear key; omega
  have := key l.length k 0 (Nat.zero_add _) hk2
  rw [List.take_zero, zeros_map] at this
  exact this
set_option maxRecDepth 100000 in
theorem powers_impl (l : List S40) (h : machOk l = true) (k : Nat) (hk : 20000 < k) : impl_powers.f k l = some (pws l) := by
  obtain ⟨hl, hm⟩ := machOk_iff.1 h
  unfold impl_powers.f
  rw [if_pos (by omega)]
  have key : ∀ (d k i : Nat), i + d = l.length → d * 1443 + 1 < k → impl_powers.l0 k ((List.range 1440).map (pw (l.take i))) l l.length i = some (pws l) := by
    intro d
    induction d with
    | zero =>
      intro k i hd hk
      obtain ⟨k, rfl⟩ : ∃ m, k = m + 1 := ⟨k - 1, by omega⟩
      simp only [impl_powers.l0]
      rw [if_neg (by omega)]
      have : l.take i = l := List.take_of_length_le (by omega)
      rw [this]
      rfl
    | succ d ih =>
      intro k i hd hk
      have hi : i < l.length := by omega
      have hM : l.getD i z40 = l[i] := by simp [List.getD_eq_getElem?_getD, hi]
      have hmi := hm _ (List.getElem_mem hi)
      have hm2 := mOk_iff.1 hmi
      have hlt : ∀ m ∈ l.take i, mOk m = true := fun m hm' => hm m (List.mem_of_mem_take hm')
      have hb : ∀ t : Nat, 0 ≤ pw (l.take i) t ∧ pw (l.take i) t ≤ 1000000 := fun t => by
        have := pw_bounds hlt t
        have e : (l.take i).length ≤ 12 := by rw [List.length_take]; omega
        omega
      generalize hd2 : ((l[i]).f1 - (l[i]).f0).toNat = dur
      have hdur : dur ≤ 1440 := by omega
      have hk1 : (d + 1) * 1443 + 1 < k := hk
      obtain ⟨k, rfl⟩ : ∃ m, k = m + dur + 1 + 1 := ⟨k - dur - 2, by omega⟩
      have hk3 : d * 1443 + 1 < k := by omega
      simp only [impl_powers.l0, rdIMachine, hM]
      rw [if_pos (by omega), if_pos (by omega), if_pos (by omega)]
      rw [inner_impl l i hi l[i] hM hmi dur k _ _ (by omega) (by omega) (fun t _ => hb t)]
      rw [w64s (n := l.length) (by omega) (by omega) (by omega)]
      have e : addFrom (pw (l.take i)) (l[i]).f0 (l[i]).f1 (l[i]).f2 = pw (l.take (i + 1)) := by
        funext t
        rw [List.take_succ_eq_append_getElem hi, pw_snoc]
        rfl
      rw [e]
      have hd3 : i + 1 + d = l.length := by omega
      have := ih k (i + 1) hd3 hk3
      rw [Int.natCast_add] at this
      exact this
  have hk2 : l.length * 1443 + 1 < k := by clear key; omega
  have := key l.length k 0 (Nat.zero_add _) hk2
  rw [List.take_zero, zeros_map] at this
  exact this
theorem pws_len (l : List S40) : (pws l).length = 1440 := by simp [pws]
theorem rd_pws (l : List S40) (x : Int) (h0 : 0 ≤ x) (h1 : x < 1440) : rd (pws l) x = pw l x.toNat := rd_map _ 1440 x h0 (by omega)
theorem pw_ok {l : List S40} (h : machOk l = true) (t : Nat) : 0 ≤ pw l t ∧ pw l t ≤ 120000 := by
  obtain ⟨hl, hm⟩ := machOk_iff.1 h
  have := pw_bounds hm t
  omega
theorem pws_ok {l : List S40} (h : machOk l = true) : ∀ x ∈ pws l, 0 ≤ x ∧ x ≤ 120000 := by
  intro x hx
  obtain ⟨t, _, rfl⟩ := List.mem_map.1 hx
  exact pw_ok h t
theorem sum_bounds {M : Int} : ∀ (l : List Int), (∀ x ∈ l, 0 ≤ x ∧ x ≤ M) → 0 ≤ l.sum ∧ l.sum ≤ l.length * M
  | [], _ => by simp
  | a :: l, h => by
    have := sum_bounds l (fun x hx => h x (List.mem_cons_of_mem _ hx))
    have ha := h a List.mem_cons_self
    rw [List.sum_cons, List.length_cons]
    have e : ((l.length + 1 : Nat) : Int) * M = l.length * M + M := by
      rw [Int.natCast_add, Int.add_mul]
      simp
    omega
/-- Small sums: a list whose numbers are from 0 to M, and whose length times M is small. -/
def Small (l : List Int) : Prop := ∃ M : Int, (∀ x ∈ l, 0 ≤ x ∧ x ≤ M) ∧ l.length * M ≤ 4611686018427387904 ∧ l.length ≤ 4611686018427387904
theorem Small.drop {l : List Int} (h : Small l) (i : Nat) : 0 ≤ (l.drop i).sum ∧ (l.drop i).sum ≤ l.sum := by
  obtain ⟨M, h1, h2, h3⟩ := h
  have e : l.sum = (l.take i).sum + (l.drop i).sum := by rw [← List.sum_append, List.take_append_drop]
  have a := sum_bounds (M := M) (l.take i) (fun x hx => h1 x (List.mem_of_mem_take hx))
  have b := sum_bounds (M := M) (l.drop i) (fun x hx => h1 x (List.mem_of_mem_drop hx))
  omega
theorem Small.sum {l : List Int} (h : Small l) : 0 ≤ l.sum ∧ l.sum ≤ 4611686018427387904 := by
  obtain ⟨M, h1, h2, h3⟩ := h
  have := sum_bounds l h1
  omega
theorem sumI_impl (l : List Int) (h : Small l) (k : Nat) (hk : l.length < k) : impl_sum.f k l = some l.sum := by
  obtain ⟨M, h1, h2, h3⟩ := id h
  unfold impl_sum.f
  have hs := h.sum
  have key : ∀ (d k i : Nat) (s : Int), i + d = l.length → d < k → s + (l.drop i).sum = l.sum → 0 ≤ s → impl_sum.l0 k s l l.length i = some l.sum := by
    intro d
    induction d with
    | zero =>
      intro k i s hd hk hsum h0
      obtain ⟨k, rfl⟩ : ∃ m, k = m + 1 := ⟨k - 1, by omega⟩
      simp only [impl_sum.l0]
      rw [if_neg (by omega)]
      rw [List.drop_eq_nil_of_le (by omega)] at hsum
      simp at hsum
      rw [hsum]
    | succ d ih =>
      intro k i s hd hk hsum h0
      obtain ⟨k, rfl⟩ : ∃ m, k = m + 1 := ⟨k - 1, by omega⟩
      have hi : i < l.length := by omega
      simp only [impl_sum.l0]
      rw [if_pos (by omega), if_pos (by omega), if_pos (by omega), w64s (n := l.length) (by omega) (by omega) (by omega)]
      have e : rd l (i : Int) = l[i] := by simp [rd, List.getD_eq_getElem?_getD, hi]
      have hx := h1 _ (List.getElem_mem hi)
      rw [List.drop_eq_getElem_cons hi, List.sum_cons] at hsum
      have hd2 := h.drop (i + 1)
      rw [e, w64 (n := s + l[i]) (by omega) (by omega)]
      have := ih k (i + 1) (s + l[i]) (by omega) (by omega) (by omega) (by omega)
      simpa using this
  exact key l.length k 0 0 (by omega) hk (by simp) (by omega)
def energy (l : List S40) : Int := l.foldl (fun acc m => acc + m.f2 * (m.f1 - m.f0)) 0
theorem sum_one (g : Nat → Int) (m : S40) (h0 : 0 ≤ m.f0) (h1 : m.f0 ≤ m.f1) : ∀ n : Nat, ((List.range n).map (fun t => pwS (g t) t m)).sum = ((List.range n).map g).sum + m.f2 * (min (n : Int) m.f1 - min (n : Int) m.f0)
  | 0 => by
    have : min ((0 : Nat) : Int) m.f1 - min ((0 : Nat) : Int) m.f0 = 0 := by omega
    rw [this]
    simp
  | n + 1 => by
    rw [List.range_succ, List.map_append, List.map_append, List.sum_append, List.sum_append, sum_one g m h0 h1 n]
    simp only [List.map_cons, List.map_nil, List.sum_cons, List.sum_nil, Int.add_zero]
    unfold pwS
    by_cases h : m.f0 ≤ (n : Int) ∧ (n : Int) < m.f1
    · rw [if_pos h]
      have e : min ((n + 1 : Nat) : Int) m.f1 - min ((n + 1 : Nat) : Int) m.f0 = (min (n : Int) m.f1 - min (n : Int) m.f0) + 1 := by omega
      rw [e, Int.mul_add]
      omega
    · rw [if_neg h]
      have e : min ((n + 1 : Nat) : Int) m.f1 - min ((n + 1 : Nat) : Int) m.f0 = (min (n : Int) m.f1 - min (n : Int) m.f0) := by omega
      rw [e]
      omega
theorem sum_fold (n : Nat) : ∀ (l : List S40) (g : Nat → Int), (∀ m ∈ l, 0 ≤ m.f0 ∧ m.f0 ≤ m.f1 ∧ m.f1 ≤ n) →
    ((List.range n).map (fun t => l.foldl (fun acc m => pwS acc t m) (g t))).sum = l.foldl (fun acc m => acc + m.f2 * (m.f1 - m.f0)) ((List.range n).map g).sum
  | [], g, _ => rfl
  | m :: l, g, h => by
    have hm := h m List.mem_cons_self
    simp only [List.foldl_cons]
    rw [sum_fold n l (fun t => pwS (g t) t m) (fun x hx => h x (List.mem_cons_of_mem _ hx)), sum_one g m hm.1 hm.2.1 n]
    have e : min (n : Int) m.f1 - min (n : Int) m.f0 = m.f1 - m.f0 := by omega
    rw [e]
theorem sum_zero : ∀ n : Nat, ((List.range n).map (fun _ => (0 : Int))).sum = 0
  | 0 => rfl
  | n + 1 => by
    rw [List.range_succ, List.map_append, List.sum_append, sum_zero n]
    rfl
theorem pws_sum {l : List S40} (h : machOk l = true) : (pws l).sum = energy l := by
  obtain ⟨_, hm⟩ := machOk_iff.1 h
  have := sum_fold 1440 l (fun _ => 0) (fun m hx => by have := mOk_iff.1 (hm m hx); omega)
  rw [sum_zero] at this
  exact this
theorem pws_small {l : List S40} (h : machOk l = true) : Small (pws l) := ⟨120000, pws_ok h, by rw [pws_len]; omega, by rw [pws_len]; omega⟩
def energyOf (l : List S40) : Int := if machOk l = true then energy l else -1
theorem energy_impl (l : List S40) (k : Nat) (hk : 20000 < k) : impl_EnergyOf.f k l = some (energyOf l) := by
  simp only [impl_EnergyOf.f, mach_impl, Option.bind_some, energyOf]
  by_cases h : machOk l = true
  · rw [if_pos h, if_pos h, powers_impl l h k hk]
    simp only [Option.bind_some]
    rw [sumI_impl (pws l) (pws_small h) k (by rw [pws_len]; omega), pws_sum h]
    rfl
  · rw [if_neg h, if_neg h]
theorem mul_dur {a b : Int} (h0 : 0 ≤ a) (h1 : a ≤ 10000) (h2 : 0 ≤ b) (h3 : b ≤ 1440) : 0 ≤ a * b ∧ a * b ≤ 14400000 := by
  refine ⟨Int.mul_nonneg h0 h2, ?_⟩
  have h4 : a * b ≤ 10000 * b := Int.mul_le_mul_of_nonneg_right h1 h2
  omega
theorem energy_spec (l : List S40) (k : Nat) (hl : l.length ≤ 1000000000) (hk : l.length + 2 < k) : spec_EnergyOf.f k l = some (energyOf l) := by
  simp only [spec_EnergyOf.f, mach_spec l k hl (by omega), Option.bind_some, energyOf]
  by_cases h : machOk l = true
  · rw [if_pos h, if_pos h]
    obtain ⟨hl2, hm⟩ := machOk_iff.1 h
    have L := loop_fold (fun k i c => spec_EnergyOf.l0 k l c i) l.length 0 (by omega) (fun i c => 0 ≤ c ∧ c ≤ 14400000 * (i : Int)) (fun c i => c + (l.getD i z40).f2 * ((l.getD i z40).f1 - (l.getD i z40).f0)) (fun c => some c)
      (fun k i c hB hi hc => by
        have hM : l.getD i z40 = l[i] := by simp [List.getD_eq_getElem?_getD, hi]
        have hm2 := mOk_iff.1 (hm _ (List.getElem_mem hi))
        simp only [spec_EnergyOf.l0, rdIMachine, hM]
        rw [if_pos (by omega), if_pos (by omega)]
        have hq := mul_dur (a := (l[i]).f2) (b := (l[i]).f1 - (l[i]).f0) (by omega) (by omega) (by omega) (by omega)
        rw [w64 (n := (l[i]).f1 - (l[i]).f0) (by omega) (by omega), w64 (n := (l[i]).f2 * ((l[i]).f1 - (l[i]).f0)) (by omega) (by omega), w64 (by omega) (by omega)])
      (fun i c hi hc => by
        have hM : l.getD i z40 = l[i] := by simp [List.getD_eq_getElem?_getD, hi]
        have hm2 := mOk_iff.1 (hm _ (List.getElem_mem hi))
        have hq := mul_dur (a := (l[i]).f2) (b := (l[i]).f1 - (l[i]).f0) (by omega) (by omega) (by omega) (by omega)
        rw [hM]
        omega)
      (fun k c hB hc => by
        simp only [spec_EnergyOf.l0]
        rw [if_neg (by omega)]) k 0 ⟨by omega, by omega⟩ (by omega)
    rw [L.1, foldl_range_getD' l z40 (fun c m => c + m.f2 * (m.f1 - m.f0))]
    rfl
  · rw [if_neg h, if_neg h]
def overs (p : List Int) (most : Int) : Int := (List.range 1440).foldl (fun c i => if p.getD i 0 > most then c + 1 else c) 0
def overTimes (l : List S40) (most : Int) : Int := if machOk l = true ∧ 0 ≤ most ∧ most ≤ 1000000 then overs (pws l) most else -1
theorem over_spec (l : List S40) (a : Int) (k : Nat) (hl : l.length ≤ 1000000000) (hk : l.length + 20010 < k) : spec_OverTimes.f k l a = some (overTimes l a) := by
  obtain ⟨k, rfl⟩ : ∃ m, k = m + 1 := ⟨k - 1, by omega⟩
  simp only [spec_OverTimes.f, mach_spec l (k + 1) hl (by omega), in_spec, Option.bind_some, overTimes, spec_OverTimes.j0]
  by_cases h : machOk l = true
  · by_cases h2 : 0 ≤ a ∧ a ≤ 1000000
    · rw [if_pos h, decide_eq_true h2, if_neg (by simp), powers_spec l h k (by omega), if_pos (c := machOk l = true ∧ _) ⟨h, h2⟩]
      simp only [Option.bind_some]
      have hp := pws_len l
      generalize pws l = p at hp
      have L := loop_fold (fun k i c => spec_OverTimes.l0 k a c p i) 1440 0 (by omega) (fun i c => 0 ≤ c ∧ c ≤ (i : Int)) (fun c i => if p.getD i 0 > a then c + 1 else c) (fun c => some c)
        (fun k i c hB hi hc => by
          simp only [spec_OverTimes.l0, rd_nat]
          rw [if_pos (by omega), if_pos (by omega), if_pos (by omega), w64 (n := c + 1) (by omega) (by omega)]
          by_cases hh : p.getD i 0 > a
          · rw [if_pos hh, if_pos hh]
          · rw [if_neg hh, if_neg hh])
        (fun i c hi hc => by split <;> omega)
        (fun k c hB hc => by
          simp only [spec_OverTimes.l0]
          rw [if_neg (by omega)]) k 0 ⟨by omega, by omega⟩ (by omega)
      exact L.1
    · rw [if_pos h, decide_eq_false h2, if_pos (by simp), if_neg (c := machOk l = true ∧ _) (fun hh => h2 hh.2)]
  · rw [if_neg h, if_pos trivial, if_neg (c := machOk l = true ∧ _) (fun hh => h hh.1)]
theorem over_impl (l : List S40) (a : Int) (k : Nat) (hk : l.length + 20010 < k) : impl_OverTimes.f k l a = some (overTimes l a) := by
  obtain ⟨k, rfl⟩ : ∃ m, k = m + 1 := ⟨k - 1, by omega⟩
  simp only [impl_OverTimes.f, mach_impl, in_impl, Option.bind_some, overTimes, impl_OverTimes.j0]
  by_cases h : machOk l = true
  · by_cases h2 : 0 ≤ a ∧ a ≤ 1000000
    · rw [if_pos h, decide_eq_true h2, if_neg (by simp), powers_impl l h k (by omega), if_pos (c := machOk l = true ∧ _) ⟨h, h2⟩]
      simp only [Option.bind_some]
      have hp := pws_len l
      generalize pws l = p at hp
      rw [hp]
      have L := loop_fold (fun k i c => impl_OverTimes.l0 k a c p (1440 : Nat) i) 1440 0 (by omega) (fun i c => 0 ≤ c ∧ c ≤ (i : Int)) (fun c i => if p.getD i 0 > a then c + 1 else c) (fun c => some c)
        (fun k i c hB hi hc => by
          simp only [impl_OverTimes.l0, rd_nat]
          rw [if_pos (by omega), if_pos (by omega), if_pos (by omega), w64 (n := c + 1) (by omega) (by omega)]
          by_cases hh : p.getD i 0 > a
          · rw [if_pos hh, if_pos hh]
          · rw [if_neg hh, if_neg hh])
        (fun i c hi hc => by split <;> omega)
        (fun k c hB hc => by
          simp only [impl_OverTimes.l0]
          rw [if_neg (by omega)]) k 0 ⟨by omega, by omega⟩ (by omega)
      exact L.1
    · rw [if_pos h, decide_eq_false h2, if_pos (by simp), if_neg (c := machOk l = true ∧ _) (fun hh => h2 hh.2)]
  · rw [if_neg h, if_pos trivial, if_neg (c := machOk l = true ∧ _) (fun hh => h hh.1)]
theorem mx_eq (a b : Int) : mx a b = max a b := by unfold mx; omega
theorem mn_eq (a b : Int) : mn a b = min a b := by unfold mn; omega
/-- The greatest number of a list of numbers of at least 0; 0 if there is none. -/
def maxR (l : List Int) : Int := l.foldl max 0
theorem foldl_max (l : List Int) : ∀ m, m ≤ l.foldl max m ∧ (∀ x ∈ l, x ≤ l.foldl max m) ∧ (l.foldl max m = m ∨ l.foldl max m ∈ l) := by
  induction l with
  | nil => intro m; exact ⟨Int.le_refl _, fun x hx => by simp at hx, .inl rfl⟩
  | cons a l ih =>
    intro m
    rw [List.foldl_cons]
    obtain ⟨h1, h2, h3⟩ := ih (max m a)
    refine ⟨by omega, fun x hx => ?_, ?_⟩
    · rcases List.mem_cons.1 hx with rfl | hx
      · omega
      · exact h2 x hx
    · rcases h3 with h3 | h3
      · rw [h3]
        by_cases h : m ≤ a
        · exact .inr (by rw [Int.max_eq_right h]; exact List.mem_cons_self)
        · exact .inl (Int.max_eq_left (by omega))
      · exact .inr (List.mem_cons_of_mem _ h3)
theorem maxR_ge {l : List Int} {x : Int} (h : x ∈ l) : x ≤ maxR l := (foldl_max l 0).2.1 x h
theorem maxR_nonneg (l : List Int) : 0 ≤ maxR l := (foldl_max l 0).1
theorem maxR_mem {l : List Int} (hne : l ≠ []) (h0 : ∀ x ∈ l, 0 ≤ x) : maxR l ∈ l := by
  rcases (foldl_max l 0).2.2 with h | h
  · match l, hne with
    | a :: r, _ =>
      have h1 := h0 a List.mem_cons_self
      have h2 := maxR_ge (l := a :: r) List.mem_cons_self
      have h3 : maxR (a :: r) = 0 := h
      have : a = 0 := by omega
      rw [h3, ← this]
      exact List.mem_cons_self
  · exact h
theorem maxR_le {l : List Int} {M : Int} (h0 : 0 ≤ M) (h : ∀ x ∈ l, x ≤ M) : maxR l ≤ M := by
  rcases (foldl_max l 0).2.2 with e | e
  · have : maxR l = 0 := e
    omega
  · exact h _ e
theorem max_ok (l : List Int) (hne : l ≠ []) (h0 : ∀ x ∈ l, 0 ≤ x) (k : Nat) (hl : l.length ≤ 1000000000) (hk : l.length < k) : slices_Max_int_int.f k l = some (maxR l) := by
  have hlen : 0 < l.length := List.length_pos_iff.2 hne
  unfold slices_Max_int_int.f
  rw [if_neg (by omega), if_pos (by omega)]
  have key : ∀ (d k i : Nat) (m : Int), i + d = l.length → d < k → slices_Max_int_int.l0 k l m i = some ((l.drop i).foldl max m) := by
    intro d
    induction d with
    | zero =>
      intro k i m hd hk
      obtain ⟨k, rfl⟩ : ∃ m, k = m + 1 := ⟨k - 1, by omega⟩
      simp only [slices_Max_int_int.l0]
      rw [if_neg (by omega), List.drop_eq_nil_of_le (by omega)]
      rfl
    | succ d ih =>
      intro k i m hd hk
      obtain ⟨k, rfl⟩ : ∃ m, k = m + 1 := ⟨k - 1, by omega⟩
      have hi : i < l.length := by omega
      simp only [slices_Max_int_int.l0]
      have e : rd l (i : Int) = l[i] := by simp [rd, List.getD_eq_getElem?_getD, hi]
      rw [if_pos (by omega), if_pos (by omega), w64s (n := l.length) (by omega) (by omega) (by omega), e, mx_eq, List.drop_eq_getElem_cons hi, List.foldl_cons]
      have := ih k (i + 1) (max m l[i]) (by omega) (by omega)
      rw [Int.natCast_add] at this
      exact this
  have := key (l.length - 1) k 1 (rd l 0) (by omega) (by omega)
  have e0 : rd l 0 = l[0] := by simp [rd, List.getD_eq_getElem?_getD, hlen]
  have e2 : maxR l = (l.drop 1).foldl max l[0] := by
    have e3 : l = l[0] :: l.drop 1 := by
      have := List.drop_eq_getElem_cons hlen
      simpa using this
    have h1 := h0 _ (List.getElem_mem hlen)
    unfold maxR
    conv => lhs; rw [e3]
    rw [List.foldl_cons, Int.max_eq_right h1]
  rw [e2, ← e0]
  exact this
theorem index_hit (l : List Int) (v : Int) (j : Nat) (hj : j < l.length) (hv : l[j] = v) (hb : ∀ i (hi : i < j), l[i]'(by omega) ≠ v) (k : Nat) (hl : l.length ≤ 1000000000) (hk : l.length < k) : slices_Index_int_int.f k l v = some (j : Int) := by
  unfold slices_Index_int_int.f
  have key : ∀ (d k i : Nat), i + d = j → l.length < k + i → slices_Index_int_int.l0 k l v l.length i = some (j : Int) := by
    intro d
    induction d with
    | zero =>
      intro k i hd hk
      obtain ⟨k, rfl⟩ : ∃ m, k = m + 1 := ⟨k - 1, by omega⟩
      have : i = j := by omega
      subst this
      simp only [slices_Index_int_int.l0]
      have e : rd l (i : Int) = l[i] := by simp [rd, List.getD_eq_getElem?_getD, hj]
      rw [if_pos (by omega), if_pos (by omega), if_pos (by omega), if_pos (by rw [e, hv])]
    | succ d ih =>
      intro k i hd hk
      obtain ⟨k, rfl⟩ : ∃ m, k = m + 1 := ⟨k - 1, by omega⟩
      have hi : i < l.length := by omega
      simp only [slices_Index_int_int.l0]
      have e : rd l (i : Int) = l[i] := by simp [rd, List.getD_eq_getElem?_getD, hi]
      have hn := hb i (by omega)
      rw [if_pos (by omega), if_pos (by omega), if_pos (by omega), if_neg (by rw [e]; exact fun h => hn h.symm), w64s (n := l.length) (by omega) (by omega) (by omega)]
      have := ih k (i + 1) (by omega) (by omega)
      rw [Int.natCast_add] at this
      exact this
  exact key j k 0 (by omega) (by omega)
/-- The first place of the greatest number. -/
def firstMax (l : List Int) : Nat := l.findIdx (fun x => decide (x = maxR l))
theorem firstMax_spec {l : List Int} (hne : l ≠ []) (h0 : ∀ x ∈ l, 0 ≤ x) : ∃ h : firstMax l < l.length, l[firstMax l] = maxR l ∧ ∀ i (hi : i < firstMax l), l[i]'(by omega) ≠ maxR l := by
  have hm := maxR_mem hne h0
  have hlt : firstMax l < l.length := List.findIdx_lt_length_of_exists ⟨_, hm, by simp⟩
  refine ⟨hlt, ?_, fun i hi => ?_⟩
  · have := List.findIdx_getElem (w := hlt)
    exact of_decide_eq_true this
  · have := List.not_of_lt_findIdx hi
    exact of_decide_eq_false this
theorem pws_ne (l : List S40) : pws l ≠ [] := fun h => by
  have := pws_len l
  rw [h] at this
  simp at this
theorem pws_nonneg {l : List S40} (h : machOk l = true) : ∀ x ∈ pws l, 0 ≤ x := fun x hx => (pws_ok h x hx).1
def peak (l : List S40) : Int × Int := if machOk l = true then ((firstMax (pws l) : Int), maxR (pws l)) else (-1, -1)
theorem peak_impl (l : List S40) (k : Nat) (hk : 20000 < k) : impl_PeakPower.f k l = some (peak l) := by
  simp only [impl_PeakPower.f, mach_impl, Option.bind_some, peak]
  by_cases h : machOk l = true
  · obtain ⟨h1, h2, h3⟩ := firstMax_spec (pws_ne l) (pws_nonneg h)
    have hlen := pws_len l
    rw [if_pos h, if_pos h, powers_impl l h k hk]
    simp only [Option.bind_some]
    rw [max_ok (pws l) (pws_ne l) (pws_nonneg h) k (by omega) (by omega)]
    simp only [Option.bind_some]
    rw [index_hit (pws l) (maxR (pws l)) (firstMax (pws l)) h1 h2 h3 k (by omega) (by omega)]
    rfl
  · rw [if_neg h, if_neg h]
/-- The reference's search for the first of the greatest. -/
theorem peak_search (p : List Int) (hp : p.length = 1440) (h0 : ∀ x ∈ p, 0 ≤ x) (k : Nat) (hk : 2000 < k) : spec_PeakPower.l0 k p 0 0 = some ((firstMax p : Int), maxR p) := by
  have hne : p ≠ [] := fun h => by rw [h] at hp; simp at hp
  have L := loop_fold (fun k i (b : Int) => spec_PeakPower.l0 k p b i) 1440 0 (by omega)
    (fun i (b : Int) => 0 ≤ b ∧ b < 1440 ∧ (∀ j : Nat, j < i → p.getD j 0 ≤ p.getD b.toNat 0) ∧ (∀ j : Nat, (j : Int) < b → p.getD j 0 < p.getD b.toNat 0) ∧ (b : Int) ≤ i)
    (fun b i => if p.getD i 0 > p.getD b.toNat 0 then (i : Int) else b) (fun b => some (b, p.getD b.toNat 0))
    (fun k i b hB hi hb => by
      obtain ⟨b0, b1, _⟩ := hb
      have e : rd p b = p.getD b.toNat 0 := by simp [rd]
      simp only [spec_PeakPower.l0, rd_nat, e]
      rw [if_pos (by omega), if_pos (by omega), if_pos (by omega), if_pos b0, if_pos (by omega)]
      by_cases hh : p.getD i 0 > p.getD b.toNat 0
      · rw [if_pos hh, if_pos hh]
      · rw [if_neg hh, if_neg hh])
    (fun i b hi hb => by
      obtain ⟨b0, b1, b2, b3, b4⟩ := hb
      by_cases hh : p.getD i 0 > p.getD b.toNat 0
      · rw [if_pos hh]
        refine ⟨by omega, by omega, fun j hj => ?_, fun j hj => ?_, by omega⟩
        · rw [Int.toNat_natCast]
          by_cases e : j = i
          · subst e; omega
          · have := b2 j (by omega); omega
        · rw [Int.toNat_natCast]
          have := b2 j (by omega)
          omega
      · rw [if_neg hh]
        refine ⟨b0, b1, fun j hj => ?_, b3, by omega⟩
        by_cases e : j = i
        · subst e; omega
        · exact b2 j (by omega))
    (fun k b hB hb => by
      have e : rd p b = p.getD b.toNat 0 := by simp [rd]
      simp only [spec_PeakPower.l0, e]
      rw [if_neg (by omega), if_pos hb.1, if_pos (by omega)]) k 0 ⟨by omega, by omega, fun j hj => by omega, fun j hj => by omega, by omega⟩ (by omega)
  obtain ⟨L1, b0, b1, b2, b3, b4⟩ := L
  rw [L1]
  generalize (List.range 1440).foldl (fun (b : Int) i => if p.getD i 0 > p.getD b.toNat 0 then (i : Int) else b) 0 = b at b0 b1 b2 b3 b4
  have hb : b.toNat < p.length := by omega
  have eb : p.getD b.toNat 0 = p[b.toNat] := by simp [List.getD_eq_getElem?_getD, hb]
  have hmax : p[b.toNat] = maxR p := by
    apply Int.le_antisymm
    · exact maxR_ge (List.getElem_mem hb)
    · rw [← eb]
      apply maxR_le (by rw [eb]; exact h0 _ (List.getElem_mem hb))
      intro x hx
      obtain ⟨j, hj, rfl⟩ := List.mem_iff_getElem.1 hx
      have := b2 j (by omega)
      have ej : p.getD j 0 = p[j] := by simp [List.getD_eq_getElem?_getD, hj]
      rw [ej] at this
      exact this
  have hidx : firstMax p = b.toNat := by
    unfold firstMax
    rw [List.findIdx_eq hb]
    refine ⟨by simpa using hmax, fun j hj => ?_⟩
    have := b3 j (by omega)
    have hj2 : j < p.length := by omega
    have ej : p.getD j 0 = p[j] := by simp [List.getD_eq_getElem?_getD, hj2]
    rw [ej, eb] at this
    simp only [decide_eq_false_iff_not]
    omega
  rw [hidx, eb, hmax, Int.toNat_of_nonneg b0]
theorem peak_spec (l : List S40) (k : Nat) (hl : l.length ≤ 1000000000) (hk : l.length + 20000 < k) : spec_PeakPower.f k l = some (peak l) := by
  simp only [spec_PeakPower.f, mach_spec l k hl (by omega), Option.bind_some, peak]
  by_cases h : machOk l = true
  · rw [if_pos h, if_pos h, powers_spec l h k (by omega)]
    simp only [Option.bind_some]
    exact peak_search (pws l) (pws_len l) (pws_nonneg h) k (by omega)
  · rw [if_neg h, if_neg h]
/-- The greatest number of the window of M numbers from place i on. -/
def win (p : List Int) (M i : Nat) : Int := maxR ((p.take (i + M)).drop i)
def bsV (p : List Int) (pk w : Int) (M i : Nat) : Int := max pk (win p M i + w)
def bsStep (p : List Int) (pk w : Int) (M : Nat) (s : Int × Int) (i : Nat) : Int × Int := if s.1 < 0 ∨ bsV p pk w M i < s.2 then ((i : Int), bsV p pk w M i) else s
def bsRun (p : List Int) (w : Int) (M : Nat) : Int := ((List.range (1441 - M)).foldl (bsStep p (maxR p) w M) (-1, 0)).1
def bestStart (l : List S40) (m w : Int) : Int := if machOk l = true ∧ l.length ≠ 12 ∧ (1 ≤ m ∧ m ≤ 1440) ∧ 1 ≤ w ∧ w ≤ 10000 then bsRun (pws l) w m.toNat else -1
theorem win_mem (p : List Int) (M i : Nat) : ∀ x ∈ (p.take (i + M)).drop i, x ∈ p := fun x hx => List.mem_of_mem_take (List.mem_of_mem_drop hx)
theorem win_ok {p : List Int} (h : ∀ x ∈ p, 0 ≤ x ∧ x ≤ 120000) (M i : Nat) : 0 ≤ win p M i ∧ win p M i ≤ 120000 :=
  ⟨maxR_nonneg _, maxR_le (by omega) (fun x hx => (h x (win_mem p M i x hx)).2)⟩
theorem bs_impl (p : List Int) (hp : p.length = 1440) (h : ∀ x ∈ p, 0 ≤ x ∧ x ≤ 120000) (M : Nat) (h1 : 1 ≤ M) (h2 : M ≤ 1440) (w : Int) (w1 : 1 ≤ w) (w2 : w ≤ 10000) (k : Nat) (hk : 5000 < k) :
    impl_BestStart.l0 k (M : Int) w p (maxR p) (-1) 0 0 = some (bsRun p w M) := by
  have L := loop_fold (fun k i (s : Int × Int) => impl_BestStart.l0 k (M : Int) w p (maxR p) s.1 s.2 i) (1441 - M) 2000 (by omega) (fun _ _ => True) (bsStep p (maxR p) w M) (fun s => some s.1)
    (fun k i s hB hi _ => by
      have hw := win_ok h M i
      have e : wrap64 ((i : Int) + (M : Int)) = ((i + M : Nat) : Int) := by
        rw [w64 (by omega) (by omega)]
        omega
      have hl : ((p.take (i + M)).drop i).length = M := by simp [hp]; omega
      have hmx := max_ok ((p.take (i + M)).drop i) (fun e0 => by rw [e0] at hl; simp at hl; omega) (fun x hx => (h x (win_mem p M i x hx)).1) k (by omega) (by omega)
      simp only [impl_BestStart.l0, e]
      rw [if_pos (by omega), if_pos (by omega), if_pos (by omega), if_pos (by omega), Int.toNat_natCast, Int.toNat_natCast, hmx]
      simp only [Option.bind_some, mx_eq]
      have ew : wrap64 (maxR ((p.take (i + M)).drop i) + w) = win p M i + w := by
        unfold win at hw
        rw [w64 (by omega) (by omega)]
        rfl
      rw [ew]
      simp only [bsStep]
      by_cases c1 : s.1 < 0
      · rw [if_pos c1, if_pos (.inl c1)]
        rfl
      · rw [if_neg c1]
        by_cases c2 : bsV p (maxR p) w M i < s.2
        · rw [if_pos (by exact c2), if_pos (.inr c2)]
          rfl
        · rw [if_neg (by exact c2), if_neg (by rintro (c | c); exact c1 c; exact c2 c)])
    (fun i s hi _ => trivial)
    (fun k s hB _ => by
      simp only [impl_BestStart.l0]
      rw [w64 (n := ((1441 - M : Nat) : Int) + (M : Int)) (by omega) (by omega), if_neg (by omega)]) k (-1, 0) trivial (by omega)
  exact L.1
theorem bs_inner (p : List Int) (hp : p.length = 1440) (M i : Nat) (hi : i + M ≤ 1440) (w pk : Int) (b lo : Int) (k : Nat) : ∀ (d j : Nat) (acc : Int), j + d = i + M →
    spec_BestStart.l1 (k + d + 1) (M : Int) w p pk b lo (i : Int) acc (j : Int) = spec_BestStart.l1 (k + 1) (M : Int) w p pk b lo (i : Int) (((p.take (i + M)).drop j).foldl max acc) ((i + M : Nat) : Int) := by
  intro d
  induction d with
  | zero =>
    intro j acc hj
    have : j = i + M := by omega
    subst this
    rw [List.drop_eq_nil_of_le (by simp; omega)]
    rfl
  | succ d ih =>
    intro j acc hj
    have hjl : j < (p.take (i + M)).length := by simp [hp]; omega
    have ej : (p.take (i + M))[j] = rd p (j : Int) := by
      rw [rd_nat]
      simp [List.getD_eq_getElem?_getD, List.getElem?_eq_getElem (show j < p.length by omega)]
    have e : k + (d + 1) + 1 = (k + d + 1) + 1 := by omega
    rw [e]
    conv => lhs; unfold spec_BestStart.l1
    rw [w64 (n := (i : Int) + (M : Int)) (by omega) (by omega), if_pos (by omega), if_pos (by omega), if_pos (by omega), mx_eq, w64 (n := (j : Int) + 1) (by omega) (by omega)]
    have := ih (j + 1) (max acc (rd p (j : Int))) (by omega)
    rw [Int.natCast_add] at this
    rw [List.drop_eq_getElem_cons hjl, List.foldl_cons, ej]
    exact this
theorem bs_spec (p : List Int) (hp : p.length = 1440) (h : ∀ x ∈ p, 0 ≤ x ∧ x ≤ 120000) (M : Nat) (h1 : 1 ≤ M) (h2 : M ≤ 1440) (w : Int) (w1 : 1 ≤ w) (w2 : w ≤ 10000) (k : Nat) (hk : 3000000 < k) :
    spec_BestStart.l0 k (M : Int) w p (maxR p) (-1) 0 0 = some (bsRun p w M) := by
  have L := seg (fun k i (s : Int × Int) => spec_BestStart.l0 k (M : Int) w p (maxR p) s.1 s.2 i) (fun _ s => some s.1) (1441 - M) 0 (fun _ => M + 2) (fun _ _ => True) (bsStep p (maxR p) w M)
    (fun k i s hB hi _ => by
      have hw := win_ok h M i
      show spec_BestStart.l0 ((k + M + 1) + 1) _ _ _ _ _ _ _ = _
      conv => lhs; unfold spec_BestStart.l0
      rw [w64 (n := (i : Int) + (M : Int)) (by omega) (by omega), if_pos (by omega), bs_inner p hp M i (by omega) w (maxR p) s.1 s.2 k M i 0 (by omega)]
      conv => lhs; unfold spec_BestStart.l1
      rw [w64 (n := (i : Int) + (M : Int)) (by omega) (by omega), if_neg (by omega)]
      have ew : wrap64 (((p.take (i + M)).drop i).foldl max 0 + w) = win p M i + w := by
        unfold win maxR at hw
        rw [w64 (by omega) (by omega)]
        rfl
      rw [mx_eq, ew, w64 (n := (i : Int) + 1) (by omega) (by omega)]
      simp only [bsStep]
      by_cases c1 : s.1 < 0
      · rw [if_pos c1, if_pos (.inl c1)]
        rfl
      · rw [if_neg c1]
        by_cases c2 : bsV p (maxR p) w M i < s.2
        · rw [if_pos (by exact c2), if_pos (.inr c2)]
          rfl
        · rw [if_neg (by exact c2), if_neg (by rintro (c | c); exact c1 c; exact c2 c)])
    (fun i s hi _ => trivial)
    (fun k s hB _ => by
      simp only [spec_BestStart.l0]
      rw [w64 (n := ((1441 - M : Nat) : Int) + (M : Int)) (by omega) (by omega), if_neg (by omega)])
  have hs : ((List.range' 0 (1441 - M)).map (fun _ => M + 2)).sum ≤ 1441 * 1442 := by
    rw [List.map_const', List.sum_replicate_nat, List.length_range']
    exact Nat.mul_le_mul (by omega) (by omega)
  have := (L (1441 - M) 0 (k - 1 - ((List.range' 0 (1441 - M)).map (fun _ => M + 2)).sum) (-1, 0) (by omega) (by omega) trivial).1
  have e : k - 1 - ((List.range' 0 (1441 - M)).map (fun _ => M + 2)).sum + 1 + ((List.range' 0 (1441 - M)).map (fun _ => M + 2)).sum = k := by omega
  rw [e] at this
  simp only [bsRun, List.range_eq_range']
  exact this
theorem best_impl (l : List S40) (m w : Int) (k : Nat) (hk : 30000 < k) : impl_BestStart.f k l m w = some (bestStart l m w) := by
  obtain ⟨k, rfl⟩ : ∃ n, k = n + 1 := ⟨k - 1, by omega⟩
  simp only [impl_BestStart.f, mach_impl, in_impl, Option.bind_some, bestStart, impl_BestStart.j0]
  by_cases h : machOk l = true
  · rw [if_pos h]
    by_cases h3 : l.length = 12
    · rw [if_pos (by omega), if_pos trivial, if_neg (fun hh => hh.2.1 h3)]
    rw [if_neg (by omega)]
    by_cases h1 : 1 ≤ m ∧ m ≤ 1440
    · by_cases h2 : 1 ≤ w ∧ w ≤ 10000
      · rw [decide_eq_true h1, decide_eq_true h2, if_pos (c := true = true) rfl, if_neg (c := (!true) = true) (by simp), powers_impl l h k (by omega), if_pos (c := machOk l = true ∧ _) ⟨h, h3, h1, h2⟩]
        simp only [Option.bind_some]
        rw [max_ok (pws l) (pws_ne l) (pws_nonneg h) k (by rw [pws_len]; omega) (by rw [pws_len]; omega)]
        have := bs_impl (pws l) (pws_len l) (pws_ok h) m.toNat (by omega) (by omega) w h2.1 h2.2 k (by omega)
        rw [Int.toNat_of_nonneg (by omega)] at this
        simp only [Option.bind_some]
        exact this
      · rw [decide_eq_true h1, decide_eq_false h2, if_pos (c := true = true) rfl, if_pos (c := (!false) = true) (by simp), if_neg (c := machOk l = true ∧ _) (fun hh => h2 hh.2.2.2)]
    · rw [decide_eq_false h1, if_neg (c := false = true) (by simp), if_pos trivial, if_neg (c := machOk l = true ∧ _) (fun hh => h1 hh.2.2.1)]
  · rw [if_neg h, if_pos trivial, if_neg (c := machOk l = true ∧ _) (fun hh => h hh.1)]
theorem best_spec (l : List S40) (m w : Int) (k : Nat) (hl : l.length ≤ 1000000000) (hk : l.length + 3030000 < k) : spec_BestStart.f k l m w = some (bestStart l m w) := by
  obtain ⟨k, rfl⟩ : ∃ n, k = n + 1 := ⟨k - 1, by omega⟩
  simp only [spec_BestStart.f, mach_spec l (k + 1) hl (by omega), in_spec, Option.bind_some, bestStart, spec_BestStart.j0]
  by_cases h : machOk l = true
  · rw [if_pos h]
    by_cases h3 : l.length = 12
    · rw [if_pos (by omega), if_pos trivial, if_neg (fun hh => hh.2.1 h3)]
    rw [if_neg (by omega)]
    by_cases h1 : 1 ≤ m ∧ m ≤ 1440
    · by_cases h2 : 1 ≤ w ∧ w ≤ 10000
      · rw [decide_eq_true h1, decide_eq_true h2, if_pos (c := true = true) rfl, if_neg (c := (!true) = true) (by simp), powers_spec l h k (by omega), peak_spec l k hl (by omega), if_pos (c := machOk l = true ∧ _) ⟨h, h3, h1, h2⟩]
        simp only [Option.bind_some, peak]
        simp only [if_pos h]
        have := bs_spec (pws l) (pws_len l) (pws_ok h) m.toNat (by omega) (by omega) w h2.1 h2.2 k (by omega)
        rw [Int.toNat_of_nonneg (by omega)] at this
        exact this
      · rw [decide_eq_true h1, decide_eq_false h2, if_pos (c := true = true) rfl, if_pos (c := (!false) = true) (by simp), if_neg (c := machOk l = true ∧ _) (fun hh => h2 hh.2.2.2)]
    · rw [decide_eq_false h1, if_neg (c := false = true) (by simp), if_pos trivial, if_neg (c := machOk l = true ∧ _) (fun hh => h1 hh.2.2.1)]
  · rw [if_neg h, if_pos trivial, if_neg (c := machOk l = true ∧ _) (fun hh => h hh.1)]
def powerAt (l : List S40) (t : Int) : Int := if machOk l = true ∧ 0 ≤ t ∧ t ≤ 1439 then pw l t.toNat else -1
theorem powerAt_impl (l : List S40) (t : Int) (k : Nat) (hk : 20000 < k) : impl_PowerAt.f k l t = some (powerAt l t) := by
  simp only [impl_PowerAt.f, mach_impl, in_impl, Option.bind_some, powerAt]
  by_cases h : machOk l = true
  · by_cases h2 : 0 ≤ t ∧ t ≤ 1439
    · rw [if_pos h, decide_eq_true h2, if_pos rfl, powers_impl l h k (by omega), if_pos (c := machOk l = true ∧ _) ⟨h, h2⟩]
      simp only [Option.bind_some]
      rw [if_pos h2.1, pws_len, if_pos (by omega), rd_pws l t h2.1 (by omega)]
    · rw [if_pos h, decide_eq_false h2, if_neg (by simp), if_neg (c := machOk l = true ∧ _) (fun hh => h2 hh.2)]
  · rw [if_neg h, if_neg (c := machOk l = true ∧ _) (fun hh => h hh.1)]
theorem pw_mem (l : List S40) {t : Nat} (h : t < 1440) : pw l t ∈ pws l := List.mem_map.2 ⟨t, List.mem_range.2 h, rfl⟩
theorem mem_pws {l : List S40} {x : Int} (h : x ∈ pws l) : ∃ t, t < 1440 ∧ x = pw l t := by
  obtain ⟨t, h1, h2⟩ := List.mem_map.1 h
  exact ⟨t, List.mem_range.1 h1, h2.symm⟩
theorem pws_get (l : List S40) (t : Nat) (h : t < (pws l).length) : (pws l)[t] = pw l t := by simp [pws]
theorem win_mem_iff (l : List S40) (M s : Nat) (hs : s + M ≤ 1440) (x : Int) : x ∈ ((pws l).take (s + M)).drop s ↔ ∃ t, s ≤ t ∧ t < s + M ∧ x = pw l t := by
  constructor
  · intro hx
    obtain ⟨j, hj, rfl⟩ := List.mem_iff_getElem.1 hx
    have hlen := pws_len l
    simp at hj
    refine ⟨s + j, by omega, by omega, ?_⟩
    rw [List.getElem_drop, List.getElem_take, pws_get]
  · rintro ⟨t, h1, h2, rfl⟩
    have hlen := pws_len l
    refine List.mem_iff_getElem.2 ⟨t - s, by simp; omega, ?_⟩
    rw [List.getElem_drop, List.getElem_take, pws_get, show s + (t - s) = t by omega]
/-- The peak with one more machine of w watts over the window. -/
theorem peak_snoc {l : List S40} (h : machOk l = true) (M s : Nat) (h1 : 1 ≤ M) (hs : s + M ≤ 1440) (w : Int) (w1 : 1 ≤ w) (a b : Int) (ha : a = s) (hb : b = s + M) : maxR (pws (l ++ [⟨a, b, w⟩])) = bsV (pws l) (maxR (pws l)) w M s := by
  have hp := pws_ok h
  have hw := win_ok hp M s
  have hv : bsV (pws l) (maxR (pws l)) w M s = max (maxR (pws l)) (win (pws l) M s + w) := rfl
  have hm := maxR_nonneg (pws l)
  have hpw : ∀ t, pw (l ++ [⟨a, b, w⟩]) t = if s ≤ t ∧ t < s + M then pw l t + w else pw l t := by
    intro t
    rw [pw_snoc]
    unfold pwS
    subst ha hb
    by_cases c : s ≤ t ∧ t < s + M
    · rw [if_pos c, if_pos (by constructor <;> (show _ ; simp only; omega))]
    · rw [if_neg c, if_neg (by simp only; omega)]
  apply Int.le_antisymm
  · apply maxR_le (by omega)
    intro x hx
    obtain ⟨t, ht, rfl⟩ := mem_pws hx
    rw [hpw]
    have m1 := maxR_ge (pw_mem l ht)
    by_cases c : s ≤ t ∧ t < s + M
    · rw [if_pos c]
      have := maxR_ge ((win_mem_iff l M s hs (pw l t)).2 ⟨t, c.1, c.2, rfl⟩)
      have : pw l t ≤ win (pws l) M s := this
      omega
    · rw [if_neg c]
      omega
  · have g1 : maxR (pws l) ≤ maxR (pws (l ++ [⟨a, b, w⟩])) := by
      apply maxR_le (maxR_nonneg _)
      intro x hx
      obtain ⟨t, ht, rfl⟩ := mem_pws hx
      have := maxR_ge (pw_mem (l ++ [⟨a, b, w⟩]) ht)
      rw [hpw] at this
      split at this <;> omega
    have g2 : win (pws l) M s + w ≤ maxR (pws (l ++ [⟨a, b, w⟩])) := by
      have hne : ((pws l).take (s + M)).drop s ≠ [] := fun e => by
        have := (win_mem_iff l M s hs (pw l s)).2 ⟨s, by omega, by omega, rfl⟩
        rw [e] at this
        simp at this
      have hmem := maxR_mem hne (fun x hx => (hp x (win_mem (pws l) M s x hx)).1)
      obtain ⟨t, t1, t2, t3⟩ := (win_mem_iff l M s hs _).1 hmem
      have := maxR_ge (pw_mem (l ++ [⟨a, b, w⟩]) (show t < 1440 by omega))
      rw [hpw, if_pos ⟨t1, t2⟩] at this
      have e : win (pws l) M s = pw l t := t3
      omega
    omega
/-- The start that is found stands in the day, and no start has a lesser peak. -/
theorem bsRun_ok (p : List Int) (w : Int) (M : Nat) (h1 : 1 ≤ M) (h2 : M ≤ 1440) : 0 ≤ bsRun p w M ∧ bsRun p w M + M ≤ 1440 ∧ ∀ s : Nat, s + M ≤ 1440 → bsV p (maxR p) w M (bsRun p w M).toNat ≤ bsV p (maxR p) w M s := by
  have key : ∀ n : Nat, 1 ≤ n → 0 ≤ ((List.range n).foldl (bsStep p (maxR p) w M) (-1, 0)).1 ∧ ((List.range n).foldl (bsStep p (maxR p) w M) (-1, 0)).1 < n ∧ ((List.range n).foldl (bsStep p (maxR p) w M) (-1, 0)).2 = bsV p (maxR p) w M ((List.range n).foldl (bsStep p (maxR p) w M) (-1, 0)).1.toNat ∧ ∀ s : Nat, s < n → ((List.range n).foldl (bsStep p (maxR p) w M) (-1, 0)).2 ≤ bsV p (maxR p) w M s := by
    intro n
    induction n with
    | zero => intro h; omega
    | succ n ih =>
      intro _
      rw [List.range_succ, List.foldl_append, List.foldl_cons, List.foldl_nil]
      by_cases hn : n = 0
      · subst hn
        have : (List.range 0).foldl (bsStep p (maxR p) w M) (-1, 0) = (-1, 0) := rfl
        rw [this]
        have e : bsStep p (maxR p) w M (-1, 0) 0 = (0, bsV p (maxR p) w M 0) := by
          unfold bsStep
          rw [if_pos (.inl (by omega))]
          rfl
        rw [e]
        refine ⟨by simp, by simp, rfl, fun s hs => ?_⟩
        have : s = 0 := by omega
        subst this
        exact Int.le_refl _
      · obtain ⟨a1, a2, a3, a4⟩ := ih (by omega)
        generalize (List.range n).foldl (bsStep p (maxR p) w M) (-1, 0) = st at a1 a2 a3 a4
        unfold bsStep
        by_cases c : st.1 < 0 ∨ bsV p (maxR p) w M n < st.2
        · rw [if_pos c]
          refine ⟨by simp only; omega, by simp only; omega, by simp only [Int.toNat_natCast], fun s hs => ?_⟩
          by_cases e : s = n
          · subst e
            exact Int.le_refl _
          · have := a4 s (by omega)
            simp only
            rcases c with c | c <;> omega
        · rw [if_neg c]
          refine ⟨a1, by omega, a3, fun s hs => ?_⟩
          by_cases e : s = n
          · subst e
            have : ¬ bsV p (maxR p) w M s < st.2 := fun hh => c (.inr hh)
            omega
          · exact a4 s (by omega)
  obtain ⟨a1, a2, a3, a4⟩ := key (1441 - M) (by omega)
  unfold bsRun
  refine ⟨a1, by omega, fun s hs => ?_⟩
  rw [← a3]
  exact a4 s (by omega)
theorem energy_snoc (l : List S40) (m : S40) : energy (l ++ [m]) = energy l + m.f2 * (m.f1 - m.f0) := by simp [energy]
theorem overs_zero (p : List Int) (hp : p.length = 1440) : overs p (maxR p) = 0 := by
  have : ∀ n : Nat, n ≤ 1440 → (List.range n).foldl (fun (c : Int) i => if p.getD i 0 > maxR p then c + 1 else c) 0 = 0 := by
    intro n
    induction n with
    | zero => intro _; rfl
    | succ n ih =>
      intro hn
      rw [List.range_succ, List.foldl_append, List.foldl_cons, List.foldl_nil, ih (by omega), if_neg]
      have e : p.getD n 0 = p[n]'(by omega) := by simp [List.getD_eq_getElem?_getD, show n < p.length by omega]
      have := maxR_ge (List.getElem_mem (show n < p.length by omega))
      rw [e]
      omega
  exact this 1440 (by omega)
theorem overs_pos (p : List Int) (hp : p.length = 1440) (h0 : ∀ x ∈ p, 0 ≤ x) : overs p (maxR p - 1) > 0 := by
  have hne : p ≠ [] := fun h => by rw [h] at hp; simp at hp
  obtain ⟨j, hj, ej⟩ := List.mem_iff_getElem.1 (maxR_mem hne h0)
  have key : ∀ n : Nat, 0 ≤ (List.range n).foldl (fun (c : Int) i => if p.getD i 0 > maxR p - 1 then c + 1 else c) 0 ∧ (j < n → 0 < (List.range n).foldl (fun (c : Int) i => if p.getD i 0 > maxR p - 1 then c + 1 else c) 0) := by
    intro n
    induction n with
    | zero => exact ⟨Int.le_refl _, fun h => by omega⟩
    | succ n ih =>
      rw [List.range_succ, List.foldl_append, List.foldl_cons, List.foldl_nil]
      generalize (List.range n).foldl (fun (c : Int) i => if p.getD i 0 > maxR p - 1 then c + 1 else c) 0 = c at ih
      refine ⟨by split <;> omega, fun h => ?_⟩
      by_cases e : j = n
      · subst e
        have : p.getD j 0 = p[j] := by simp [List.getD_eq_getElem?_getD, hj]
        rw [if_pos (by rw [this, ej]; omega)]
        omega
      · have := ih.2 (by omega)
        split <;> omega
  exact (key 1440).2 (by omega)
theorem machines_ok (l : List Int) (k : Nat) (hk : l.length + 10 < k) (hl : l.length ≤ 9223372036854775807) : ∃ ms, spec_DrawMachines.f k l = some ms ∧ ms.length ≤ 5 ∧ ∀ m ∈ ms, mOk m = true ∧ m.f0 ≤ 1000 := by
  obtain ⟨h, e⟩ := new_ok l k (by omega) hl
  unfold spec_DrawMachines.f spec_l26List.f
  rw [e]
  simp only [Option.bind_some]
  obtain ⟨n, i1, h1, e1, p1, q1, _, r1⟩ := below_ok l 0 h 6 (by omega) hl
  rw [e1]
  simp only [Option.bind_some]
  have hn := q1 (by omega)
  have key : ∀ (d : Nat) (k : Nat) (ms : List S40) (j : Nat) (i h : Int), (j : Int) + d = n → d < k → ms.length = j → (∀ m ∈ ms, mOk m = true ∧ m.f0 ≤ 1000) → 0 ≤ i → ∃ ms' i' h', spec_l26List.l0 k ms n j l i h = some (ms', i', h') ∧ ms'.length ≤ 5 ∧ ∀ m ∈ ms', mOk m = true ∧ m.f0 ≤ 1000 := by
    intro d
    induction d with
    | zero =>
      intro k ms j i h hj hk hm hms hi
      obtain ⟨k, rfl⟩ : ∃ m, k = m + 1 := ⟨k - 1, by omega⟩
      simp only [spec_l26List.l0]
      rw [if_neg (by omega)]
      exact ⟨_, _, _, rfl, by omega, hms⟩
    | succ d ih =>
      intro k ms j i h hj hk hm hms hi
      obtain ⟨k, rfl⟩ : ∃ m, k = m + 1 := ⟨k - 1, by omega⟩
      simp only [spec_l26List.l0]
      rw [if_pos (by omega)]
      obtain ⟨x, i1, h1, e1, p1, q1, _, r1⟩ := below_ok l i h 250 hi hl
      rw [e1]
      simp only [Option.bind_some]
      obtain ⟨y, i2, h2, e2, p2, q2, _, r2⟩ := below_ok l i1 h1 30 r1 hl
      rw [e2]
      simp only [Option.bind_some]
      obtain ⟨z, i3, h3, e3, p3, q3, _, r3⟩ := below_ok l i2 h2 200 r2 hl
      rw [e3]
      simp only [Option.bind_some]
      have q1 := q1 (by omega)
      have q2 := q2 (by omega)
      have q3 := q3 (by omega)
      have w1 : wrap64 (4 * x) = 4 * x := w64 (by omega) (by omega)
      have w2 : wrap64 (wrap64 (4 * x + 1) + z) = 4 * x + 1 + z := by rw [w64 (n := 4 * x + 1) (by omega) (by omega), w64 (by omega) (by omega)]
      have w3 : wrap64 (100 * wrap64 (1 + y)) = 100 * (1 + y) := by rw [w64 (n := 1 + y) (by omega) (by omega), w64 (by omega) (by omega)]
      rw [if_pos (by omega), w1, w2, w3, w64 (n := (j : Int) + 1) (by omega) (by omega)]
      have := ih k (ms ++ [⟨4 * x, 4 * x + 1 + z, 100 * (1 + y)⟩]) (j + 1) i3 h3 (by omega) (by omega) (by simp [hm]) (fun m hm2 => by
        rcases List.mem_append.1 hm2 with hm2 | hm2
        · exact hms m hm2
        · rw [List.mem_singleton] at hm2
          subst hm2
          refine ⟨mOk_iff.2 ⟨⟨?_, ?_⟩, ⟨?_, ?_⟩, ?_, ?_⟩, ?_⟩ <;> (simp only; omega)) r3
      rw [Int.natCast_add] at this
      exact this
  obtain ⟨ms, i', h', e2, a1, a2⟩ := key n.toNat k [] 0 i1 h1 (by omega) (by omega) rfl (fun m hm => by simp at hm) r1
  have e2' : spec_l26List.l0 k [] n 0 l i1 h1 = some (ms, i', h') := e2
  rw [e2']
  exact ⟨ms, rfl, a1, a2⟩

end Go.Proofs.Ythnflldlljpmpaa.Lem
