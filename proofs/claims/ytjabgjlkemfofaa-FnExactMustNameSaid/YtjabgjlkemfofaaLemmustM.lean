/- Plain lemmas on the printed functions: what they compute; conditions stand in each lemma. -/
import Derived.Test.YtjabgjlkemfofaaQx0
import Derived.Test.YtjabgjlkemfofaaQx1
import Derived.Test.YtjabgjlkemfofaaQx2
import Derived.Test.YtjabgjlkemfofaaQx3
import Derived.Test.YtjabgjlkemfofaaQx4
import Derived.Test.YtjabgjlkemfofaaQx5
import Derived.Test.YtjabgjlkemfofaaQx6
import Derived.Test.YtjabgjlkemfofaaQx7
import Derived.Test.YtjabgjlkemfofaaQx8
import Derived.Test.YtjabgjlkemfofaaQx9
import Derived.Test.YtjabgjlkemfofaaQx11
import Derived.Test.YtjabgjlkemfofaaQx15
import Derived.Test.YtjabgjlkemfofaaQx17
import Derived.Test.YtjabgjlkemfofaaQx19
import Derived.Test.YtjabgjlkemfofaaQx20
import Derived.Test.YtjabgjlkemfofaaQx21
import Derived.Test.YtjabgjlkemfofaaQx22
import Derived.Test.YtjabgjlkemfofaaQx24
import Derived.Test.YtjabgjlkemfofaaQx25
import Derived.Test.YtjabgjlkemfofaaQx26
import Derived.Test.YtjabgjlkemfofaaQx27
import Derived.Test.YtjabgjlkemfofaaQx28
import Derived.Test.YtjabgjlkemfofaaQx29
import Derived.Test.YtjabgjlkemfofaaQx30
import Derived.Test.YtjabgjlkemfofaaQx31
import Derived.Test.YtjabgjlkemfofaaQx32
namespace Go.Proofs.Ytjabgjlkemfofaa.Lem
open Go.RowKit Go.Proofs.Ytjabgjlkemfofaa.Q Go.Proofs.YtjabgjlkemfofaaW.PrintWords Go.Proofs.YtjabgjlkemfofaaW.PrintLast Go.Proofs.YtjabgjlkemfofaaW.PrintMore
set_option linter.unusedVariables false
set_option linter.unusedSimpArgs false
-- LEM
theorem rd_nat (l : List Int) (i : Nat) : rd l (i : Int) = l.getD i 0 := by simp [rd]
theorem wf64 {n : Int} (h : (Lit.int .i64 n).wf = true) : -9223372036854775808 ≤ n ∧ n ≤ 9223372036854775807 := by
  simp only [Lit.wf, IntKind.min, IntKind.max, IntKind.signed, IntKind.bits, Bool.and_eq_true, decide_eq_true_eq, if_true] at h
  omega
theorem w64 {n : Int} (h : -9223372036854775808 ≤ n) (h2 : n ≤ 9223372036854775807) : wrap64 n = n := by
  unfold wrap64
  omega
theorem w64s {i : Int} {n : Nat} (h0 : 0 ≤ i) (h1 : i < (n : Int)) (hn : n ≤ 9223372036854775807) : wrap64 (i + 1) = i + 1 := by
  unfold wrap64
  omega
/-- A loop over places i .. n with a state, without a way out. -/
theorem run_fold {σ R : Type} (L : Nat → Int → σ → Option R) (n : Nat) (hn : n ≤ 9223372036854775807) (step : σ → Nat → σ) (fin : σ → Option R)
    (h1 : ∀ k (i : Nat) s, i < n → L (k + 1) i s = L k (wrap64 ((i : Int) + 1)) (step s i))
    (h2 : ∀ k s, L (k + 1) n s = fin s) :
    ∀ (d : Nat) (k : Nat) (i : Nat) (s : σ), i + d = n → d < k → L k i s = fin ((List.range' i d).foldl step s) := by
  intro d
  induction d with
  | zero =>
    intro k i s hd hk
    obtain ⟨k, rfl⟩ : ∃ m, k = m + 1 := ⟨k - 1, by omega⟩
    have : i = n := by omega
    subst this
    simpa using h2 k s
  | succ d ih =>
    intro k i s hd hk
    obtain ⟨k, rfl⟩ : ∃ m, k = m + 1 := ⟨k - 1, by omega⟩
    rw [h1 k i s (by omega), w64s (n := n) (by omega) (by omega) hn]
    have := ih k (i + 1) (step s i) (by omega) (by omega)
    rw [List.range'_succ, List.foldl_cons]
    simpa using this
/-- A loop over places i .. n with a state and a way out: 'none' of step: out with 'out'. -/
def foldX {σ R : Type} (step : σ → Nat → σ ⊕ R) (fin : σ → Option R) : List Nat → σ → Option R
  | [], s => fin s
  | i :: is, s => match step s i with
    | .inl s' => foldX step fin is s'
    | .inr r => some r
theorem run_foldX {σ R : Type} (L : Nat → Int → σ → Option R) (n : Nat) (hn : n ≤ 9223372036854775807) (step : σ → Nat → σ ⊕ R) (fin : σ → Option R)
    (h1 : ∀ k (i : Nat) s, i < n → L (k + 1) i s = match step s i with | .inl s' => L k (wrap64 ((i : Int) + 1)) s' | .inr r => some r)
    (h2 : ∀ k s, L (k + 1) n s = fin s) :
    ∀ (d : Nat) (k : Nat) (i : Nat) (s : σ), i + d = n → d < k → L k i s = foldX step fin (List.range' i d) s := by
  intro d
  induction d with
  | zero =>
    intro k i s hd hk
    obtain ⟨k, rfl⟩ : ∃ m, k = m + 1 := ⟨k - 1, by omega⟩
    have : i = n := by omega
    subst this
    simpa [foldX] using h2 k s
  | succ d ih =>
    intro k i s hd hk
    obtain ⟨k, rfl⟩ : ∃ m, k = m + 1 := ⟨k - 1, by omega⟩
    rw [h1 k i s (by omega), w64s (n := n) (by omega) (by omega) hn, List.range'_succ]
    simp only [foldX]
    cases hs : step s i with
    | inl s' => simpa using ih k (i + 1) s' (by omega) (by omega)
    | inr r => rfl
/-- A loop that only asks whether all places pass. -/
theorem run_all {R : Type} (L : Nat → Int → Option R) (n : Nat) (hn : n ≤ 9223372036854775807) (p : Nat → Bool) (no : R) (fin : Option R)
    (h1 : ∀ k (i : Nat), i < n → L (k + 1) i = if p i = true then L k (wrap64 ((i : Int) + 1)) else some no)
    (h2 : ∀ k, L (k + 1) n = fin) (k : Nat) (hk : n < k) : L k 0 = if (List.range n).all p then fin else some no := by
  have key : ∀ (d k i : Nat), i + d = n → d < k → L k i = if (List.range' i d).all p then fin else some no := by
    intro d
    induction d with
    | zero =>
      intro k i hd hk
      obtain ⟨k, rfl⟩ : ∃ m, k = m + 1 := ⟨k - 1, by omega⟩
      have : i = n := by omega
      subst this
      simpa using h2 k
    | succ d ih =>
      intro k i hd hk
      obtain ⟨k, rfl⟩ : ∃ m, k = m + 1 := ⟨k - 1, by omega⟩
      rw [h1 k i (by omega), w64s (n := n) (by omega) (by omega) hn, List.range'_succ, List.all_cons]
      by_cases hp : p i = true
      · have := ih k (i + 1) (by omega) (by omega)
        simp only [hp, if_true, Bool.true_and]
        simpa using this
      · simp [hp]
  have := key n k 0 (by omega) hk
  rw [List.range_eq_range']
  simpa using this
theorem all_range_getD {α : Type} (l : List α) (d : α) (p : α → Bool) : (List.range l.length).all (fun i => p (l.getD i d)) = l.all p := by
  rw [Bool.eq_iff_iff, List.all_eq_true, List.all_eq_true]
  constructor
  · intro h x hx
    obtain ⟨i, hi, rfl⟩ := List.mem_iff_getElem.1 hx
    have := h i (List.mem_range.2 hi)
    simpa [List.getD_eq_getElem?_getD, hi] using this
  · intro h i hi
    have hi' := List.mem_range.1 hi
    have := h l[i] (List.getElem_mem hi')
    simpa [List.getD_eq_getElem?_getD, hi'] using this
theorem foldl_range_getD {α σ : Type} (l : List α) (d : α) (f : σ → α → σ) (s : σ) : (List.range' 0 l.length).foldl (fun s i => f s (l.getD i d)) s = l.foldl f s := by
  have : l = (List.range' 0 l.length).map (fun i => l.getD i d) := by
    apply List.ext_getElem
    · simp
    · intro i h1 h2
      simp [List.getD_eq_getElem?_getD, h1]
  conv => rhs; rw [this, List.foldl_map]
/-- A loop that fills a row place by place. -/
theorem copy_loop {α : Type} (L : Nat → List α → Int → Option (List α)) (n : Nat) (hn : n ≤ 9223372036854775807) (v : Nat → α)
    (h1 : ∀ k (i : Nat) xs, i < n → xs.length = n → L (k + 1) xs i = L k (xs.set i (v i)) (wrap64 ((i : Int) + 1)))
    (h2 : ∀ k xs, xs.length = n → L (k + 1) xs n = some xs) (xs0 : List α) (hx : xs0.length = n) (k : Nat) (hk : n < k) : L k xs0 0 = some ((List.range n).map v) := by
  have key : ∀ (d k i : Nat) (xs : List α), i + d = n → d < k → xs.length = n → (∀ j, j < i → xs[j]? = some (v j)) → L k xs i = some ((List.range n).map v) := by
    intro d
    induction d with
    | zero =>
      intro k i xs hd hk hl hj
      obtain ⟨k, rfl⟩ : ∃ m, k = m + 1 := ⟨k - 1, by omega⟩
      have : i = n := by omega
      subst this
      rw [h2 k xs hl]
      congr 1
      apply List.ext_getElem?
      intro j
      by_cases h : j < i
      · rw [hj j h]
        simp [h]
      · rw [List.getElem?_eq_none (by omega), List.getElem?_eq_none (by simp; omega)]
    | succ d ih =>
      intro k i xs hd hk hl hj
      obtain ⟨k, rfl⟩ : ∃ m, k = m + 1 := ⟨k - 1, by omega⟩
      rw [h1 k i xs (by omega) hl, w64s (n := n) (by omega) (by omega) hn]
      have := ih k (i + 1) (xs.set i (v i)) (by omega) (by omega) (by simpa using hl) (fun j hj2 => by
        rw [List.getElem?_set]
        by_cases e : i = j
        · subst e
          simp; omega
        · rw [if_neg e]
          exact hj j (by omega))
      simpa using this
  exact key n k 0 xs0 (by omega) hk hx (fun j hj => by omega)
theorem map_range_getD {α β : Type} (l : List α) (d : α) (f : α → β) : (List.range l.length).map (fun i => f (l.getD i d)) = l.map f := by
  apply List.ext_getElem
  · simp
  · intro i h1 h2
    simp at h1
    simp [List.getD_eq_getElem?_getD, h1]
/-- A loop over the places 0 .. n with a state, what it calls wanting more than B rounds, and what holds of the state at each place. -/
theorem loop_fold {σ R : Type} (L : Nat → Int → σ → Option R) (n B : Nat) (hn : n ≤ 9223372036854775807) (P : Nat → σ → Prop) (step : σ → Nat → σ) (fin : σ → Option R)
    (h1 : ∀ k (i : Nat) s, B < k → i < n → P i s → L (k + 1) i s = L k (wrap64 ((i : Int) + 1)) (step s i))
    (hP : ∀ (i : Nat) s, i < n → P i s → P (i + 1) (step s i))
    (h2 : ∀ k s, B < k → P n s → L (k + 1) n s = fin s) (k : Nat) (s : σ) (h0 : P 0 s) (hk : n + B + 1 < k) :
    L k 0 s = fin ((List.range n).foldl step s) ∧ P n ((List.range n).foldl step s) := by
  have key : ∀ (d k i : Nat) (s : σ), i + d = n → d + B + 1 < k → P i s → L k i s = fin ((List.range' i d).foldl step s) ∧ P n ((List.range' i d).foldl step s) := by
    intro d
    induction d with
    | zero =>
      intro k i s hd hk hp
      obtain ⟨k, rfl⟩ : ∃ m, k = m + 1 := ⟨k - 1, by omega⟩
      have : i = n := by omega
      subst this
      exact ⟨by simpa using h2 k s (by omega) hp, by simpa using hp⟩
    | succ d ih =>
      intro k i s hd hk hp
      obtain ⟨k, rfl⟩ : ∃ m, k = m + 1 := ⟨k - 1, by omega⟩
      rw [h1 k i s (by omega) (by omega) hp, w64s (n := n) (by omega) (by omega) hn]
      have := ih k (i + 1) (step s i) (by omega) (by omega) (hP i s (by omega) hp)
      rw [List.range'_succ, List.foldl_cons]
      simpa using this
  have := key n k 0 s (by omega) (by omega) h0
  rw [List.range_eq_range']
  simpa using this
/-- The same without anything to hold of the state. -/
theorem loop_fold' {σ R : Type} (L : Nat → Int → σ → Option R) (n B : Nat) (hn : n ≤ 9223372036854775807) (step : σ → Nat → σ) (fin : σ → Option R)
    (h1 : ∀ k (i : Nat) s, B < k → i < n → L (k + 1) i s = L k (wrap64 ((i : Int) + 1)) (step s i))
    (h2 : ∀ k s, B < k → L (k + 1) n s = fin s) (k : Nat) (s : σ) (hk : n + B + 1 < k) :
    L k 0 s = fin ((List.range n).foldl step s) :=
  (loop_fold L n B hn (fun _ _ => True) step fin (fun k i s a b _ => h1 k i s a b) (fun _ _ _ _ => trivial) (fun k s a _ => h2 k s a) k s trivial hk).1
theorem foldl_range_getD' {α σ : Type} (l : List α) (d : α) (f : σ → α → σ) (s : σ) : (List.range l.length).foldl (fun s i => f s (l.getD i d)) s = l.foldl f s := by
  rw [List.range_eq_range']
  exact foldl_range_getD l d f s
/-- A loop with a way out. -/
theorem loop_foldX {σ R : Type} (L : Nat → Int → σ → Option R) (n B : Nat) (hn : n ≤ 9223372036854775807) (P : Nat → σ → Prop) (step : σ → Nat → σ ⊕ R) (fin : σ → Option R)
    (h1 : ∀ k (i : Nat) s, B < k → i < n → P i s → L (k + 1) i s = match step s i with | .inl s' => L k (wrap64 ((i : Int) + 1)) s' | .inr r => some r)
    (hP : ∀ (i : Nat) s s', i < n → P i s → step s i = .inl s' → P (i + 1) s')
    (h2 : ∀ k s, B < k → P n s → L (k + 1) n s = fin s) (k : Nat) (s : σ) (h0 : P 0 s) (hk : n + B + 1 < k) :
    L k 0 s = foldX step fin (List.range n) s := by
  have key : ∀ (d k i : Nat) (s : σ), i + d = n → d + B + 1 < k → P i s → L k i s = foldX step fin (List.range' i d) s := by
    intro d
    induction d with
    | zero =>
      intro k i s hd hk hp
      obtain ⟨k, rfl⟩ : ∃ m, k = m + 1 := ⟨k - 1, by omega⟩
      have : i = n := by omega
      subst this
      simpa [foldX] using h2 k s (by omega) hp
    | succ d ih =>
      intro k i s hd hk hp
      obtain ⟨k, rfl⟩ : ∃ m, k = m + 1 := ⟨k - 1, by omega⟩
      rw [h1 k i s (by omega) (by omega) hp, w64s (n := n) (by omega) (by omega) hn, List.range'_succ]
      simp only [foldX]
      cases hs : step s i with
      | inl s' => simpa using ih k (i + 1) s' (by omega) (by omega) (hP i s s' (by omega) hp hs)
      | inr r => rfl
  have := key n k 0 s (by omega) (by omega) h0
  rw [List.range_eq_range']
  simpa using this
/-- A loop that only asks whether all places pass. -/
theorem loop_all {R : Type} (L : Nat → Int → Option R) (n B : Nat) (hn : n ≤ 9223372036854775807) (p : Nat → Bool) (no : R) (fin : Option R)
    (h1 : ∀ k (i : Nat), B < k → i < n → L (k + 1) i = if p i = true then L k (wrap64 ((i : Int) + 1)) else some no)
    (h2 : ∀ k, B < k → L (k + 1) n = fin) (k : Nat) (hk : n + B + 1 < k) : L k 0 = if (List.range n).all p then fin else some no := by
  have key : ∀ (d k i : Nat), i + d = n → d + B + 1 < k → L k i = if (List.range' i d).all p then fin else some no := by
    intro d
    induction d with
    | zero =>
      intro k i hd hk
      obtain ⟨k, rfl⟩ : ∃ m, k = m + 1 := ⟨k - 1, by omega⟩
      have : i = n := by omega
      subst this
      simpa using h2 k (by omega)
    | succ d ih =>
      intro k i hd hk
      obtain ⟨k, rfl⟩ : ∃ m, k = m + 1 := ⟨k - 1, by omega⟩
      rw [h1 k i (by omega) (by omega), w64s (n := n) (by omega) (by omega) hn, List.range'_succ, List.all_cons]
      by_cases hp : p i = true
      · have := ih k (i + 1) (by omega) (by omega)
        simp only [hp, if_true, Bool.true_and]
        simpa using this
      · simp [hp]
  have := key n k 0 (by omega) hk
  rw [List.range_eq_range']
  simpa using this
/-- A loop from place i to n inside of a greater text: what it costs, and where it goes on. -/
theorem seg {σ R : Type} (L : Nat → Int → σ → Option R) (L' : Nat → σ → Option R) (n B : Nat) (C : Nat → Nat) (P : Nat → σ → Prop) (step : σ → Nat → σ)
    (h1 : ∀ k (i : Nat) s, B < k → i < n → P i s → L (k + C i) i s = L k ((i : Int) + 1) (step s i))
    (hP : ∀ (i : Nat) s, i < n → P i s → P (i + 1) (step s i))
    (h2 : ∀ k s, B < k → P n s → L (k + 1) n s = L' k s) :
    ∀ (d i k : Nat) (s : σ), i + d = n → B < k → P i s → L (k + 1 + ((List.range' i d).map C).sum) i s = L' k ((List.range' i d).foldl step s) ∧ P n ((List.range' i d).foldl step s) := by
  intro d
  induction d with
  | zero =>
    intro i k s hd hk hp
    have : i = n := by omega
    subst this
    exact ⟨by simpa using h2 k s hk hp, by simpa using hp⟩
  | succ d ih =>
    intro i k s hd hk hp
    rw [List.range'_succ, List.map_cons, List.sum_cons, List.foldl_cons]
    have e : k + 1 + (C i + ((List.range' (i + 1) d).map C).sum) = (k + 1 + ((List.range' (i + 1) d).map C).sum) + C i := by omega
    rw [e, h1 _ i s (by omega) (by omega) hp]
    have := ih (i + 1) k (step s i) (by omega) hk (hP i s (by omega) hp)
    simpa using this
theorem in_spec (a b c : Int) : spec_l01In.f a b c = some (decide (b ≤ a ∧ a ≤ c)) := by
  unfold spec_l01In.f
  by_cases h : b ≤ a <;> simp [h]
theorem in_impl (a b c : Int) : impl_in.f a b c = some (decide (b ≤ a ∧ a ≤ c)) := by
  unfold impl_in.f
  by_cases h : b ≤ a <;> simp [h]
def cvPart (x : S39) : S41 := ⟨x.f0, x.f1⟩
theorem toPart_ok (a0 : ByteArray) (a1 : Int) : laws_toPart.f a0 a1 = some (a0, a1) := rfl
theorem eqPart_self (a0 : ByteArray) (a1 : Int) : laws_eqPart.f a0 a1 a0 a1 = some true := by simp [laws_eqPart.f]
theorem rdLPart (l : List S39) (i : Nat) : rd_T39 l (i : Int) = l.getD i z39 := by simp [rd_T39]
theorem rdIPart (l : List S41) (i : Nat) : rd_T41 l (i : Int) = l.getD i z41 := by simp [rd_T41]
theorem toPartS_ok (l : List S39) (k : Nat) (hl : l.length ≤ 1000000000) (hk : l.length < k) : laws_toPartS.f k l = some (l.map cvPart) := by
  unfold laws_toPartS.f
  rw [if_pos (by omega), if_pos (by rw [Int.toNat_natCast]; omega)]
  have := copy_loop (fun k x3 x4 => laws_toPartS.l0 k l x3 x4) l.length (by omega) (fun i => cvPart (l.getD i z39))
    (fun k i xs hi hx => by
      simp only [laws_toPartS.l0, toPart_ok, Option.bind_some, rdLPart]
      rw [if_pos (by omega), if_pos (by omega), if_pos (by omega)]
      simp [cvPart])
    (fun k xs hx => by
      simp only [laws_toPartS.l0]
      rw [if_neg (by omega)]) (List.replicate l.length z41) (by simp) k hk
  rw [map_range_getD] at this
  simpa using this
theorem eqPartS_self (l : List S41) (k : Nat) (hl : l.length ≤ 1000000000) (hk : l.length < k) : laws_eqPartS.f k l l = some true := by
  unfold laws_eqPartS.f
  rw [if_pos rfl]
  have := run_all (fun k x5 => laws_eqPartS.l0 k l l x5) l.length (by omega) (fun _ => true) false (some true)
    (fun k i hi => by
      simp only [laws_eqPartS.l0, eqPart_self, Option.bind_some]
      rw [if_pos (by omega), if_pos (by omega), if_pos (by omega)])
    (fun k => by
      simp only [laws_eqPartS.l0]
      rw [if_neg (by omega)]) k hk
  rw [this]
  simp
theorem szPart_ok (a0 : ByteArray) (a1 r : Int) (ha : a0.size ≤ 9223372036854775807) (h0 : 0 ≤ r) (h1 : r ≤ 1048576) : ∃ q, laws_szPart.f a0 a1 r = some q ∧ (q < 0 ∨ 0 ≤ q ∧ q ≤ 1048576 ∧ a0.size ≤ 1048576) := by
  unfold laws_szPart.f
  rw [w64 (n := r - (a0.size : Int)) (by omega) (by omega)]
  by_cases h : r - (a0.size : Int) < 0
  · rw [if_pos h]
    exact ⟨_, rfl, .inl (by omega)⟩
  · rw [if_neg h]
    exact ⟨_, rfl, .inr ⟨by omega, by omega, by omega⟩⟩
theorem szPartS_ok (l : List S39) (hl : l.length ≤ 9223372036854775807) (hs : ∀ x ∈ l, x.f0.size ≤ 9223372036854775807) (k : Nat) (hk : l.length < k) : ∃ q, laws_szPartS.f k l 1048576 = some q ∧ (q < 0 ∨ l.length ≤ 1048576 ∧ ∀ x ∈ l, x.f0.size ≤ 1048576) := by
  unfold laws_szPartS.f
  rw [w64 (n := 1048576 - (l.length : Int)) (by omega) (by omega)]
  by_cases h : 1048576 - (l.length : Int) < 0
  · rw [if_pos h]
    exact ⟨_, rfl, .inl (by omega)⟩
  · rw [if_neg h]
    have key : ∀ (d k i : Nat) (r : Int), i + d = l.length → d < k → 0 ≤ r → r ≤ 1048576 → (∀ x ∈ l.take i, x.f0.size ≤ 1048576) → ∃ q, laws_szPartS.l0 k l r i = some q ∧ (q < 0 ∨ l.length ≤ 1048576 ∧ ∀ x ∈ l, x.f0.size ≤ 1048576) := by
      intro d
      induction d with
      | zero =>
        intro k i r hi hk r0 r1 ht
        obtain ⟨k, rfl⟩ : ∃ m, k = m + 1 := ⟨k - 1, by omega⟩
        simp only [laws_szPartS.l0]
        rw [if_neg (by omega)]
        have : i = l.length := by omega
        subst this
        rw [List.take_length] at ht
        exact ⟨_, rfl, .inr ⟨by omega, ht⟩⟩
      | succ d ih =>
        intro k i r hi hk r0 r1 ht
        obtain ⟨k, rfl⟩ : ∃ m, k = m + 1 := ⟨k - 1, by omega⟩
        have hi2 : i < l.length := by omega
        simp only [laws_szPartS.l0]
        have er : rd_T39 l (i : Int) = l[i] := by simp [rd_T39, List.getD_eq_getElem?_getD, hi2]
        obtain ⟨q, eq1, hq⟩ := szPart_ok (l[i].f0) (l[i].f1) r (hs _ (List.getElem_mem hi2)) r0 r1
        rw [if_pos (by omega), if_pos (by omega), er, eq1]
        simp only [Option.bind_some]
        by_cases h2 : q < 0
        · rw [if_pos h2]
          exact ⟨_, rfl, .inl (by omega)⟩
        · rw [if_neg h2, w64s (n := l.length) (by omega) (by omega) hl]
          obtain ⟨q0, q1, q2⟩ := hq.resolve_left h2
          exact ih k (i + 1) q (by omega) (by omega) q0 q1 (fun x hx => by
            rw [List.take_succ_eq_append_getElem hi2] at hx
            rcases List.mem_append.1 hx with hx | hx
            · exact ht x hx
            · rw [List.mem_singleton] at hx
              rw [hx]
              exact q2)
    exact key l.length k 0 _ (by omega) hk (by omega) (by omega) (fun x hx => by simp at hx)
/-- A name of one to ten small letters. -/
def nmB (b : ByteArray) : Bool := (List.range b.size).all (fun i => decide (97 ≤ bt b i ∧ bt b i ≤ 122)) && decide (1 ≤ (b.size : Int) ∧ (b.size : Int) ≤ 10)
theorem nm_spec (b : ByteArray) (hb : b.size ≤ 9223372036854775807) (k : Nat) (hk : b.size < k) : spec_l28Name.f k b = some (nmB b) := by
  unfold spec_l28Name.f nmB
  have := run_all (fun k i => spec_l28Name.l0 k b i) b.size hb (fun i => decide (97 ≤ bt b i ∧ bt b i ≤ 122)) false (some (decide (1 ≤ (b.size : Int) ∧ (b.size : Int) ≤ 10)))
    (fun k i hi => by
      simp only [spec_l28Name.l0]
      rw [if_pos (by omega), if_pos (by omega)]
      by_cases h1 : bt b i < 97
      · rw [if_pos h1, if_neg (by simp; omega)]
      · rw [if_neg h1]
        by_cases h2 : bt b i > 122
        · rw [if_pos h2, if_neg (by simp; omega)]
        · rw [if_neg h2, if_pos (by simp; omega)])
    (fun k => by
      simp only [spec_l28Name.l0]
      rw [if_neg (by omega), in_spec]
      rfl) k hk
  exact this.trans (by cases (List.range b.size).all _ <;> simp)
theorem nm_impl (b : ByteArray) (hb : b.size ≤ 9223372036854775807) (k : Nat) (hk : b.size < k) : impl_nameOk.f k b = some (nmB b) := by
  unfold impl_nameOk.f nmB
  have := run_all (fun k i => impl_nameOk.l0 k b b.size i) b.size hb (fun i => decide (97 ≤ bt b i ∧ bt b i ≤ 122)) false (some (decide (1 ≤ (b.size : Int) ∧ (b.size : Int) ≤ 10)))
    (fun k i hi => by
      simp only [impl_nameOk.l0]
      rw [if_pos (by omega), if_pos (by omega), if_pos (by omega)]
      by_cases h1 : bt b i < 97
      · rw [if_pos h1, if_neg (by simp; omega)]
      · rw [if_neg h1]
        by_cases h2 : bt b i > 122
        · rw [if_pos h2, if_neg (by simp; omega)]
        · rw [if_neg h2, if_pos (by simp; omega)])
    (fun k => by
      simp only [impl_nameOk.l0]
      rw [if_neg (by omega), in_impl]
      rfl) k hk
  exact this.trans (by cases (List.range b.size).all _ <;> simp)
theorem contains_ok (l : List ByteArray) (v : ByteArray) (hl : l.length ≤ 1000000000) (k : Nat) (hk : l.length < k) : slices_Contains_string_string.f k l v = some (l.any (fun x => decide (v.toList = x.toList))) := by
  unfold slices_Contains_string_string.f slices_Index_string_string.f
  have key : ∀ (d k i : Nat), i + d = l.length → d < k → ∃ r, slices_Index_string_string.l0 k l v l.length i = some r ∧ decide (r ≥ 0) = (l.drop i).any (fun x => decide (v.toList = x.toList)) := by
    intro d
    induction d with
    | zero =>
      intro k i hi hk
      obtain ⟨k, rfl⟩ : ∃ m, k = m + 1 := ⟨k - 1, by omega⟩
      simp only [slices_Index_string_string.l0]
      rw [if_neg (by omega), List.drop_eq_nil_of_le (by omega)]
      exact ⟨_, rfl, rfl⟩
    | succ d ih =>
      intro k i hi hk
      obtain ⟨k, rfl⟩ : ∃ m, k = m + 1 := ⟨k - 1, by omega⟩
      have hi2 : i < l.length := by omega
      have er : rdOf ByteArray.empty l (i : Int) = l[i] := by simp [rdOf, List.getD_eq_getElem?_getD, hi2]
      simp only [slices_Index_string_string.l0]
      rw [if_pos (by omega), if_pos (by omega), if_pos (by omega), er, List.drop_eq_getElem_cons hi2, List.any_cons]
      by_cases h : v.toList = l[i].toList
      · rw [if_pos h]
        exact ⟨_, rfl, by simp [h]⟩
      · rw [if_neg h, w64s (n := l.length) (by omega) (by omega) (by omega)]
        obtain ⟨r, er, hr⟩ := ih k (i + 1) (by omega) (by omega)
        exact ⟨r, er, by rw [hr]; simp [h]⟩
  obtain ⟨r, er, hr⟩ := key l.length k 0 (by omega) hk
  have er' : slices_Index_string_string.l0 k l v l.length 0 = some r := er
  rw [er']
  simp only [Option.bind_some, hr]
  rfl
/-- Place i's name is a name, and none before it is the same. -/
def okN (l : List ByteArray) (i : Nat) : Bool := nmB (l.getD i ByteArray.empty) && !(l.take i).any (fun x => decide ((l.getD i ByteArray.empty).toList = x.toList))
def namesB (l : List ByteArray) : Bool := (List.range l.length).all (okN l) && decide (1 ≤ (l.length : Int) ∧ (l.length : Int) ≤ 12)
theorem names_impl (l : List ByteArray) (hl : l.length ≤ 1000000000) (B : Nat) (hB : ∀ x ∈ l, x.size ≤ B) (hB2 : B ≤ 1000000000) (k : Nat) (hk : l.length + (l.length + B) + 1 < k) : impl_namesOk.f k l = some (namesB l) := by
  unfold impl_namesOk.f namesB
  have := loop_all (fun k i => impl_namesOk.l0 k l l l.length i) l.length (l.length + B) (by omega) (okN l) false (some (decide (1 ≤ (l.length : Int) ∧ (l.length : Int) ≤ 12)))
    (fun k i hB1 hi => by
      have er : rdOf ByteArray.empty l (i : Int) = l.getD i ByteArray.empty := by simp [rdOf]
      have eg : l.getD i ByteArray.empty = l[i] := by simp [List.getD_eq_getElem?_getD, hi]
      have hb : (l.getD i ByteArray.empty).size ≤ B := by rw [eg]; exact hB _ (List.getElem_mem hi)
      simp only [impl_namesOk.l0]
      rw [if_pos (by omega), if_pos (by omega), if_pos (by omega), er, nm_impl _ (by omega) k (by omega)]
      simp only [Option.bind_some]
      by_cases h : nmB (l.getD i ByteArray.empty) = true
      · rw [if_pos h, if_pos (by omega), Int.toNat_natCast, contains_ok _ _ (by simp; omega) k (by simp; omega)]
        simp only [Option.bind_some]
        have eo : okN l i = !(l.take i).any (fun x => decide ((l.getD i ByteArray.empty).toList = x.toList)) := by
          unfold okN
          rw [h, Bool.true_and]
        rw [eo]
        cases hc : (l.take i).any (fun x => decide ((l.getD i ByteArray.empty).toList = x.toList)) <;> simp
      · rw [if_neg h, if_neg (fun hh => h (by unfold okN at hh; rw [Bool.and_eq_true] at hh; exact hh.1))])
    (fun k hB1 => by
      simp only [impl_namesOk.l0]
      rw [if_neg (by omega), in_impl]
      rfl) k hk
  exact this.trans (by cases (List.range l.length).all _ <;> simp)
theorem namesOf_ok (l : List S41) (hl : l.length ≤ 1000000000) (k : Nat) (hk : l.length < k) : impl_namesOf.f k l = some (l.map S41.f0) := by
  unfold impl_namesOf.f
  have key : ∀ (d k i : Nat), i + d = l.length → d < k → impl_namesOf.l0 k ((l.take i).map S41.f0) l l.length i = some (l.map S41.f0) := by
    intro d
    induction d with
    | zero =>
      intro k i hi hk
      obtain ⟨k, rfl⟩ : ∃ m, k = m + 1 := ⟨k - 1, by omega⟩
      simp only [impl_namesOf.l0]
      rw [if_neg (by omega), List.take_of_length_le (by omega)]
    | succ d ih =>
      intro k i hi hk
      obtain ⟨k, rfl⟩ : ∃ m, k = m + 1 := ⟨k - 1, by omega⟩
      have hi2 : i < l.length := by omega
      have er : rd_T41 l (i : Int) = l[i] := by simp [rd_T41, List.getD_eq_getElem?_getD, hi2]
      simp only [impl_namesOf.l0]
      rw [if_pos (by omega), if_pos (by omega), if_pos (by omega), if_pos (by simp; omega), er, w64s (n := l.length) (by omega) (by omega) (by omega)]
      have := ih k (i + 1) (by omega) (by omega)
      rw [List.take_succ_eq_append_getElem hi2, List.map_append, Int.natCast_add] at this
      exact this
  exact key l.length k 0 (by omega) hk
def amB (p : S41) : Bool := decide (1 ≤ p.f1 ∧ p.f1 ≤ 100000)
def partsOk (l : List S41) : Bool := namesB (l.map S41.f0) && l.all amB
theorem parts_impl (l : List S41) (hl : l.length ≤ 1000000000) (B : Nat) (hB : ∀ x ∈ l, x.f0.size ≤ B) (hB2 : B ≤ 1000000000) (k : Nat) (hk : l.length + (l.length + B) + 1 < k) : impl_PartsOk.f k l = some (partsOk l) := by
  unfold impl_PartsOk.f partsOk
  rw [namesOf_ok l hl k (by omega)]
  simp only [Option.bind_some]
  rw [names_impl (l.map S41.f0) (by simpa using hl) B (fun x hx => by
    obtain ⟨y, hy, rfl⟩ := List.mem_map.1 hx
    exact hB y hy) hB2 k (by simpa using hk)]
  simp only [Option.bind_some]
  have hp : ∀ p : S41, impl_Part_29.pred p = !amB p := by
    intro p
    unfold impl_Part_29.pred impl_PartsOk_1.f amB
    rw [in_impl]
    cases decide (1 ≤ p.f1 ∧ p.f1 ≤ 100000) <;> simp
  have ha : l.any impl_Part_29.pred = !l.all amB := by
    rw [List.not_all_eq_any_not]
    congr 1
    exact funext hp
  unfold impl_Part_29.f
  rw [ha]
  cases namesB (l.map S41.f0) <;> simp
theorem parts_spec (l : List S41) (hl : l.length ≤ 1000000000) (B : Nat) (hB : ∀ x ∈ l, x.f0.size ≤ B) (hB2 : B ≤ 1000000000) (k : Nat) (hk : (l.length + 1) * (l.length + 4) + B < k) : spec_PartsOk.f k l = some (partsOk l) := by
  unfold spec_PartsOk.f
  have inner : ∀ (i : Nat) (hi : i < l.length) (d k j : Nat), j + d = i → d < k → spec_PartsOk.l1 k l i j = if ((l.take i).drop j).any (fun x => decide (l[i].f0.toList = x.f0.toList)) = true then some false else spec_PartsOk.l0 (k - d - 1) l ((i + 1 : Nat) : Int) := by
    intro i hi d
    induction d with
    | zero =>
      intro k j hj hk
      obtain ⟨k, rfl⟩ : ∃ m, k = m + 1 := ⟨k - 1, by omega⟩
      rw [List.drop_eq_nil_of_le (by simp; omega)]
      rw [spec_PartsOk.l1, if_neg (by omega), w64s (n := l.length) (by omega) (by omega) (by omega), if_neg (by simp)]
      rfl
    | succ d ih =>
      intro k j hj hk
      obtain ⟨k, rfl⟩ : ∃ m, k = m + 1 := ⟨k - 1, by omega⟩
      have hj2 : j < (l.take i).length := by simp; omega
      have er : rd_T41 l (i : Int) = l[i] := by simp [rd_T41, List.getD_eq_getElem?_getD, hi]
      have er2 : rd_T41 l (j : Int) = l[j]'(by omega) := by simp [rd_T41, List.getD_eq_getElem?_getD, show j < l.length by omega]
      rw [spec_PartsOk.l1, if_pos (by omega), if_pos (by omega), if_pos (by omega), if_pos (by omega), if_pos (by omega), er, er2, List.drop_eq_getElem_cons hj2, List.any_cons, List.getElem_take]
      by_cases h : (l[j]'(by omega)).f0.toList = l[i].f0.toList
      · rw [if_pos h, if_pos (by simp [h])]
      · rw [if_neg h, w64s (n := l.length) (by omega) (by omega) (by omega)]
        have := ih k (j + 1) (by omega) (by omega)
        rw [Int.natCast_add] at this
        have e : k + 1 - (d + 1) - 1 = k - d - 1 := by omega
        have h' : ¬ l[i].f0.toList = (l[j]'(by omega)).f0.toList := fun hh => h hh.symm
        rw [e, decide_eq_false h', Bool.false_or]
        exact this
  have key : ∀ (d k i : Nat), i + d = l.length → (d + 1) * (l.length + 4) + B < k → spec_PartsOk.l0 k l i = some ((List.range' i d).all (fun i => okN (l.map S41.f0) i && amB (l.getD i z41)) && decide (1 ≤ (l.length : Int) ∧ (l.length : Int) ≤ 12)) := by
    intro d
    induction d with
    | zero =>
      intro k i hi hk
      obtain ⟨k, rfl⟩ : ∃ m, k = m + 1 := ⟨k - 1, by omega⟩
      rw [spec_PartsOk.l0, if_neg (by omega), in_spec]
      simp
    | succ d ih =>
      intro k i hi hk
      have hmul : (d + 1 + 1) * (l.length + 4) = (d + 1) * (l.length + 4) + (l.length + 4) := Nat.succ_mul _ _
      obtain ⟨k, rfl⟩ : ∃ m, k = m + 1 + 1 := ⟨k - 2, by omega⟩
      have hi2 : i < l.length := by omega
      have er : rd_T41 l (i : Int) = l[i] := by simp [rd_T41, List.getD_eq_getElem?_getD, hi2]
      have eg : l.getD i z41 = l[i] := by simp [List.getD_eq_getElem?_getD, hi2]
      have en : (l.map S41.f0).getD i ByteArray.empty = l[i].f0 := by simp [List.getD_eq_getElem?_getD, hi2]
      have hb := hB _ (List.getElem_mem hi2)
      rw [spec_PartsOk.l0, if_pos (by omega), if_pos (by omega), er, nm_spec _ (by omega) (k + 1) (by omega), List.range'_succ, List.all_cons, eg]
      simp only [Option.bind_some, okN, en]
      have ht : ((l.map S41.f0).take i).any (fun x => decide (l[i].f0.toList = x.toList)) = (l.take i).any (fun x => decide (l[i].f0.toList = x.f0.toList)) := by
        rw [← List.map_take, List.any_map]
        rfl
      rw [ht]
      by_cases h : nmB l[i].f0 = true
      · rw [if_pos h, in_spec]
        simp only [Option.bind_some]
        by_cases h2 : 1 ≤ l[i].f1 ∧ l[i].f1 ≤ 100000
        · have ha : amB l[i] = true := decide_eq_true h2
          rw [decide_eq_true h2, spec_PartsOk.j1, if_neg (by simp)]
          have := inner i hi2 i k 0 (by omega) (by omega)
          rw [List.drop_zero] at this
          have t2 : spec_PartsOk.l1 k l (i : Int) 0 = _ := this
          rw [t2]
          rw [ha, h]
          by_cases h3 : (l.take i).any (fun x => decide (l[i].f0.toList = x.f0.toList)) = true
          · rw [if_pos h3, h3]
            simp
          · rw [if_neg h3, ih (k - i - 1) (i + 1) (by omega) (by omega)]
            rw [Bool.not_eq_true] at h3
            rw [h3]
            simp [okN]
        · have ha : amB l[i] = false := decide_eq_false h2
          rw [decide_eq_false h2, spec_PartsOk.j1, if_pos (by simp), ha]
          simp
      · rw [if_neg h, spec_PartsOk.j1, if_pos rfl]
        rw [Bool.not_eq_true] at h
        rw [h]
        simp
  have := key l.length k 0 (by omega) hk
  have e0 : spec_PartsOk.l0 k l 0 = _ := this
  rw [e0, ← List.range_eq_range']
  unfold partsOk namesB
  rw [List.length_map, ← all_range_getD l z41 amB]
  congr 1
  rw [Bool.eq_iff_iff]
  simp only [Bool.and_eq_true, List.all_eq_true]
  constructor
  · rintro ⟨a, b⟩
    exact ⟨⟨fun x hx => (a x hx).1, b⟩, fun x hx => (a x hx).2⟩
  · rintro ⟨⟨a, b⟩, c⟩
    exact ⟨fun x hx => ⟨a x hx, c x hx⟩, b⟩
theorem strOfNums_size (xs : List Int) : (strOfNums xs).size = xs.length := by
  unfold strOfNums
  simp [ByteArray.size]
/-- The text that a mark writes. -/
theorem mt_loop : ∀ (m : Nat) (x : Int) (s : ByteArray), 0 ≤ x → x < (10 : Int) ^ m → x ≤ 9223372036854775807 → s.size + m ≤ 100000 → ∃ r, ∀ k, m < k → laws_markText.l0 k x s = some r := by
  intro m
  induction m with
  | zero =>
    intro x s h0 h1 _ hs
    have hx : x = 0 := by simp at h1; omega
    subst hx
    refine ⟨(⟨#[109]⟩ : ByteArray) ++ s, fun k hk => ?_⟩
    obtain ⟨k, rfl⟩ : ∃ m, k = m + 1 := ⟨k - 1, by omega⟩
    rw [laws_markText.l0, if_neg (by decide), if_pos (by omega)]
  | succ m ih =>
    intro x s h0 h1 h2 hs
    by_cases hx : x > 0
    · have hp : (10 : Int) ^ (m + 1) = 10 * (10 : Int) ^ m := by rw [Int.pow_succ, Int.mul_comm]
      rw [hp] at h1
      have hd : Int.tdiv x 10 = x / 10 := Int.tdiv_eq_ediv_of_nonneg h0
      have hsz := strOfNums_size ([(wrap64 (48 + (Int.tmod x 10))) % 256] : List Int)
      simp only [List.length_cons, List.length_nil] at hsz
      obtain ⟨r, hr⟩ := ih (x / 10) ((strOfNums ([(wrap64 (48 + (Int.tmod x 10))) % 256] : List Int)) ++ s) (by omega) (by omega) (by omega) (by rw [ByteArray.size_append]; omega)
      refine ⟨r, fun k hk => ?_⟩
      obtain ⟨k, rfl⟩ : ∃ m, k = m + 1 := ⟨k - 1, by omega⟩
      rw [laws_markText.l0, if_pos hx]
      simp only [Option.bind_some]
      rw [if_pos (by omega), hd, w64 (n := x / 10) (by omega) (by omega)]
      exact hr k (by omega)
    · have hx0 : x = 0 := by omega
      subst hx0
      refine ⟨(⟨#[109]⟩ : ByteArray) ++ s, fun k hk => ?_⟩
      obtain ⟨k, rfl⟩ : ∃ m, k = m + 1 := ⟨k - 1, by omega⟩
      rw [laws_markText.l0, if_neg (by decide), if_pos (by omega)]
theorem mt_ex (x : Int) (h0 : 0 ≤ x) (h1 : x ≤ 1000000000000000000) : ∃ r, ∀ k, 30 < k → laws_markText.f k x = some r := by
  unfold laws_markText.f
  by_cases h : x ≤ 0
  · exact ⟨_, fun k _ => by rw [if_pos h]⟩
  · obtain ⟨r, hr⟩ := mt_loop 30 x (⟨#[]⟩ : ByteArray) h0 (by
      have : (10 : Int) ^ 30 = 1000000000000000000000000000000 := by decide
      omega) (by omega) (by decide)
    exact ⟨r, fun k hk => by rw [if_neg h]; exact hr k hk⟩
def mtT (x : Int) : ByteArray := (laws_markText.f 31 x).getD ByteArray.empty
theorem mtT_ok (x : Int) (h0 : 0 ≤ x) (h1 : x ≤ 1000000000000000000) (k : Nat) (hk : 30 < k) : laws_markText.f k x = some (mtT x) := by
  obtain ⟨r, hr⟩ := mt_ex x h0 h1
  rw [hr k hk]
  unfold mtT
  rw [hr 31 (by omega)]
  rfl
/-- The mark of place i. -/
def mkP (i : Nat) : S41 := ⟨mtT (2 * (i : Int) + 1), 2 * (i : Int) + 2⟩
def marksP (n : Nat) : List S41 := (List.range n).map mkP
theorem markPartS_ok (l : List S41) (k : Nat) (hl : l.length ≤ 1000000000) (hk : l.length + 31 < k) : laws_markPartS.f k l 1 = some (2 * (l.length : Int) + 1, marksP l.length) := by
  unfold laws_markPartS.f
  have key : ∀ (d k i : Nat) (xs : List S41), i + d = l.length → d + 31 < k → xs.length = l.length → (∀ j, j < i → xs[j]? = some (mkP j)) → laws_markPartS.l0 k xs (2 * (i : Int) + 1) i = some (2 * (l.length : Int) + 1, marksP l.length) := by
    intro d
    induction d with
    | zero =>
      intro k i xs hd hk hx hj
      obtain ⟨k, rfl⟩ : ∃ m, k = m + 1 := ⟨k - 1, by omega⟩
      simp only [laws_markPartS.l0]
      rw [if_neg (by omega)]
      have : xs = marksP l.length := by
        apply List.ext_getElem?
        intro j
        by_cases h : j < i
        · rw [hj j h]
          have : j < l.length := by omega
          simp [marksP, this]
        · rw [List.getElem?_eq_none (by omega), List.getElem?_eq_none (by simp [marksP]; omega)]
      rw [this]
      congr 2
      omega
    | succ d ih =>
      intro k i xs hd hk hx hj
      obtain ⟨k, rfl⟩ : ∃ m, k = m + 1 := ⟨k - 1, by omega⟩
      simp only [laws_markPartS.l0]
      rw [if_pos (by omega), mtT_ok _ (by omega) (by omega) k (by omega)]
      simp only [Option.bind_some]
      rw [if_pos (by omega), w64 (n := 2 * (i : Int) + 1 + 1) (by omega) (by omega), w64 (n := 2 * (i : Int) + 1 + 1 + 1) (by omega) (by omega), w64 (n := (i : Int) + 1) (by omega) (by omega), Int.toNat_natCast]
      have e1 : 2 * (i : Int) + 1 + 1 + 1 = 2 * ((i + 1 : Nat) : Int) + 1 := by omega
      have e2 : (i : Int) + 1 = ((i + 1 : Nat) : Int) := by omega
      rw [e1, e2]
      refine ih k (i + 1) _ (by omega) (by omega) (by simpa using hx) (fun j hj2 => ?_)
      rw [List.getElem?_set, List.length_set]
      by_cases e : i = j
      · subst e
        rw [if_pos rfl, if_pos (by omega)]
        have er : (rd_T41 (xs.set i (⟨mtT (2 * (i : Int) + 1), (rd_T41 xs i).f1⟩ : S41)) (i : Int)).f0 = mtT (2 * (i : Int) + 1) := by
          simp [rd_T41, List.getD_eq_getElem?_getD, show i < xs.length by omega]
        rw [er]
        unfold mkP
        congr 2
      · rw [if_neg e, List.getElem?_set, if_neg e]
        exact hj j (by omega)
  have := key l.length k 0 l (by omega) hk rfl (fun j hj => by omega)
  simpa using this
theorem heldPartS_ok (n : Nat) (k : Nat) (hl : n ≤ 1000000000) (hk : n + 31 < k) : laws_heldPartS.f k (marksP n) 1 = some (2 * (n : Int) + 1) := by
  unfold laws_heldPartS.f
  have hlen : (marksP n).length = n := by simp [marksP]
  have key : ∀ (d k i : Nat), i + d = n → d + 31 < k → laws_heldPartS.l0 k (marksP n) (2 * (i : Int) + 1) i = some (2 * (n : Int) + 1) := by
    intro d
    induction d with
    | zero =>
      intro k i hd hk
      obtain ⟨k, rfl⟩ : ∃ m, k = m + 1 := ⟨k - 1, by omega⟩
      simp only [laws_heldPartS.l0]
      rw [if_neg (by omega)]
      congr 2
      omega
    | succ d ih =>
      intro k i hd hk
      obtain ⟨k, rfl⟩ : ∃ m, k = m + 1 := ⟨k - 1, by omega⟩
      have e : rd_T41 (marksP n) (i : Int) = mkP i := by
        have : i < n := by omega
        simp [rd_T41, marksP, List.getD_eq_getElem?_getD, this]
      simp only [laws_heldPartS.l0]
      rw [if_pos (by omega), if_pos (by omega), mtT_ok _ (by omega) (by omega) k (by omega), e]
      simp only [Option.bind_some]
      have e1 : (mkP i).f0 = mtT (2 * (i : Int) + 1) := rfl
      have e2 : (mkP i).f1 = 2 * (i : Int) + 2 := rfl
      rw [e1, e2, if_pos rfl, w64 (n := 2 * (i : Int) + 1 + 1) (by omega) (by omega), if_pos (by omega), w64 (n := 2 * (i : Int) + 1 + 1 + 1) (by omega) (by omega), w64 (n := (i : Int) + 1) (by omega) (by omega)]
      have e3 : 2 * (i : Int) + 1 + 1 + 1 = 2 * ((i + 1 : Nat) : Int) + 1 := by omega
      have e4 : (i : Int) + 1 = ((i + 1 : Nat) : Int) := by omega
      rw [e3, e4]
      exact ih k (i + 1) (by omega) (by omega)
  have := key n k 0 (by omega) hk
  simpa using this
/-- Part x comes ahead of part y. -/
def ahead (x y : S41) : Bool := decide (y.f1 < x.f1) || (decide (y.f1 = x.f1) && Op.bytesLess x.f0.toList y.f0.toList)
/-- x put into a row (told from its end). -/
def insR (x : S41) : List S41 → List S41
  | [] => [x]
  | y :: ys => if ahead x y = true then y :: insR x ys else x :: y :: ys
def insE (x : S41) (l : List S41) : List S41 := (insR x l.reverse).reverse
def sortL (l : List S41) : List S41 := l.foldl (fun s x => insE x s) []
theorem insR_length (x : S41) : ∀ l, (insR x l).length = l.length + 1
  | [] => rfl
  | y :: ys => by
    unfold insR
    split
    · rw [List.length_cons, insR_length x ys]; rfl
    · rfl
theorem insE_length (x : S41) (l : List S41) : (insE x l).length = l.length + 1 := by
  unfold insE
  rw [List.length_reverse, insR_length, List.length_reverse]
theorem insE_nil (x : S41) : insE x [] = [x] := rfl
theorem insR_cons (x y : S41) (ys : List S41) : insR x (y :: ys) = if ahead x y = true then y :: insR x ys else x :: y :: ys := rfl
theorem insE_snoc (x y : S41) (l : List S41) : insE x (l ++ [y]) = if ahead x y = true then insE x l ++ [y] else l ++ [y, x] := by
  unfold insE
  rw [List.reverse_append, List.reverse_singleton, List.singleton_append]
  by_cases h : ahead x y = true
  · rw [if_pos h, insR_cons, if_pos h, List.reverse_cons]
  · rw [if_neg h, insR_cons, if_neg h]
    simp
/-! ### the program's sort -/
theorem toList_data (b : ByteArray) : b.toList = b.data.toList := Go.Lib.toList_data b
theorem cmpBytes_lt : ∀ (a b : List UInt8), (Lib.compareBytes a b < 0 ↔ Op.bytesLess a b = true)
  | [], [] => by simp [Lib.compareBytes, Op.bytesLess]
  | [], _ :: _ => by simp [Lib.compareBytes, Op.bytesLess]
  | _ :: _, [] => by simp [Lib.compareBytes, Op.bytesLess]
  | x :: a, y :: b => by
    have ih := cmpBytes_lt a b
    unfold Lib.compareBytes Op.bytesLess
    by_cases h : x < y
    · simp [h]
    · by_cases h2 : y < x
      · have hne : ¬ x = y := fun e => by subst e; exact UInt8.lt_irrefl _ h2
        simp [h, h2, hne]
      · have he : x = y := by
          rcases UInt8.lt_or_lt_of_ne (a := x) (b := y) with h3
          apply Classical.byContradiction
          intro hn
          rcases UInt8.lt_or_lt_of_ne hn with h4 | h4
          · exact h h4
          · exact h2 h4
        subst he
        simp [h, ih]
theorem ltOf_cmp (x y : S41) (hx : amB x = true) (hy : amB y = true) : ltOf cmpP x y = ahead x y := by
  have h1 := of_decide_eq_true hx
  have h2 := of_decide_eq_true hy
  unfold ltOf cmpP ahead
  rw [w64 (n := y.f1 - x.f1) (by omega) (by omega), toList_data, toList_data]
  by_cases e : y.f1 - x.f1 = 0
  · have e2 : y.f1 = x.f1 := by omega
    rw [if_pos e, decide_eq_false (by omega : ¬ y.f1 < x.f1), decide_eq_true e2, Bool.false_or, Bool.true_and]
    have := cmpBytes_lt x.f0.data.toList y.f0.data.toList
    cases hb : Op.bytesLess x.f0.data.toList y.f0.data.toList with
    | true => exact decide_eq_true (this.2 hb)
    | false => exact decide_eq_false (fun h => by rw [this.1 h] at hb; cases hb)
  · rw [if_neg e, decide_eq_false (by omega : ¬ y.f1 = x.f1), Bool.false_and, Bool.or_false]
    by_cases h : y.f1 < x.f1
    · rw [decide_eq_true h, decide_eq_true (by omega)]
    · rw [decide_eq_false h, decide_eq_false (by omega)]
theorem arr_get (A B : List S41) (x : S41) : ((A ++ x :: B).toArray)[A.length]! = x := by
  rw [getElem!_pos _ _ (by simp)]
  simp
theorem arr_get' (A B : List S41) (x : S41) (n : Nat) (h : n = A.length) : ((A ++ x :: B).toArray)[n]! = x := by
  subst h
  exact arr_get A B x
theorem insInner_ok (x : S41) (hx : amB x = true) : ∀ (n : Nat) (A B : List S41), A.length = n → (∀ y ∈ A, amB y = true) → Go.Sort.insInner (ltOf cmpP) 0 n (A ++ x :: B).toArray = (insE x A ++ B).toArray := by
  intro n
  induction n with
  | zero =>
    intro A B hA _
    have : A = [] := List.length_eq_zero_iff.1 hA
    subst this
    rfl
  | succ n ih =>
    intro A B hA hy
    have hne : A ≠ [] := fun h => by rw [h] at hA; cases hA
    obtain ⟨A', y, rfl⟩ : ∃ A' y, A = A' ++ [y] := ⟨A.dropLast, A.getLast hne, (List.dropLast_concat_getLast hne).symm⟩
    have hA' : A'.length = n := by rw [List.length_append] at hA; simpa using hA
    have hyy := hy y (by simp)
    have e1 : (A' ++ [y] ++ x :: B).toArray[n + 1]! = x := arr_get' _ _ _ _ (by rw [List.length_append, hA']; rfl)
    have eq : A' ++ [y] ++ x :: B = A' ++ y :: (x :: B) := by simp
    have e2 : (A' ++ [y] ++ x :: B).toArray[n]! = y := by rw [eq]; exact arr_get' _ _ _ _ hA'.symm
    unfold Go.Sort.insInner
    rw [e1, e2, ltOf_cmp x y hx hyy, insE_snoc]
    have hd : decide (n + 1 > 0) = true := decide_eq_true (by omega)
    by_cases h : ahead x y = true
    · rw [if_pos h, if_pos (by rw [h]; simp)]
      have hsw : Go.Sort.swp (A' ++ [y] ++ x :: B).toArray (n + 1) n = (A' ++ x :: (y :: B)).toArray := by
        unfold Go.Sort.swp
        rw [e1, e2]
        apply Array.ext_getElem?
        intro j
        rw [Array.getElem?_setIfInBounds, Array.getElem?_setIfInBounds, Array.size_setIfInBounds, List.getElem?_toArray, List.getElem?_toArray, List.size_toArray]
        have hlen : (A' ++ [y] ++ x :: B).length = n + 1 + 1 + B.length := by simp [hA']; omega
        by_cases h1 : n = j
        · subst h1
          rw [if_pos rfl, if_pos (by omega), List.getElem?_append_right (by omega), hA', Nat.sub_self]
          rfl
        · rw [if_neg h1]
          by_cases h2 : n + 1 = j
          · subst h2
            rw [if_pos rfl, if_pos (by omega), List.getElem?_append_right (by omega), hA', show n + 1 - n = 1 by omega]
            rfl
          · rw [if_neg h2, eq]
            by_cases h3 : j < n
            · rw [List.getElem?_append_left (by omega), List.getElem?_append_left (by omega)]
            · rw [List.getElem?_append_right (by omega), List.getElem?_append_right (by omega), hA']
              obtain ⟨m, hm⟩ : ∃ m, j - n = m + 2 := ⟨j - n - 2, by omega⟩
              rw [hm]
              rfl
      rw [hsw, ih A' (y :: B) hA' (fun z hz => hy z (by simp [hz]))]
      simp
    · rw [if_neg h, if_neg (by simp [h])]
      simp
theorem insR_mem (x : S41) : ∀ (l : List S41) (y : S41), y ∈ insR x l ↔ y = x ∨ y ∈ l
  | [], y => by simp [insR]
  | z :: l, y => by
    unfold insR
    split
    · rw [List.mem_cons, insR_mem x l y, List.mem_cons]
      constructor
      · rintro (h | h | h)
        · exact .inr (.inl h)
        · exact .inl h
        · exact .inr (.inr h)
      · rintro (h | h | h)
        · exact .inr (.inl h)
        · exact .inl h
        · exact .inr (.inr h)
    · simp
theorem insE_mem (x : S41) (l : List S41) (y : S41) : y ∈ insE x l ↔ y = x ∨ y ∈ l := by
  unfold insE
  rw [List.mem_reverse, insR_mem, List.mem_reverse]
theorem insOuter_ok (N : Nat) : ∀ (rest S : List S41) (i : Nat), S.length = i → i + rest.length = N → (∀ y ∈ S, amB y = true) → (∀ y ∈ rest, amB y = true) → Go.Sort.insOuter (ltOf cmpP) 0 N i (S ++ rest).toArray = (rest.foldl (fun s x => insE x s) S).toArray := by
  intro rest
  induction rest with
  | nil =>
    intro S i hS hi _ _
    unfold Go.Sort.insOuter
    rw [if_neg (by simp at hi; omega)]
    simp
  | cons x rest ih =>
    intro S i hS hi h1 h2
    rw [List.length_cons] at hi
    unfold Go.Sort.insOuter
    rw [if_pos (by omega), insInner_ok x (h2 x (by simp)) i S rest hS h1, List.foldl_cons]
    exact ih (insE x S) (i + 1) (by rw [insE_length, hS]) (by omega) (fun y hy => by
      rcases (insE_mem x S y).1 hy with e | e
      · rw [e]; exact h2 x (by simp)
      · exact h1 y e) (fun y hy => h2 y (by simp [hy]))
theorem sortP_ok (l : List S41) (h : ∀ y ∈ l, amB y = true) : sortP l = sortL l := by
  unfold sortP sortL Go.Sort.insertionSort
  cases l with
  | nil =>
    unfold Go.Sort.insOuter
    rw [if_neg (by simp)]
    rfl
  | cons x l =>
    have := insOuter_ok (x :: l).length l [x] 1 rfl (by rw [List.length_cons]; omega) (fun y hy => h y (by simp at hy; simp [hy])) (fun y hy => h y (by simp [hy]))
    rw [Nat.zero_add]
    have e : (x :: l) = [x] ++ l := rfl
    rw [← e] at this
    rw [this, List.foldl_cons, insE_nil]
set_option maxRecDepth 100000 in
theorem len_small (n k : Nat) (hn : n ≤ 12) (hk : 0 < k) : ∃ v, bits_Len.f k (n : Int) = some v := by
  obtain ⟨k, rfl⟩ : ∃ m, k = m + 1 := ⟨k - 1, by omega⟩
  unfold bits_Len.f bits_Len64.f
  rw [if_neg (by omega)]
  rw [bits_Len64.j0]
  rw [if_neg (by omega), if_neg (by omega), if_pos (by omega), if_pos (by omega)]
  exact ⟨_, rfl⟩
/-- What both give back. -/
def sorted (l : List S41) : List S41 := if partsOk l = true then sortL l else []
theorem ok_len {l : List S41} (h : partsOk l = true) : 1 ≤ l.length ∧ l.length ≤ 12 ∧ ∀ y ∈ l, amB y = true := by
  unfold partsOk namesB at h
  simp only [Bool.and_eq_true, List.length_map, decide_eq_true_eq, List.all_eq_true] at h
  exact ⟨by omega, by omega, h.2⟩
theorem sorted_impl (l : List S41) (hl : l.length ≤ 1000000000) (B : Nat) (hB : ∀ x ∈ l, x.f0.size ≤ B) (hB2 : B ≤ 1000000000) (k : Nat) (hk : l.length + (l.length + B) + 20 < k) : impl_SortedParts.f k l = some (sorted l) := by
  unfold impl_SortedParts.f sorted
  rw [parts_impl l hl B hB hB2 k (by omega)]
  simp only [Option.bind_some]
  by_cases h : partsOk l = true
  · obtain ⟨h1, h2, h3⟩ := ok_len h
    rw [if_pos h, if_pos h]
    obtain ⟨v, hv⟩ := len_small l.length k h2 (by omega)
    unfold impl_Part_33.f
    rw [if_pos (by omega), if_pos (by omega)]
    simp only [Option.bind_some]
    unfold impl_Part_34.f
    rw [hv]
    simp only [Option.bind_some]
    rw [if_pos (by omega), if_pos h2]
    simp only [Option.bind_some]
    rw [sortP_ok l h3]
  · rw [if_neg h, if_neg h]
/-! ### the reference's sort -/
theorem set_mid (A B : List S41) (c x : S41) (n : Nat) (h : n = A.length) : (A ++ c :: B).set n x = A ++ x :: B := by
  subst h
  rw [List.set_append_right _ _ (Nat.le_refl _), Nat.sub_self]
  rfl
theorem get_mid (A B : List S41) (c : S41) (n : Nat) (h : n = A.length) : rd_T41 (A ++ c :: B) (n : Int) = c := by
  subst h
  simp [rd_T41]
theorem spec_ins (l : List S41) (hl : l.length ≤ 1000000000) (i : Nat) (hi : i < l.length) (x : S41) (hx : l[i] = x) : ∀ (n : Nat) (k : Nat) (A B : List S41) (c : S41), A.length = n → n + B.length ≤ 1000000000 → n < k → ∃ k', k - n - 1 ≤ k' ∧ spec_SortedParts.l1 k l (A ++ c :: B) i n = spec_SortedParts.l0 k' l (insE x A ++ B) ((i + 1 : Nat) : Int) := by
  have hw : wrap64 ((i : Int) + 1) = ((i + 1 : Nat) : Int) := by rw [w64 (by omega) (by omega)]; omega
  have er : rd_T41 l (i : Int) = x := by rw [← hx]; simp [rd_T41, List.getD_eq_getElem?_getD, hi]
  have eta : (⟨x.f0, x.f1⟩ : S41) = x := rfl
  intro n
  induction n with
  | zero =>
    intro k A B c hA hb hk
    have : A = [] := List.length_eq_zero_iff.1 hA
    subst this
    obtain ⟨k, rfl⟩ : ∃ m, k = m + 1 := ⟨k - 1, by omega⟩
    refine ⟨k, by omega, ?_⟩
    rw [spec_SortedParts.l1, if_neg (by omega), if_pos (by omega), if_pos (by omega), if_pos (by omega), if_pos (by simp), hw, er]
    rfl
  | succ n ih =>
    intro k A B c hA hb hk
    obtain ⟨k, rfl⟩ : ∃ m, k = m + 1 := ⟨k - 1, by omega⟩
    have hne : A ≠ [] := fun h => by rw [h] at hA; cases hA
    obtain ⟨A', y, rfl⟩ : ∃ A' y, A = A' ++ [y] := ⟨A.dropLast, A.getLast hne, (List.dropLast_concat_getLast hne).symm⟩
    have hA' : A'.length = n := by rw [List.length_append] at hA; simpa using hA
    have hlen : (A' ++ [y] ++ c :: B).length = n + 1 + 1 + B.length := by simp [hA']; omega
    have eq : A' ++ [y] ++ c :: B = A' ++ y :: (c :: B) := by simp
    have w1 : wrap64 (((n + 1 : Nat) : Int) - 1) = (n : Int) := by rw [w64 (by omega) (by omega)]; omega
    have ey : rd_T41 (A' ++ [y] ++ c :: B) (n : Int) = y := by rw [eq]; exact get_mid _ _ _ _ hA'.symm
    have etay : (⟨y.f0, y.f1⟩ : S41) = y := rfl
    have s1 : (A' ++ [y] ++ c :: B).set (n + 1) y = A' ++ y :: (y :: B) := by
      rw [set_mid (A' ++ [y]) B c y (n + 1) (by rw [List.length_append, hA']; rfl)]
      simp
    have s2 : (A' ++ [y] ++ c :: B).set (n + 1) x = A' ++ [y] ++ x :: B := set_mid (A' ++ [y]) B c x (n + 1) (by rw [List.length_append, hA']; rfl)
    rw [spec_SortedParts.l1, if_pos (by omega), w1, if_pos (by omega), if_pos (by omega), if_pos (by omega), if_pos (by omega), ey, er, eta, etay, Int.toNat_natCast, s1, s2, hw, insE_snoc]
    obtain ⟨k', hk', hih⟩ := ih k A' (y :: B) y hA' (by rw [List.length_cons]; omega) (by omega)
    by_cases h1 : y.f1 < x.f1
    · have ha : ahead x y = true := by unfold ahead; rw [decide_eq_true h1]; rfl
      rw [if_pos h1, if_pos (by omega), if_pos (by omega), if_pos ha]
      refine ⟨k', by omega, ?_⟩
      rw [hih]
      simp
    · rw [if_neg h1]
      by_cases h2 : y.f1 = x.f1
      · rw [if_pos h2]
        by_cases h3 : Op.bytesLess x.f0.toList y.f0.toList = true
        · have ha : ahead x y = true := by unfold ahead; rw [decide_eq_true h2, h3]; simp
          rw [if_pos h3, if_pos (by omega), if_pos (by omega), if_pos ha]
          refine ⟨k', by omega, ?_⟩
          rw [hih]
          simp
        · have ha : ¬ ahead x y = true := by unfold ahead; rw [decide_eq_false h1]; simp [h3]
          rw [if_neg h3, if_pos (by omega), if_pos (by omega), if_neg ha]
          exact ⟨k, by omega, by simp⟩
      · have ha : ¬ ahead x y = true := by unfold ahead; rw [decide_eq_false h1, decide_eq_false h2]; simp
        rw [if_neg h2, if_pos (by omega), if_pos (by omega), if_neg ha]
        exact ⟨k, by omega, by simp⟩
theorem sorted_spec (l : List S41) (hl : l.length ≤ 1000000000) (B : Nat) (hB : ∀ x ∈ l, x.f0.size ≤ B) (hB2 : B ≤ 1000000000) (k : Nat) (hk : (l.length + 1) * (l.length + 4) + B + 2000 < k) : spec_SortedParts.f k l = some (sorted l) := by
  unfold spec_SortedParts.f sorted
  by_cases h : partsOk l = true
  · obtain ⟨h1, h2, h3⟩ := ok_len h
    rw [if_pos h]
    have hmul : (l.length + 1) * (l.length + 4) ≤ 13 * 16 := Nat.mul_le_mul (by omega) (by omega)
    have key : ∀ (d k i : Nat) (S : List S41), i + d = l.length → 16 * d + 13 * 16 + B + 5 < k → S.length = i → spec_SortedParts.l0 k l S i = some ((l.drop i).foldl (fun s x => insE x s) S) := by
      intro d
      induction d with
      | zero =>
        intro k i S hi hk hS
        obtain ⟨k, rfl⟩ : ∃ m, k = m + 1 + 1 := ⟨k - 2, by omega⟩
        have e : l.drop i = [] := List.drop_eq_nil_iff.2 (by omega)
        rw [spec_SortedParts.l0, if_neg (by omega), spec_SortedParts.j1, if_neg (by simp), e]
        rfl
      | succ d ih =>
        intro k i S hi hk hS
        obtain ⟨k, rfl⟩ : ∃ m, k = m + 1 + 1 := ⟨k - 2, by omega⟩
        have hil : i < l.length := by omega
        have er : rd_T41 l (i : Int) = l[i] := by simp [rd_T41, List.getD_eq_getElem?_getD, hil]
        rw [spec_SortedParts.l0, if_pos (by omega), parts_spec l hl B hB hB2 (k + 1) (by omega)]
        simp only [Option.bind_some]
        rw [h, spec_SortedParts.j1, if_pos rfl, if_pos (by omega), if_pos (by omega), if_pos (by omega), er, hS]
        obtain ⟨k', hk', hi2⟩ := spec_ins l hl i hil l[i] rfl i k S [] (⟨l[i].f0, l[i].f1⟩ : S41) hS (by simp; omega) (by omega)
        rw [hi2, List.append_nil, List.drop_eq_getElem_cons hil, List.foldl_cons]
        exact ih k' (i + 1) _ (by omega) (by omega) (by rw [insE_length, hS])
    have := key l.length k 0 [] (by omega) (by omega) rfl
    exact this
  · rw [if_neg h]
    obtain ⟨k, rfl⟩ : ∃ m, k = m + 1 + 1 := ⟨k - 2, by omega⟩
    rw [spec_SortedParts.l0]
    by_cases h0 : l.length = 0
    · rw [if_neg (by omega), spec_SortedParts.j1, if_neg (by simp)]
    · rw [if_pos (by omega), parts_spec l hl B hB hB2 (k + 1) (by omega)]
      simp only [Option.bind_some]
      rw [Bool.eq_false_iff.2 h, spec_SortedParts.j1, if_neg (by simp)]
theorem sortL_length : ∀ (l S : List S41), (l.foldl (fun s x => insE x s) S).length = S.length + l.length
  | [], S => by simp
  | x :: l, S => by rw [List.foldl_cons, sortL_length l, insE_length, List.length_cons]; omega
theorem sorted_length (l : List S41) : (sorted l).length ≤ 12 := by
  unfold sorted
  split
  · rename_i h
    have := ok_len h
    unfold sortL
    rw [sortL_length]
    simpa using this.2.1
  · simp
theorem nmB_size {b : ByteArray} (h : nmB b = true) : 1 ≤ b.size ∧ b.size ≤ 10 := by
  unfold nmB at h
  rw [Bool.and_eq_true, decide_eq_true_eq] at h
  omega
theorem names_each {l : List ByteArray} (h : namesB l = true) : ∀ x ∈ l, nmB x = true := by
  intro x hx
  unfold namesB at h
  rw [Bool.and_eq_true] at h
  obtain ⟨i, hi, rfl⟩ := List.mem_iff_getElem.1 hx
  have := List.all_eq_true.1 h.1 i (List.mem_range.2 hi)
  unfold okN at this
  rw [Bool.and_eq_true] at this
  have e : l.getD i ByteArray.empty = l[i] := by simp [List.getD_eq_getElem?_getD, hi]
  rw [e] at this
  exact this.1
theorem sortL_mem : ∀ (l S : List S41) (y : S41), y ∈ l.foldl (fun s x => insE x s) S ↔ y ∈ S ∨ y ∈ l
  | [], S, y => by simp
  | x :: l, S, y => by
    rw [List.foldl_cons, sortL_mem l, insE_mem, List.mem_cons]
    constructor
    · rintro ((h | h) | h)
      · exact .inr (.inl h)
      · exact .inl h
      · exact .inr (.inr h)
    · rintro (h | h | h)
      · exact .inl (.inr h)
      · exact .inl (.inl h)
      · exact .inr h
theorem sorted_each (l : List S41) : ∀ y ∈ sorted l, y.f0.size ≤ 10 ∧ amB y = true ∧ y ∈ l := by
  intro y hy
  unfold sorted at hy
  by_cases h : partsOk l = true
  · rw [if_pos h] at hy
    unfold sortL at hy
    have hm : y ∈ l := by
      rcases (sortL_mem l [] y).1 hy with h2 | h2
      · cases h2
      · exact h2
    have hn : namesB (l.map S41.f0) = true := by
      unfold partsOk at h
      rw [Bool.and_eq_true] at h
      exact h.1
    exact ⟨(nmB_size (names_each hn y.f0 (List.mem_map.2 ⟨y, hm, rfl⟩))).2, (ok_len h).2.2 y hm, hm⟩
  · rw [if_neg h] at hy
    cases hy
def sepB : ByteArray := ⟨#[44, 32]⟩
theorem tail_len (sep : List UInt8) (hs : sep.length = 2) : ∀ (r : List (List UInt8)), (∀ x ∈ r, x.length ≤ 10) → (Lib.joinTail sep r).length ≤ 12 * r.length
  | [], _ => by simp [Lib.joinTail]
  | x :: r, h => by
    have ih := tail_len sep hs r (fun y hy => h y (by simp [hy]))
    have hx := h x (by simp)
    unfold Lib.joinTail at ih ⊢
    rw [List.map_cons, List.flatten_cons, List.length_append, List.length_append, List.length_cons]
    omega
theorem join_len (l : List ByteArray) (h : ∀ x ∈ l, x.size ≤ 10) : (Lib.join (l.map (·.data.toList)) sepB.data.toList).length ≤ 12 * l.length := by
  cases l with
  | nil => exact Nat.le_of_eq rfl
  | cons x r =>
    rw [List.map_cons, Lib.join_cons, List.length_append]
    have hx := h x List.mem_cons_self
    have e : x.data.toList.length = x.size := rfl
    have := tail_len sepB.data.toList rfl (r.map (·.data.toList)) (fun y hy => by
      obtain ⟨z, hz, rfl⟩ := List.mem_map.1 hy
      have e2 : z.data.toList.length = z.size := rfl
      have := h z (List.mem_cons_of_mem _ hz)
      omega)
    rw [List.length_map] at this
    rw [List.length_cons]
    omega
theorem tail_snoc (sep : List UInt8) (r : List (List UInt8)) (x : List UInt8) : Lib.joinTail sep (r ++ [x]) = Lib.joinTail sep r ++ (sep ++ x) := by
  unfold Lib.joinTail
  rw [List.map_append, List.flatten_append]
  simp
theorem join_snoc (sep : List UInt8) (r : List (List UInt8)) (x : List UInt8) (h : r ≠ []) : Lib.join (r ++ [x]) sep = Lib.join r sep ++ (sep ++ x) := by
  cases r with
  | nil => exact absurd rfl h
  | cons y r => rw [List.cons_append, Lib.join_cons, Lib.join_cons, tail_snoc, List.append_assoc]
/-- The text of a label. -/
def labelB (l : List S41) : ByteArray := joinB ((sorted l).map S41.f0) sepB
theorem label_impl (l : List S41) (hl : l.length ≤ 1000000000) (B : Nat) (hB : ∀ x ∈ l, x.f0.size ≤ B) (hB2 : B ≤ 1000000000) (k : Nat) (hk : l.length + (l.length + B) + 20 < k) : impl_LabelText.f k l = some (labelB l) := by
  unfold impl_LabelText.f
  rw [sorted_impl l hl B hB hB2 k hk]
  simp only [Option.bind_some]
  have hs := sorted_length l
  rw [namesOf_ok (sorted l) (Nat.le_trans hs (by decide)) k (Nat.lt_of_le_of_lt hs (by omega))]
  simp only [Option.bind_some]
  unfold strings_Join.f
  have hj := join_len ((sorted l).map S41.f0) (fun x hx => by
    obtain ⟨y, hy, rfl⟩ := List.mem_map.1 hx
    exact (sorted_each l y hy).1)
  rw [List.length_map] at hj
  have e : (⟨#[44, 32]⟩ : ByteArray) = sepB := rfl
  rw [e, if_pos (by rw [List.length_map]; exact Nat.le_trans hs (by decide)), if_pos (Nat.le_trans hj (Nat.le_trans (Nat.mul_le_mul_left 12 hs) (by decide)))]
  rfl
theorem label_loop (S : List S41) (hS : S.length ≤ 12) (hn : ∀ y ∈ S, y.f0.size ≤ 10) : ∀ (d k i : Nat) (s : ByteArray), i + d = S.length → d < k → s.data.toList = Lib.join ((S.take i).map (·.f0.data.toList)) sepB.data.toList → s.size ≤ 12 * i → ∃ r, spec_LabelText.l0 k s S i = some r ∧ r.data.toList = Lib.join (S.map (·.f0.data.toList)) sepB.data.toList := by
  intro d
  induction d with
  | zero =>
    intro k i s hi hk hs hz
    obtain ⟨k, rfl⟩ : ∃ m, k = m + 1 := ⟨k - 1, by omega⟩
    refine ⟨s, ?_, ?_⟩
    · rw [spec_LabelText.l0, if_neg (by omega)]
    · rw [List.take_of_length_le (by omega)] at hs
      exact hs
  | succ d ih =>
    intro k i s hi hk hs hz
    obtain ⟨k, rfl⟩ : ∃ m, k = m + 1 := ⟨k - 1, by omega⟩
    have hil : i < S.length := by omega
    have er : rd_T41 S (i : Int) = S[i] := by simp [rd_T41, List.getD_eq_getElem?_getD, hil]
    have hni := hn _ (List.getElem_mem hil)
    have et : S.take (i + 1) = S.take i ++ [S[i]] := List.take_succ_eq_append_getElem hil
    rw [spec_LabelText.l0, if_pos (by omega), er, w64 (n := (i : Int) + 1) (by omega) (by omega)]
    have e2 : (i : Int) + 1 = ((i + 1 : Nat) : Int) := by omega
    have hsep : (⟨#[44, 32]⟩ : ByteArray).size = 2 := rfl
    by_cases h0 : i = 0
    · subst h0
      rw [if_neg (by omega), if_pos (by omega), if_pos (by omega), e2]
      refine ih k 1 _ (by omega) (by omega) ?_ (by rw [ByteArray.size_append]; omega)
      rw [et, List.take_zero, List.nil_append, List.map_cons, List.map_nil, Lib.join_one, ByteArray.data_append, Array.toList_append, hs]
      rfl
    · rw [if_pos (by omega), if_pos (by omega), if_pos (by omega), if_pos (by rw [ByteArray.size_append, hsep]; omega), e2]
      refine ih k (i + 1) _ (by omega) (by omega) ?_ (by rw [ByteArray.size_append, ByteArray.size_append, hsep]; omega)
      rw [et, List.map_append, List.map_cons, List.map_nil, join_snoc _ _ _ (by
        intro e
        have := congrArg List.length e
        rw [List.length_map, List.length_take, List.length_nil] at this
        omega), ByteArray.data_append, Array.toList_append, ByteArray.data_append, Array.toList_append, hs, List.append_assoc]
      rfl
theorem label_spec (l : List S41) (hl : l.length ≤ 1000000000) (B : Nat) (hB : ∀ x ∈ l, x.f0.size ≤ B) (hB2 : B ≤ 1000000000) (k : Nat) (hk : (l.length + 1) * (l.length + 4) + B + 2000 < k) : ∃ r, spec_LabelText.f k l = some r ∧ (labelB l).toList = r.toList := by
  unfold spec_LabelText.f
  rw [sorted_spec l hl B hB hB2 k hk]
  simp only [Option.bind_some]
  have hs := sorted_length l
  obtain ⟨r, h1, h2⟩ := label_loop (sorted l) hs (fun y hy => (sorted_each l y hy).1) (sorted l).length k 0 (⟨#[]⟩ : ByteArray) (by omega) (by omega) rfl (by simp [ByteArray.size])
  refine ⟨r, h1, ?_⟩
  rw [toList_data, toList_data, h2]
  unfold labelB joinB
  rw [List.map_map]
  rfl
theorem eqStringS_self (l : List ByteArray) (k : Nat) (hl : l.length ≤ 1000000000) (hk : l.length < k) : laws_eqStringS.f k l l = some true := by
  unfold laws_eqStringS.f
  rw [if_pos rfl]
  have := run_all (fun k x5 => laws_eqStringS.l0 k l l x5) l.length (by omega) (fun _ => true) false (some true)
    (fun k i hi => by
      simp only [laws_eqStringS.l0]
      rw [if_pos (by omega), if_pos (by omega), if_pos (by omega)]
      first | done | simp)
    (fun k => by
      simp only [laws_eqStringS.l0]
      rw [if_neg (by omega)]) k hk
  rw [this]
  simp
def marksS (n : Nat) : List ByteArray := (List.range n).map fun i : Nat => mtT ((i : Int) + 1)
theorem markStringS_ok (l : List ByteArray) (k : Nat) (hl : l.length ≤ 1000000000) (hk : l.length + 31 < k) : laws_markStringS.f k l 1 = some ((l.length : Int) + 1, marksS l.length) := by
  unfold laws_markStringS.f
  have key : ∀ (d k i : Nat) (xs : List ByteArray), i + d = l.length → d + 31 < k → xs.length = l.length → (∀ j, j < i → xs[j]? = some (mtT ((j : Int) + 1))) → laws_markStringS.l0 k xs ((i : Int) + 1) i = some ((l.length : Int) + 1, marksS l.length) := by
    intro d
    induction d with
    | zero =>
      intro k i xs hd hk hx hj
      obtain ⟨k, rfl⟩ : ∃ m, k = m + 1 := ⟨k - 1, by omega⟩
      simp only [laws_markStringS.l0]
      rw [if_neg (by omega)]
      have : xs = marksS l.length := by
        apply List.ext_getElem?
        intro j
        by_cases h : j < i
        · rw [hj j h]
          have : j < l.length := by omega
          simp [marksS, this]
        · rw [List.getElem?_eq_none (by omega), List.getElem?_eq_none (by simp [marksS]; omega)]
      rw [this]
      congr 2
      omega
    | succ d ih =>
      intro k i xs hd hk hx hj
      obtain ⟨k, rfl⟩ : ∃ m, k = m + 1 := ⟨k - 1, by omega⟩
      simp only [laws_markStringS.l0]
      rw [if_pos (by omega), mtT_ok _ (by omega) (by omega) k (by omega)]
      simp only [Option.bind_some]
      rw [if_pos (by omega), w64 (n := (i : Int) + 1 + 1) (by omega) (by omega), w64 (n := (i : Int) + 1) (by omega) (by omega), Int.toNat_natCast]
      have e2 : (i : Int) + 1 = ((i + 1 : Nat) : Int) := by omega
      rw [e2]
      refine ih k (i + 1) _ (by omega) (by omega) (by simpa using hx) (fun j hj2 => ?_)
      rw [List.getElem?_set]
      by_cases e : i = j
      · subst e
        rw [if_pos rfl, if_pos (by omega)]
        congr 2
      · rw [if_neg e]
        exact hj j (by omega)
  have := key l.length k 0 l (by omega) hk rfl (fun j hj => by omega)
  simpa using this
theorem heldStringS_ok (n : Nat) (k : Nat) (hl : n ≤ 1000000000) (hk : n + 31 < k) : laws_heldStringS.f k (marksS n) 1 = some ((n : Int) + 1) := by
  unfold laws_heldStringS.f
  have hlen : (marksS n).length = n := by simp [marksS]
  have key : ∀ (d k i : Nat), i + d = n → d + 31 < k → laws_heldStringS.l0 k (marksS n) ((i : Int) + 1) i = some ((n : Int) + 1) := by
    intro d
    induction d with
    | zero =>
      intro k i hd hk
      obtain ⟨k, rfl⟩ : ∃ m, k = m + 1 := ⟨k - 1, by omega⟩
      simp only [laws_heldStringS.l0]
      rw [if_neg (by omega)]
      congr 2
      omega
    | succ d ih =>
      intro k i hd hk
      obtain ⟨k, rfl⟩ : ∃ m, k = m + 1 := ⟨k - 1, by omega⟩
      have e : rdOf ByteArray.empty (marksS n) (i : Int) = mtT ((i : Int) + 1) := by
        have : i < n := by omega
        simp [rdOf, marksS, List.getD_eq_getElem?_getD, this]
      simp only [laws_heldStringS.l0]
      rw [if_pos (by omega), if_pos (by omega), mtT_ok _ (by omega) (by omega) k (by omega), e]
      simp only [Option.bind_some]
      rw [if_pos trivial, w64 (n := (i : Int) + 1 + 1) (by omega) (by omega), w64 (n := (i : Int) + 1) (by omega) (by omega)]
      have e4 : (i : Int) + 1 = ((i + 1 : Nat) : Int) := by omega
      rw [e4]
      exact ih k (i + 1) (by omega) (by omega)
  have := key n k 0 (by omega) hk
  simpa using this
/-! ### what a sorted row keeps: the sum; the greatest first -/
def sumG : List S41 → Int
  | [] => 0
  | x :: l => x.f1 + sumG l
theorem sumG_append (a b : List S41) : sumG (a ++ b) = sumG a + sumG b := by
  induction a with
  | nil => rw [List.nil_append]; simp only [sumG]; omega
  | cons x a ih => rw [List.cons_append]; simp only [sumG]; rw [ih]; omega
theorem sumG_reverse (a : List S41) : sumG a.reverse = sumG a := by
  induction a with
  | nil => rfl
  | cons x a ih => rw [List.reverse_cons, sumG_append, ih]; simp only [sumG]; omega
theorem sumG_insR (x : S41) : ∀ l, sumG (insR x l) = x.f1 + sumG l
  | [] => rfl
  | y :: ys => by
    rw [insR_cons]
    split
    · simp only [sumG]; rw [sumG_insR x ys]; omega
    · simp only [sumG]
theorem sumG_sort : ∀ (l S : List S41), sumG (l.foldl (fun s x => insE x s) S) = sumG S + sumG l
  | [], S => by rw [List.foldl_nil]; simp only [sumG]; omega
  | x :: l, S => by
    rw [List.foldl_cons, sumG_sort l, insE, sumG_reverse, sumG_insR, sumG_reverse]
    simp only [sumG]
    omega
theorem insR_up (x : S41) : ∀ (l : List S41), l.Pairwise (fun a b => a.f1 ≤ b.f1) → (insR x l).Pairwise (fun a b => a.f1 ≤ b.f1)
  | [], _ => List.pairwise_singleton _ _
  | y :: ys, h => by
    rw [insR_cons]
    have h1 := List.pairwise_cons.1 h
    by_cases c : ahead x y = true
    · rw [if_pos c, List.pairwise_cons]
      refine ⟨fun z hz => ?_, insR_up x ys h1.2⟩
      rcases (insR_mem x ys z).1 hz with e | e
      · subst e
        unfold ahead at c
        simp only [Bool.or_eq_true, Bool.and_eq_true, decide_eq_true_eq] at c
        omega
      · exact h1.1 z e
    · rw [if_neg c, List.pairwise_cons]
      have hxy : x.f1 ≤ y.f1 := by
        unfold ahead at c
        simp only [Bool.or_eq_true, Bool.and_eq_true, decide_eq_true_eq, not_or] at c
        omega
      refine ⟨fun z hz => ?_, h⟩
      rcases List.mem_cons.1 hz with e | e
      · subst e; exact hxy
      · have := h1.1 z e
        omega
theorem insE_down (x : S41) (l : List S41) (h : l.Pairwise (fun a b => b.f1 ≤ a.f1)) : (insE x l).Pairwise (fun a b => b.f1 ≤ a.f1) := by
  unfold insE
  rw [List.pairwise_reverse]
  exact insR_up x _ (List.pairwise_reverse.2 h)
theorem sortL_down : ∀ (l S : List S41), S.Pairwise (fun a b => b.f1 ≤ a.f1) → (l.foldl (fun s x => insE x s) S).Pairwise (fun a b => b.f1 ≤ a.f1)
  | [], _, h => h
  | x :: l, S, h => by
    rw [List.foldl_cons]
    exact sortL_down l _ (insE_down x S h)
theorem sumG_bd : ∀ (l : List S41), (∀ y ∈ l, amB y = true) → 0 ≤ sumG l ∧ sumG l ≤ 100000 * (l.length : Int)
  | [], _ => ⟨Int.le_refl _, by simp [sumG]⟩
  | x :: l, h => by
    have ih := sumG_bd l (fun y hy => h y (List.mem_cons_of_mem _ hy))
    have hx := of_decide_eq_true (h x List.mem_cons_self)
    simp only [sumG, List.length_cons]
    omega
/-- Who must be named. -/
def big (p s : Int) (x : S41) : Bool := decide (p * s ≤ x.f1 * 100)
def mustL (l : List S41) (p : Int) : List ByteArray := if partsOk l = true ∧ (0 ≤ p ∧ p ≤ 100) then ((sortL l).filter (big p (sumG l))).map S41.f0 else []
theorem prod_bd {p s : Int} (hp : 0 ≤ p ∧ p ≤ 100) (hs : 0 ≤ s ∧ s ≤ 1200000) : 0 ≤ p * s ∧ p * s ≤ 120000000 := by
  have h1 : p * s ≤ 100 * s := Int.mul_le_mul_of_nonneg_right hp.2 hs.1
  exact ⟨Int.mul_nonneg hp.1 hs.1, by omega⟩
theorem mustQ_big {p s : Int} (hp : 0 ≤ p ∧ p ≤ 100) (hs : 0 ≤ s ∧ s ≤ 1200000) (x : S41) (hx : amB x = true) : mustQ (p, s) x = !big p s x := by
  have hx := of_decide_eq_true hx
  have hb := prod_bd hp hs
  unfold mustQ big
  dsimp only
  rw [w64 (n := x.f1 * 100) (by omega) (by omega), w64 (n := p * s) (by omega) (by omega)]
  by_cases c : p * s ≤ x.f1 * 100
  · rw [decide_eq_true c, decide_eq_false (by omega)]; rfl
  · rw [decide_eq_false c, decide_eq_true (by omega)]; rfl
/-- Deleting out of a row in which, behind the first that goes, all go. -/
theorem del_prefix (q : S41 → Bool) (l : List S41) (h : l.Pairwise (fun a b => q a = true → q b = true)) (a : Int × Int) (hq : ∀ x ∈ l, mustQ a x = q x) : impl_Part_40.f l a = some (l.filter (fun x => !q x)) := by
  have hg : ∀ j (hj : j < l.length), mustQ a (l.getD j z41) = q l[j] := by
    intro j hj
    have e : l.getD j z41 = l[j] := by simp [List.getD_eq_getElem?_getD, hj]
    rw [e]
    exact hq _ (List.getElem_mem hj)
  unfold impl_Part_40.f
  by_cases hall : ∀ x ∈ l, q x = false
  · have e1 : idxR (fun j => mustQ a (l.getD j z41)) l.length = -1 := idxR_miss _ _ (fun j hj => by rw [hg j hj]; exact hall _ (List.getElem_mem hj))
    rw [e1, if_pos rfl]
    congr 1
    rw [List.filter_eq_self.2]
    intro x hx
    rw [hall x hx]
    rfl
  · obtain ⟨i, hi, hqi, hbef⟩ : ∃ i, ∃ hi : i < l.length, q l[i] = true ∧ ∀ j (hj : j < i), q (l[j]'(by omega)) = false := by
      have : ∃ x ∈ l, q x = true := by
        apply Classical.byContradiction
        intro hn
        exact hall (fun x hx => by
          cases hh : q x with
          | false => rfl
          | true => exact absurd ⟨x, hx, hh⟩ hn)
      have hlt := List.findIdx_lt_length_of_exists this
      refine ⟨l.findIdx q, hlt, List.findIdx_getElem, fun j hj => ?_⟩
      have := List.not_of_lt_findIdx hj
      cases hh : q (l[j]'(by omega)) with
      | false => rfl
      | true => exact absurd hh (by simpa using this)
    have e1 : idxR (fun j => mustQ a (l.getD j z41)) l.length = (i : Int) := idxR_hit _ _ _ hi (by show mustQ a (l.getD i z41) = true; rw [hg i hi]; exact hqi) (fun j hj => by show mustQ a (l.getD j z41) = false; rw [hg j (by omega)]; exact hbef j hj)
    rw [e1, if_neg (by omega), Int.toNat_natCast]
    have hlater : ∀ x ∈ l.drop (i + 1), q x = true := by
      intro x hx
      have hsplit : l = l.take (i + 1) ++ l.drop (i + 1) := (List.take_append_drop _ _).symm
      have hm : l[i] ∈ l.take (i + 1) := by
        rw [List.take_succ_eq_append_getElem hi]
        exact List.mem_append_right _ List.mem_cons_self
      rw [hsplit] at h
      have h3 := (List.pairwise_append.1 h).2.2
      exact h3 _ hm x hx hqi
    rw [if_pos (by
      rw [List.all_eq_true]
      intro x hx
      rw [hq x (List.mem_of_mem_drop hx)]
      exact hlater x hx)]
    congr 1
    have hsplit : l = l.take i ++ l.drop i := (List.take_append_drop _ _).symm
    conv => rhs; rw [hsplit, List.filter_append]
    have f1 : (l.take i).filter (fun x => !q x) = l.take i := by
      rw [List.filter_eq_self.2]
      intro x hx
      obtain ⟨j, hj, rfl⟩ := List.mem_iff_getElem.1 hx
      rw [List.length_take] at hj
      rw [List.getElem_take, hbef j (by omega)]
      rfl
    have f2 : (l.drop i).filter (fun x => !q x) = [] := by
      rw [List.filter_eq_nil_iff]
      intro x hx
      rw [List.drop_eq_getElem_cons hi] at hx
      rcases List.mem_cons.1 hx with e | e
      · rw [e, hqi]; simp
      · rw [hlater x e]; simp
    rw [f1, f2, List.append_nil]
theorem must_impl (l : List S41) (p : Int) (hl : l.length ≤ 1000000000) (B : Nat) (hB : ∀ x ∈ l, x.f0.size ≤ B) (hB2 : B ≤ 1000000000) (k : Nat) (hk : l.length + (l.length + B) + 60 < k) : impl_MustName.f k l p = some (mustL l p) := by
  unfold impl_MustName.f mustL
  rw [parts_impl l hl B hB hB2 k (by omega)]
  simp only [Option.bind_some]
  obtain ⟨k, rfl⟩ : ∃ m, k = m + 1 := ⟨k - 1, by omega⟩
  by_cases h : partsOk l = true
  · obtain ⟨h1, h2, h3⟩ := ok_len h
    rw [if_pos h, in_impl]
    simp only [Option.bind_some]
    by_cases hp : 0 ≤ p ∧ p ≤ 100
    · rw [decide_eq_true hp, impl_MustName.j0, if_neg (by simp), if_pos ⟨h, hp⟩]
      have hbd := sumG_bd l h3
      have key : ∀ (d k i : Nat) (s : Int), i + d = l.length → d + 1 + (l.length + (l.length + B) + 40) < k → 0 ≤ s ∧ s ≤ 100000 * (i : Int) → s + sumG (l.drop i) = sumG l → impl_MustName.l0 k l l (l.length : Int) i p s = some (((sortL l).filter (big p (sumG l))).map S41.f0) := by
        intro d
        induction d with
        | zero =>
          intro k i s hi hk hs he
          obtain ⟨k, rfl⟩ : ∃ m, k = m + 1 := ⟨k - 1, by omega⟩
          rw [List.drop_eq_nil_iff.2 (by omega)] at he
          have hs2 : s = sumG l := by simp only [sumG] at he; omega
          subst hs2
          rw [impl_MustName.l0, if_neg (by omega), sorted_impl l hl B hB hB2 k (by omega)]
          simp only [Option.bind_some]
          have e : sorted l = sortL l := by unfold sorted; rw [if_pos h]
          have hlen : (sortL l).length = l.length := by
            unfold sortL
            rw [sortL_length]
            simp
          have hS : 0 ≤ sumG l ∧ sumG l ≤ 1200000 := by omega
          have hmem : ∀ y ∈ sortL l, amB y = true := fun y hy => (sorted_each l y (by rw [e]; exact hy)).2.1
          rw [e, del_prefix (fun x => !big p (sumG l) x) (sortL l) (by
            refine (sortL_down l [] List.Pairwise.nil).imp (fun {a b} hab hqa => ?_)
            unfold big at hqa ⊢
            rw [Bool.not_eq_true', decide_eq_false_iff_not] at hqa ⊢
            omega) (p, sumG l) (fun x hx => mustQ_big hp hS x (hmem x hx))]
          simp only [Option.bind_some, Bool.not_not]
          have hfl := List.length_filter_le (fun x => big p (sumG l) x) (sortL l)
          rw [namesOf_ok _ (by omega) k (by omega)]
          simp only [Option.bind_some]
        | succ d ih =>
          intro k i s hi hk hs he
          obtain ⟨k, rfl⟩ : ∃ m, k = m + 1 := ⟨k - 1, by omega⟩
          have hil : i < l.length := by omega
          have er : rd_T41 l (i : Int) = l[i] := by simp [rd_T41, List.getD_eq_getElem?_getD, hil]
          have hx := of_decide_eq_true (h3 _ (List.getElem_mem hil))
          rw [List.drop_eq_getElem_cons hil] at he
          simp only [sumG] at he
          rw [impl_MustName.l0, if_pos (by omega), if_pos (by omega), if_pos (by omega), er, w64 (n := (i : Int) + 1) (by omega) (by omega), w64 (n := s + l[i].f1) (by omega) (by omega)]
          have e2 : (i : Int) + 1 = ((i + 1 : Nat) : Int) := by omega
          rw [e2]
          exact ih k (i + 1) _ (by omega) (by omega) (by omega) (by omega)
      exact key l.length k 0 0 (by omega) (by omega) (by omega) (by rw [List.drop_zero]; omega)
    · rw [decide_eq_false hp, impl_MustName.j0, if_pos (by simp), if_neg (fun hh => hp hh.2)]
  · rw [if_neg h, impl_MustName.j0, if_pos rfl, if_neg (fun hh => h hh.1)]
theorem must_spec (l : List S41) (p : Int) (hl : l.length ≤ 1000000000) (B : Nat) (hB : ∀ x ∈ l, x.f0.size ≤ B) (hB2 : B ≤ 1000000000) (k : Nat) (hk : (l.length + 1) * (l.length + 4) + B + 2000 < k) : spec_MustName.f k l p = some (mustL l p) := by
  unfold spec_MustName.f mustL
  simp only [Option.bind_some]
  rw [in_spec]
  simp only [Option.bind_some]
  by_cases hp : 0 ≤ p ∧ p ≤ 100
  · rw [decide_eq_true hp, if_pos rfl, sorted_spec l hl B hB hB2 k hk]
    simp only [Option.bind_some]
    by_cases h : partsOk l = true
    · obtain ⟨h1, h2, h3⟩ := ok_len h
      rw [if_pos ⟨h, hp⟩]
      have e : sorted l = sortL l := by unfold sorted; rw [if_pos h]
      rw [e]
      have hlen : (sortL l).length = l.length := by
        unfold sortL
        rw [sortL_length]
        simp
      have hmem : ∀ y ∈ sortL l, amB y = true := fun y hy => (sorted_each l y (by rw [e]; exact hy)).2.1
      have hsum : sumG (sortL l) = sumG l := by
        unfold sortL
        rw [sumG_sort]
        simp only [sumG]
        omega
      have hbd := sumG_bd l h3
      generalize hS : sortL l = S at hlen hmem hsum
      have hS2 : 0 ≤ sumG l ∧ sumG l ≤ 1200000 := by omega
      have hpb := prod_bd hp hS2
      have loop2 : ∀ (d k i : Nat) (out : List ByteArray), i + d = S.length → d < k → out.length ≤ i → out ++ ((S.drop i).filter (big p (sumG l))).map S41.f0 = (S.filter (big p (sumG l))).map S41.f0 → spec_MustName.l1 k p out S (sumG l) i = some ((S.filter (big p (sumG l))).map S41.f0) := by
        intro d
        induction d with
        | zero =>
          intro k i out hi hk ho he
          obtain ⟨k, rfl⟩ : ∃ m, k = m + 1 := ⟨k - 1, by omega⟩
          rw [List.drop_eq_nil_iff.2 (by omega), List.filter_nil, List.map_nil, List.append_nil] at he
          rw [spec_MustName.l1, if_neg (by omega), he]
        | succ d ih =>
          intro k i out hi hk ho he
          obtain ⟨k, rfl⟩ : ∃ m, k = m + 1 := ⟨k - 1, by omega⟩
          have hil : i < S.length := by omega
          have er : rd_T41 S (i : Int) = S[i] := by simp [rd_T41, List.getD_eq_getElem?_getD, hil]
          have hx := of_decide_eq_true (hmem _ (List.getElem_mem hil))
          rw [List.drop_eq_getElem_cons hil] at he
          rw [spec_MustName.l1, if_pos (by omega), if_pos (by omega), er, w64 (n := S[i].f1 * 100) (by omega) (by omega), w64 (n := p * sumG l) (by omega) (by omega), w64 (n := (i : Int) + 1) (by omega) (by omega)]
          have e2 : (i : Int) + 1 = ((i + 1 : Nat) : Int) := by omega
          rw [e2]
          by_cases c : p * sumG l ≤ S[i].f1 * 100
          · have hb : big p (sumG l) S[i] = true := decide_eq_true c
            rw [List.filter_cons_of_pos hb, List.map_cons] at he
            rw [if_pos c, if_pos (by omega)]
            refine ih k (i + 1) _ (by omega) (by omega) (by rw [List.length_append]; exact Nat.succ_le_succ ho) ?_
            rw [← he]
            simp
          · have hb : ¬ big p (sumG l) S[i] = true := by unfold big; rw [decide_eq_false c]; simp
            rw [List.filter_cons_of_neg hb] at he
            rw [if_neg (by omega)]
            exact ih k (i + 1) _ (by omega) (by omega) (by omega) he
      have loop1 : ∀ (d k i : Nat) (s : Int), i + d = S.length → d + 1 + (S.length + 5) < k → 0 ≤ s ∧ s ≤ 100000 * (i : Int) → s + sumG (S.drop i) = sumG l → spec_MustName.l0 k p [] S s i = some ((S.filter (big p (sumG l))).map S41.f0) := by
        intro d
        induction d with
        | zero =>
          intro k i s hi hk hs he
          obtain ⟨k, rfl⟩ : ∃ m, k = m + 1 := ⟨k - 1, by omega⟩
          rw [List.drop_eq_nil_iff.2 (by omega)] at he
          have hs2 : s = sumG l := by simp only [sumG] at he; omega
          rw [spec_MustName.l0, if_neg (by omega), hs2]
          exact loop2 S.length k 0 [] (by omega) (by omega) (Nat.le_refl _) (by rw [List.drop_zero, List.nil_append])
        | succ d ih =>
          intro k i s hi hk hs he
          obtain ⟨k, rfl⟩ : ∃ m, k = m + 1 := ⟨k - 1, by omega⟩
          have hil : i < S.length := by omega
          have er : rd_T41 S (i : Int) = S[i] := by simp [rd_T41, List.getD_eq_getElem?_getD, hil]
          have hx := of_decide_eq_true (hmem _ (List.getElem_mem hil))
          rw [List.drop_eq_getElem_cons hil] at he
          simp only [sumG] at he
          rw [spec_MustName.l0, if_pos (by omega), if_pos (by omega), er, w64 (n := (i : Int) + 1) (by omega) (by omega), w64 (n := s + S[i].f1) (by omega) (by omega)]
          have e2 : (i : Int) + 1 = ((i + 1 : Nat) : Int) := by omega
          rw [e2]
          exact ih k (i + 1) _ (by omega) (by omega) (by omega) (by omega)
      exact loop1 S.length k 0 0 (by omega) (by omega) (by omega) (by rw [List.drop_zero]; omega)
    · rw [if_neg (fun hh => h hh.1)]
      have e : sorted l = [] := by unfold sorted; rw [if_neg h]
      rw [e]
      obtain ⟨k, rfl⟩ : ∃ m, k = m + 1 + 1 := ⟨k - 2, by omega⟩
      rw [spec_MustName.l0, if_neg (by simp), spec_MustName.l1, if_neg (by simp)]
  · rw [decide_eq_false hp, if_neg (by simp), if_neg (fun hh => hp hh.2)]
theorem must_length (l : List S41) (p : Int) : (mustL l p).length ≤ 12 := by
  unfold mustL
  split
  · rename_i h
    have := ok_len h.1
    rw [List.length_map]
    have h2 := List.length_filter_le (big p (sumG l)) (sortL l)
    have h3 : (sortL l).length = l.length := by
      unfold sortL
      rw [sortL_length]
      simp
    omega
  · exact Nat.zero_le _

end Go.Proofs.Ytjabgjlkemfofaa.Lem
