/- Plain lemmas on the printed functions: what they compute; conditions stand in each lemma. -/
import Derived.Test.YtkgpjndlpjjobaaQx0
import Derived.Test.YtkgpjndlpjjobaaQx1
import Derived.Test.YtkgpjndlpjjobaaQx2
import Derived.Test.YtkgpjndlpjjobaaQx3
import Derived.Test.YtkgpjndlpjjobaaQx4
import Derived.Test.YtkgpjndlpjjobaaQx5
import Derived.Test.YtkgpjndlpjjobaaQx7
import Derived.Test.YtkgpjndlpjjobaaQx8
import Derived.Test.YtkgpjndlpjjobaaQx10
import Derived.Test.YtkgpjndlpjjobaaQx11
import Derived.Test.YtkgpjndlpjjobaaQx14
import Derived.Test.YtkgpjndlpjjobaaQx15
import Derived.Test.YtkgpjndlpjjobaaQx16
import Derived.Test.YtkgpjndlpjjobaaQx17
import Derived.Test.YtkgpjndlpjjobaaQx24
import Derived.Test.YtkgpjndlpjjobaaQx25
import Derived.Test.YtkgpjndlpjjobaaQx26
import Derived.Test.YtkgpjndlpjjobaaQx30
import Derived.Test.YtkgpjndlpjjobaaQx35
import Derived.Test.YtkgpjndlpjjobaaQx36
import Derived.Test.YtkgpjndlpjjobaaQx38
namespace Go.Proofs.Ytkgpjndlpjjobaa.Lem
open Go.RowKit Go.Proofs.Ytkgpjndlpjjobaa.Q Go.Proofs.YtkgpjndlpjjobaaW.PrintWords Go.Proofs.YtkgpjndlpjjobaaW.PrintLast Go.Proofs.YtkgpjndlpjjobaaW.PrintMore
set_option linter.unusedVariables false
set_option linter.unusedSimpArgs false
-- LEM
theorem rd_nat (l : List Int) (i : Nat) : rd l (i : Int) = l.getD i 0 := by simp [rd]
theorem wf64 {n : Int} (h : (Lit.int .i64 n).wf = true) : -9223372036854775808 ≤ n ∧ n ≤ 9223372036854775807 := by
  simp only [Lit.wf, IntKind.min, IntKind.max, IntKind.signed, IntKind.bits, Bool.and_eq_true, decide_eq_true_eq, if_true] at h
  omega
theorem w64 {n : Int} (h : -9223372036854775808 ≤ n) (h2 : n ≤ 9223372036854775807) : wrap64 n = n := by
  unfold wrap64
  omega
theorem w64s {i : Int} {n : Nat} (h0 : 0 ≤ i) (h1 : i < (n : Int)) (hn : n ≤ 9223372036854775807) : wrap64 (i + 1) = i + 1 := by
  unfold wrap64
  omega
/-- A loop over places i .. n with a state, without a way out. -/
theorem run_fold {σ R : Type} (L : Nat → Int → σ → Option R) (n : Nat) (hn : n ≤ 9223372036854775807) (step : σ → Nat → σ) (fin : σ → Option R)
    (h1 : ∀ k (i : Nat) s, i < n → L (k + 1) i s = L k (wrap64 ((i : Int) + 1)) (step s i))
    (h2 : ∀ k s, L (k + 1) n s = fin s) :
    ∀ (d : Nat) (k : Nat) (i : Nat) (s : σ), i + d = n → d < k → L k i s = fin ((List.range' i d).foldl step s) := by
  intro d
  induction d with
  | zero =>
    intro k i s hd hk
    obtain ⟨k, rfl⟩ : ∃ m, k = m + 1 := ⟨k - 1, by omega⟩
    have : i = n := by omega
    subst this
    simpa using h2 k s
  | succ d ih =>
    intro k i s hd hk
    obtain ⟨k, rfl⟩ : ∃ m, k = m + 1 := ⟨k - 1, by omega⟩
    rw [h1 k i s (by omega), w64s (n := n) (by omega) (by omega) hn]
    have := ih k (i + 1) (step s i) (by omega) (by omega)
    rw [List.range'_succ, List.foldl_cons]
    simpa using this
/-- A loop over places i .. n with a state and a way out: 'none' of step: out with 'out'. -/
def foldX {σ R : Type} (step : σ → Nat → σ ⊕ R) (fin : σ → Option R) : List Nat → σ → Option R
  | [], s => fin s
  | i :: is, s => match step s i with
    | .inl s' => foldX step fin is s'
    | .inr r => some r
theorem run_foldX {σ R : Type} (L : Nat → Int → σ → Option R) (n : Nat) (hn : n ≤ 9223372036854775807) (step : σ → Nat → σ ⊕ R) (fin : σ → Option R)
    (h1 : ∀ k (i : Nat) s, i < n → L (k + 1) i s = match step s i with | .inl s' => L k (wrap64 ((i : Int) + 1)) s' | .inr r => some r)
    (h2 : ∀ k s, L (k + 1) n s = fin s) :
    ∀ (d : Nat) (k : Nat) (i : Nat) (s : σ), i + d = n → d < k → L k i s = foldX step fin (List.range' i d) s := by
  intro d
  induction d with
  | zero =>
    intro k i s hd hk
    obtain ⟨k, rfl⟩ : ∃ m, k = m + 1 := ⟨k - 1, by omega⟩
    have : i = n := by omega
    subst this
    simpa [foldX] using h2 k s
  | succ d ih =>
    intro k i s hd hk
    obtain ⟨k, rfl⟩ : ∃ m, k = m + 1 := ⟨k - 1, by omega⟩
    rw [h1 k i s (by omega), w64s (n := n) (by omega) (by omega) hn, List.range'_succ]
    simp only [foldX]
    cases hs : step s i with
    | inl s' => simpa using ih k (i + 1) s' (by omega) (by omega)
    | inr r => rfl
/-- A loop that only asks whether all places pass. -/
theorem run_all {R : Type} (L : Nat → Int → Option R) (n : Nat) (hn : n ≤ 9223372036854775807) (p : Nat → Bool) (no : R) (fin : Option R)
    (h1 : ∀ k (i : Nat), i < n → L (k + 1) i = if p i = true then L k (wrap64 ((i : Int) + 1)) else some no)
    (h2 : ∀ k, L (k + 1) n = fin) (k : Nat) (hk : n < k) : L k 0 = if (List.range n).all p then fin else some no := by
  have key : ∀ (d k i : Nat), i + d = n → d < k → L k i = if (List.range' i d).all p then fin else some no := by
    intro d
    induction d with
    | zero =>
      intro k i hd hk
      obtain ⟨k, rfl⟩ : ∃ m, k = m + 1 := ⟨k - 1, by omega⟩
      have : i = n := by omega
      subst this
      simpa using h2 k
    | succ d ih =>
      intro k i hd hk
      obtain ⟨k, rfl⟩ : ∃ m, k = m + 1 := ⟨k - 1, by omega⟩
      rw [h1 k i (by omega), w64s (n := n) (by omega) (by omega) hn, List.range'_succ, List.all_cons]
      by_cases hp : p i = true
      · have := ih k (i + 1) (by omega) (by omega)
        simp only [hp, if_true, Bool.true_and]
        simpa using this
      · simp [hp]
  have := key n k 0 (by omega) hk
  rw [List.range_eq_range']
  simpa using this
theorem all_range_getD {α : Type} (l : List α) (d : α) (p : α → Bool) : (List.range l.length).all (fun i => p (l.getD i d)) = l.all p := by
  rw [Bool.eq_iff_iff, List.all_eq_true, List.all_eq_true]
  constructor
  · intro h x hx
    obtain ⟨i, hi, rfl⟩ := List.mem_iff_getElem.1 hx
    have := h i (List.mem_range.2 hi)
    simpa [List.getD_eq_getElem?_getD, hi] using this
  · intro h i hi
    have hi' := List.mem_range.1 hi
    have := h l[i] (List.getElem_mem hi')
    simpa [List.getD_eq_getElem?_getD, hi'] using this
theorem foldl_range_getD {α σ : Type} (l : List α) (d : α) (f : σ → α → σ) (s : σ) : (List.range' 0 l.length).foldl (fun s i => f s (l.getD i d)) s = l.foldl f s := by
  have : l = (List.range' 0 l.length).map (fun i => l.getD i d) := by
    apply List.ext_getElem
    · simp
    · intro i h1 h2
      simp [List.getD_eq_getElem?_getD, h1]
  conv => rhs; rw [this, List.foldl_map]
/-- A loop that fills a row place by place. -/
theorem copy_loop {α : Type} (L : Nat → List α → Int → Option (List α)) (n : Nat) (hn : n ≤ 9223372036854775807) (v : Nat → α)
    (h1 : ∀ k (i : Nat) xs, i < n → xs.length = n → L (k + 1) xs i = L k (xs.set i (v i)) (wrap64 ((i : Int) + 1)))
    (h2 : ∀ k xs, xs.length = n → L (k + 1) xs n = some xs) (xs0 : List α) (hx : xs0.length = n) (k : Nat) (hk : n < k) : L k xs0 0 = some ((List.range n).map v) := by
  have key : ∀ (d k i : Nat) (xs : List α), i + d = n → d < k → xs.length = n → (∀ j, j < i → xs[j]? = some (v j)) → L k xs i = some ((List.range n).map v) := by
    intro d
    induction d with
    | zero =>
      intro k i xs hd hk hl hj
      obtain ⟨k, rfl⟩ : ∃ m, k = m + 1 := ⟨k - 1, by omega⟩
      have : i = n := by omega
      subst this
      rw [h2 k xs hl]
      congr 1
      apply List.ext_getElem?
      intro j
      by_cases h : j < i
      · rw [hj j h]
        simp [h]
      · rw [List.getElem?_eq_none (by omega), List.getElem?_eq_none (by simp; omega)]
    | succ d ih =>
      intro k i xs hd hk hl hj
      obtain ⟨k, rfl⟩ : ∃ m, k = m + 1 := ⟨k - 1, by omega⟩
      rw [h1 k i xs (by omega) hl, w64s (n := n) (by omega) (by omega) hn]
      have := ih k (i + 1) (xs.set i (v i)) (by omega) (by omega) (by simpa using hl) (fun j hj2 => by
        rw [List.getElem?_set]
        by_cases e : i = j
        · subst e
          simp; omega
        · rw [if_neg e]
          exact hj j (by omega))
      simpa using this
  exact key n k 0 xs0 (by omega) hk hx (fun j hj => by omega)
theorem map_range_getD {α β : Type} (l : List α) (d : α) (f : α → β) : (List.range l.length).map (fun i => f (l.getD i d)) = l.map f := by
  apply List.ext_getElem
  · simp
  · intro i h1 h2
    simp at h1
    simp [List.getD_eq_getElem?_getD, h1]
/-- A loop over the places 0 .. n with a state, what it calls wanting more than B rounds, and what holds of the state at each place. -/
theorem loop_fold {σ R : Type} (L : Nat → Int → σ → Option R) (n B : Nat) (hn : n ≤ 9223372036854775807) (P : Nat → σ → Prop) (step : σ → Nat → σ) (fin : σ → Option R)
    (h1 : ∀ k (i : Nat) s, B < k → i < n → P i s → L (k + 1) i s = L k (wrap64 ((i : Int) + 1)) (step s i))
    (hP : ∀ (i : Nat) s, i < n → P i s → P (i + 1) (step s i))
    (h2 : ∀ k s, B < k → P n s → L (k + 1) n s = fin s) (k : Nat) (s : σ) (h0 : P 0 s) (hk : n + B + 1 < k) :
    L k 0 s = fin ((List.range n).foldl step s) ∧ P n ((List.range n).foldl step s) := by
  have key : ∀ (d k i : Nat) (s : σ), i + d = n → d + B + 1 < k → P i s → L k i s = fin ((List.range' i d).foldl step s) ∧ P n ((List.range' i d).foldl step s) := by
    intro d
    induction d with
    | zero =>
      intro k i s hd hk hp
      obtain ⟨k, rfl⟩ : ∃ m, k = m + 1 := ⟨k - 1, by omega⟩
      have : i = n := by omega
      subst this
      exact ⟨by simpa using h2 k s (by omega) hp, by simpa using hp⟩
    | succ d ih =>
      intro k i s hd hk hp
      obtain ⟨k, rfl⟩ : ∃ m, k = m + 1 := ⟨k - 1, by omega⟩
      rw [h1 k i s (by omega) (by omega) hp, w64s (n := n) (by omega) (by omega) hn]
      have := ih k (i + 1) (step s i) (by omega) (by omega) (hP i s (by omega) hp)
      rw [List.range'_succ, List.foldl_cons]
      simpa using this
  have := key n k 0 s (by omega) (by omega) h0
  rw [List.range_eq_range']
  simpa using this
/-- The same without anything to hold of the state. -/
theorem loop_fold' {σ R : Type} (L : Nat → Int → σ → Option R) (n B : Nat) (hn : n ≤ 9223372036854775807) (step : σ → Nat → σ) (fin : σ → Option R)
    (h1 : ∀ k (i : Nat) s, B < k → i < n → L (k + 1) i s = L k (wrap64 ((i : Int) + 1)) (step s i))
    (h2 : ∀ k s, B < k → L (k + 1) n s = fin s) (k : Nat) (s : σ) (hk : n + B + 1 < k) :
    L k 0 s = fin ((List.range n).foldl step s) :=
  (loop_fold L n B hn (fun _ _ => True) step fin (fun k i s a b _ => h1 k i s a b) (fun _ _ _ _ => trivial) (fun k s a _ => h2 k s a) k s trivial hk).1
theorem foldl_range_getD' {α σ : Type} (l : List α) (d : α) (f : σ → α → σ) (s : σ) : (List.range l.length).foldl (fun s i => f s (l.getD i d)) s = l.foldl f s := by
  rw [List.range_eq_range']
  exact foldl_range_getD l d f s
/-- A loop with a way out. -/
theorem loop_foldX {σ R : Type} (L : Nat → Int → σ → Option R) (n B : Nat) (hn : n ≤ 9223372036854775807) (P : Nat → σ → Prop) (step : σ → Nat → σ ⊕ R) (fin : σ → Option R)
    (h1 : ∀ k (i : Nat) s, B < k → i < n → P i s → L (k + 1) i s = match step s i with | .inl s' => L k (wrap64 ((i : Int) + 1)) s' | .inr r => some r)
    (hP : ∀ (i : Nat) s s', i < n → P i s → step s i = .inl s' → P (i + 1) s')
    (h2 : ∀ k s, B < k → P n s → L (k + 1) n s = fin s) (k : Nat) (s : σ) (h0 : P 0 s) (hk : n + B + 1 < k) :
    L k 0 s = foldX step fin (List.range n) s := by
  have key : ∀ (d k i : Nat) (s : σ), i + d = n → d + B + 1 < k → P i s → L k i s = foldX step fin (List.range' i d) s := by
    intro d
    induction d with
    | zero =>
      intro k i s hd hk hp
      obtain ⟨k, rfl⟩ : ∃ m, k = m + 1 := ⟨k - 1, by omega⟩
      have : i = n := by omega
      subst this
      simpa [foldX] using h2 k s (by omega) hp
    | succ d ih =>
      intro k i s hd hk hp
      obtain ⟨k, rfl⟩ : ∃ m, k = m + 1 := ⟨k - 1, by omega⟩
      rw [h1 k i s (by omega) (by omega) hp, w64s (n := n) (by omega) (by omega) hn, List.range'_succ]
      simp only [foldX]
      cases hs : step s i with
      | inl s' => simpa using ih k (i + 1) s' (by omega) (by omega) (hP i s s' (by omega) hp hs)
      | inr r => rfl
  have := key n k 0 s (by omega) (by omega) h0
  rw [List.range_eq_range']
  simpa using this
/-- A loop that only asks whether all places pass. -/
theorem loop_all {R : Type} (L : Nat → Int → Option R) (n B : Nat) (hn : n ≤ 9223372036854775807) (p : Nat → Bool) (no : R) (fin : Option R)
    (h1 : ∀ k (i : Nat), B < k → i < n → L (k + 1) i = if p i = true then L k (wrap64 ((i : Int) + 1)) else some no)
    (h2 : ∀ k, B < k → L (k + 1) n = fin) (k : Nat) (hk : n + B + 1 < k) : L k 0 = if (List.range n).all p then fin else some no := by
  have key : ∀ (d k i : Nat), i + d = n → d + B + 1 < k → L k i = if (List.range' i d).all p then fin else some no := by
    intro d
    induction d with
    | zero =>
      intro k i hd hk
      obtain ⟨k, rfl⟩ : ∃ m, k = m + 1 := ⟨k - 1, by omega⟩
      have : i = n := by omega
      subst this
      simpa using h2 k (by omega)
    | succ d ih =>
      intro k i hd hk
      obtain ⟨k, rfl⟩ : ∃ m, k = m + 1 := ⟨k - 1, by omega⟩
      rw [h1 k i (by omega) (by omega), w64s (n := n) (by omega) (by omega) hn, List.range'_succ, List.all_cons]
      by_cases hp : p i = true
      · have := ih k (i + 1) (by omega) (by omega)
        simp only [hp, if_true, Bool.true_and]
        simpa using this
      · simp [hp]
  have := key n k 0 (by omega) hk
  rw [List.range_eq_range']
  simpa using this
/-- A loop from place i to n inside of a greater text: what it costs, and where it goes on. -/
theorem seg {σ R : Type} (L : Nat → Int → σ → Option R) (L' : Nat → σ → Option R) (n B : Nat) (C : Nat → Nat) (P : Nat → σ → Prop) (step : σ → Nat → σ)
    (h1 : ∀ k (i : Nat) s, B < k → i < n → P i s → L (k + C i) i s = L k ((i : Int) + 1) (step s i))
    (hP : ∀ (i : Nat) s, i < n → P i s → P (i + 1) (step s i))
    (h2 : ∀ k s, B < k → P n s → L (k + 1) n s = L' k s) :
    ∀ (d i k : Nat) (s : σ), i + d = n → B < k → P i s → L (k + 1 + ((List.range' i d).map C).sum) i s = L' k ((List.range' i d).foldl step s) ∧ P n ((List.range' i d).foldl step s) := by
  intro d
  induction d with
  | zero =>
    intro i k s hd hk hp
    have : i = n := by omega
    subst this
    exact ⟨by simpa using h2 k s hk hp, by simpa using hp⟩
  | succ d ih =>
    intro i k s hd hk hp
    rw [List.range'_succ, List.map_cons, List.sum_cons, List.foldl_cons]
    have e : k + 1 + (C i + ((List.range' (i + 1) d).map C).sum) = (k + 1 + ((List.range' (i + 1) d).map C).sum) + C i := by omega
    rw [e, h1 _ i s (by omega) (by omega) hp]
    have := ih (i + 1) k (step s i) (by omega) hk (hP i s (by omega) hp)
    simpa using this
theorem in_spec (a b c : Int) : spec_l01In.f a b c = some (decide (b ≤ a ∧ a ≤ c)) := by
  unfold spec_l01In.f
  by_cases h : b ≤ a <;> simp [h]
theorem in_impl (a b c : Int) : impl_in.f a b c = some (decide (b ≤ a ∧ a ≤ c)) := by
  unfold impl_in.f
  by_cases h : b ≤ a <;> simp [h]
def cvFlour (x : S47) : S42 := ⟨x.f0, x.f1, x.f2⟩
theorem toFlour_ok (a0 a1 a2 : Int) : laws_toFlour.f a0 a1 a2 = some (a0, a1, a2) := rfl
theorem eqFlour_self (a0 a1 a2 : Int) : laws_eqFlour.f a0 a1 a2 a0 a1 a2 = some true := by simp [laws_eqFlour.f]
theorem rdLFlour (l : List S47) (i : Nat) : rd_T47 l (i : Int) = l.getD i z47 := by simp [rd_T47]
theorem rdIFlour (l : List S42) (i : Nat) : rd_T42 l (i : Int) = l.getD i z42 := by simp [rd_T42]
theorem toFlourS_ok (l : List S47) (k : Nat) (hl : l.length ≤ 1000000000) (hk : l.length < k) : laws_toFlourS.f k l = some (l.map cvFlour) := by
  unfold laws_toFlourS.f
  rw [if_pos (by omega), if_pos (by rw [Int.toNat_natCast]; omega)]
  have := copy_loop (fun k x3 x4 => laws_toFlourS.l0 k l x3 x4) l.length (by omega) (fun i => cvFlour (l.getD i z47))
    (fun k i xs hi hx => by
      simp only [laws_toFlourS.l0, toFlour_ok, Option.bind_some, rdLFlour]
      rw [if_pos (by omega), if_pos (by omega), if_pos (by omega)]
      simp [cvFlour])
    (fun k xs hx => by
      simp only [laws_toFlourS.l0]
      rw [if_neg (by omega)]) (List.replicate l.length z42) (by simp) k hk
  rw [map_range_getD] at this
  simpa using this
theorem eqFlourS_self (l : List S42) (k : Nat) (hl : l.length ≤ 1000000000) (hk : l.length < k) : laws_eqFlourS.f k l l = some true := by
  unfold laws_eqFlourS.f
  rw [if_pos rfl]
  have := run_all (fun k x5 => laws_eqFlourS.l0 k l l x5) l.length (by omega) (fun _ => true) false (some true)
    (fun k i hi => by
      simp only [laws_eqFlourS.l0, eqFlour_self, Option.bind_some]
      rw [if_pos (by omega), if_pos (by omega), if_pos (by omega)])
    (fun k => by
      simp only [laws_eqFlourS.l0]
      rw [if_neg (by omega)]) k hk
  rw [this]
  simp
theorem szFlourS_ok (l : List S47) (hl : l.length ≤ 9223372036854775807) : ∃ q, laws_szFlourS.f l 1048576 = some q ∧ (q < 0 ∨ (0 ≤ q ∧ l.length ≤ 1048576)) := by
  unfold laws_szFlourS.f
  rw [w64 (n := 1048576 - (l.length : Int)) (by omega) (by omega)]
  by_cases h : 1048576 - (l.length : Int) < 0
  · rw [if_pos h]
    exact ⟨_, rfl, .inl (by omega)⟩
  · rw [if_neg h]
    exact ⟨_, rfl, .inr ⟨by omega, by omega⟩⟩
def flOk (f : S42) : Bool := decide ((50 ≤ f.f0 ∧ f.f0 ≤ 500) ∧ (1 ≤ f.f1 ∧ f.f1 ≤ 100) ∧ 0 ≤ f.f2 ∧ f.f2 ≤ 100)
theorem flOk_iff {f : S42} : flOk f = true ↔ (50 ≤ f.f0 ∧ f.f0 ≤ 500) ∧ (1 ≤ f.f1 ∧ f.f1 ≤ 100) ∧ 0 ≤ f.f2 ∧ f.f2 ≤ 100 := by simp [flOk]
def floursOk (l : List S42) : Bool := decide (1 ≤ l.length ∧ l.length ≤ 5) && l.all flOk
theorem floursOk_iff {l : List S42} : floursOk l = true ↔ (1 ≤ l.length ∧ l.length ≤ 5) ∧ ∀ f ∈ l, flOk f = true := by simp [floursOk, List.all_eq_true]
theorem flour_one (a b c : Int) : impl_FloursOk_1.f a b c = some (!flOk ⟨a, b, c⟩) := by
  simp only [impl_FloursOk_1.f, in_impl, Option.bind_some, flOk]
  by_cases h : 50 ≤ a ∧ a ≤ 500
  · rw [decide_eq_true h, if_pos rfl]
    by_cases h2 : 1 ≤ b ∧ b ≤ 100
    · rw [decide_eq_true h2, if_pos rfl]
      simp [h, h2]
    · rw [decide_eq_false h2, if_neg (by simp), decide_eq_false (fun hh => h2 hh.2.1)]
      rfl
  · rw [decide_eq_false h, if_neg (by simp), decide_eq_false (fun hh => h hh.1)]
    rfl
theorem flours_impl (l : List S42) : impl_FloursOk.f l = some (floursOk l) := by
  have e : impl_Flour_30.pred = fun x => !flOk x := by
    funext x
    simp only [impl_Flour_30.pred, flour_one]
    cases flOk x <;> simp
  simp only [impl_FloursOk.f, in_impl, impl_Flour_30.f, Option.bind_some, floursOk, e]
  by_cases h : (1 : Int) ≤ l.length ∧ (l.length : Int) ≤ 5
  · rw [decide_eq_true h, if_pos rfl, decide_eq_true (by omega), Bool.true_and]
    congr 1
    rw [List.any_eq_not_all_not]
    simp
  · rw [decide_eq_false h, if_neg (by simp), decide_eq_false (by omega), Bool.false_and]
theorem flours_spec (l : List S42) (k : Nat) (hl : l.length ≤ 1000000000) (hk : l.length < k) : spec_FloursOk.f k l = some (floursOk l) := by
  unfold spec_FloursOk.f
  rw [run_all (fun k x3 => spec_FloursOk.l0 k l x3) l.length (by omega) (fun i => flOk (l.getD i z42)) false (some (decide (1 ≤ l.length ∧ l.length ≤ 5)))
    (fun k i hi => by
      simp only [spec_FloursOk.l0, in_spec, Option.bind_some, rdIFlour]
      rw [if_pos (by omega), if_pos (by omega)]
      generalize l.getD i z42 = f
      unfold flOk
      by_cases h : 50 ≤ f.f0 ∧ f.f0 ≤ 500
      · rw [decide_eq_true h, if_pos rfl]
        by_cases h2 : 1 ≤ f.f1 ∧ f.f1 ≤ 100
        · rw [decide_eq_true h2, if_pos rfl]
          simp only [h, h2, and_self, true_and]
        · rw [decide_eq_false h2, if_neg (by simp), decide_eq_false (fun hh => h2 hh.2.1), if_neg (by simp)]
      · rw [decide_eq_false h, if_neg (by simp), decide_eq_false (fun hh => h hh.1), if_neg (by simp)])
    (fun k => by
      simp only [spec_FloursOk.l0, in_spec, Option.bind_some]
      rw [if_neg (by omega)]
      congr 1
      rw [decide_eq_decide]
      omega) k hk]
  rw [all_range_getD l z42 flOk]
  unfold floursOk
  cases l.all flOk <;> simp
def kOk (l : List S42) (ks : List Int) : Bool := floursOk l && decide (ks.length = l.length) && (List.range ks.length).all fun i => decide (0 ≤ ks.getD i 0 ∧ ks.getD i 0 ≤ (l.getD i z42).f2)
theorem kOk_iff {l : List S42} {ks : List Int} : kOk l ks = true ↔ floursOk l = true ∧ ks.length = l.length ∧ ∀ i, i < ks.length → 0 ≤ ks.getD i 0 ∧ ks.getD i 0 ≤ (l.getD i z42).f2 := by
  simp [kOk, List.all_eq_true, and_assoc]
theorem k_spec (l : List S42) (ks : List Int) (k : Nat) (hl : l.length ≤ 1000000000) (hks : ks.length ≤ 1000000000) (hk : l.length + ks.length + 2 < k) : spec_l27Ok.f k l ks = some (kOk l ks) := by
  obtain ⟨k, rfl⟩ : ∃ m, k = m + 1 := ⟨k - 1, by omega⟩
  simp only [spec_l27Ok.f, flours_spec l (k + 1) hl (by omega), Option.bind_some, spec_l27Ok.j0]
  unfold kOk
  by_cases h : floursOk l = true
  · rw [if_pos h, h, Bool.true_and]
    by_cases h2 : ks.length = l.length
    · have e : ((ks.length : Int) != (l.length : Int)) = false := by rw [h2]; simp
      rw [e, if_neg (by simp), decide_eq_true h2, Bool.true_and]
      rw [run_all (fun k x5 => spec_l27Ok.l0 k l ks x5) ks.length (by omega) (fun i => decide (0 ≤ ks.getD i 0 ∧ ks.getD i 0 ≤ (l.getD i z42).f2)) false (some true)
        (fun k i hi => by
          simp only [spec_l27Ok.l0, in_spec, Option.bind_some, rdIFlour, rd_nat]
          rw [if_pos (by omega), if_pos (by omega), if_pos (by omega)])
        (fun k => by
          simp only [spec_l27Ok.l0]
          rw [if_neg (by omega)]) k (by omega)]
      cases (List.range ks.length).all (fun i => decide (0 ≤ ks.getD i 0 ∧ ks.getD i 0 ≤ (l.getD i z42).f2)) <;> simp
    · have e : ((ks.length : Int) != (l.length : Int)) = true := by simp; omega
      rw [e, if_pos rfl, decide_eq_false h2, Bool.false_and]
  · rw [if_neg h, if_pos trivial, Bool.eq_false_iff.2 h, Bool.false_and, Bool.false_and]
theorem k_impl (l : List S42) (ks : List Int) (k : Nat) (hl : l.length ≤ 1000000000) (hks : ks.length ≤ 1000000000) (hk : l.length + ks.length + 2 < k) : impl_kilosOk.f k l ks = some (kOk l ks) := by
  obtain ⟨k, rfl⟩ : ∃ m, k = m + 1 := ⟨k - 1, by omega⟩
  simp only [impl_kilosOk.f, flours_impl, Option.bind_some, impl_kilosOk.j0]
  unfold kOk
  by_cases h : floursOk l = true
  · rw [if_pos h, h, Bool.true_and]
    by_cases h2 : ks.length = l.length
    · have e : ((ks.length : Int) != (l.length : Int)) = false := by rw [h2]; simp
      rw [e, if_neg (by simp), decide_eq_true h2, Bool.true_and]
      rw [run_all (fun k x19 => impl_kilosOk.l0 k l ks ks.length x19) ks.length (by omega) (fun i => decide (0 ≤ ks.getD i 0 ∧ ks.getD i 0 ≤ (l.getD i z42).f2)) false (some true)
        (fun k i hi => by
          simp only [impl_kilosOk.l0, in_impl, Option.bind_some, rdIFlour, rd_nat]
          rw [if_pos (by omega), if_pos (by omega), if_pos (by omega), if_pos (by omega)])
        (fun k => by
          simp only [impl_kilosOk.l0]
          rw [if_neg (by omega)]) k (by omega)]
      cases (List.range ks.length).all (fun i => decide (0 ≤ ks.getD i 0 ∧ ks.getD i 0 ≤ (l.getD i z42).f2)) <;> simp
    · have e : ((ks.length : Int) != (l.length : Int)) = true := by simp; omega
      rw [e, if_pos rfl, decide_eq_false h2, Bool.false_and]
  · rw [if_neg h, if_pos trivial, Bool.eq_false_iff.2 h, Bool.false_and, Bool.false_and]
/-- Amounts times a figure of their flours, added up. -/
def dot (g : S42 → Int) (l : List S42) (ks : List Int) : Int := (List.range ks.length).foldl (fun c i => c + g (l.getD i z42) * ks.getD i 0) 0
theorem mul_small {a b : Int} (h0 : 0 ≤ a) (h1 : a ≤ 500) (h2 : 0 ≤ b) (h3 : b ≤ 100) : 0 ≤ a * b ∧ a * b ≤ 50000 := by
  refine ⟨Int.mul_nonneg h0 h2, ?_⟩
  have h4 : a * b ≤ 500 * b := Int.mul_le_mul_of_nonneg_right h1 h2
  omega
theorem k_at {l : List S42} {ks : List Int} (h : kOk l ks = true) (i : Nat) (hi : i < ks.length) : flOk (l.getD i z42) = true ∧ 0 ≤ ks.getD i 0 ∧ ks.getD i 0 ≤ (l.getD i z42).f2 := by
  obtain ⟨h1, h2, h3⟩ := kOk_iff.1 h
  refine ⟨?_, h3 i hi⟩
  have hi2 : i < l.length := by omega
  have e : l.getD i z42 = l[i] := by simp [List.getD_eq_getElem?_getD, hi2]
  rw [e]
  exact (floursOk_iff.1 h1).2 _ (List.getElem_mem hi2)
theorem k_len {l : List S42} {ks : List Int} (h : kOk l ks = true) : ks.length ≤ 5 ∧ ks.length = l.length := by
  obtain ⟨h1, h2, h3⟩ := kOk_iff.1 h
  have := (floursOk_iff.1 h1).1
  omega
def cost (l : List S42) (ks : List Int) : Int := if kOk l ks = true then dot S42.f1 l ks else -1
theorem cost_spec (l : List S42) (ks : List Int) (k : Nat) (hl : l.length ≤ 1000000000) (hks : ks.length ≤ 1000000000) (hk : l.length + ks.length + 2 < k) : spec_BlendCost.f k l ks = some (cost l ks) := by
  simp only [spec_BlendCost.f, k_spec l ks k hl hks hk, Option.bind_some, cost]
  by_cases h : kOk l ks = true
  · have hlen := k_len h
    rw [if_pos h, if_pos h]
    have L := loop_fold (fun k i c => spec_BlendCost.l0 k l ks c i) ks.length 0 (by omega) (fun i c => 0 ≤ c ∧ c ≤ 50000 * (i : Int)) (fun c i => c + (l.getD i z42).f1 * ks.getD i 0) (fun c => some c)
      (fun k i c hB hi hc => by
        have hq := k_at h i hi
        have hf := flOk_iff.1 hq.1
        simp only [spec_BlendCost.l0, rdIFlour, rd_nat]
        rw [if_pos (by omega), if_pos (by omega), if_pos (by omega)]
        have hm := mul_small (a := (l.getD i z42).f1) (b := ks.getD i 0) (by omega) (by omega) (by omega) (by omega)
        rw [w64 (n := (l.getD i z42).f1 * ks.getD i 0) (by omega) (by omega), w64 (by omega) (by omega)])
      (fun i c hi hc => by
        have hq := k_at h i hi
        have hf := flOk_iff.1 hq.1
        have hm := mul_small (a := (l.getD i z42).f1) (b := ks.getD i 0) (by omega) (by omega) (by omega) (by omega)
        omega)
      (fun k c hB hc => by
        simp only [spec_BlendCost.l0]
        rw [if_neg (by omega)]) k 0 ⟨by omega, by omega⟩ (by omega)
    exact L.1
  · rw [if_neg h, if_neg h]
theorem cost_impl (l : List S42) (ks : List Int) (k : Nat) (hl : l.length ≤ 1000000000) (hks : ks.length ≤ 1000000000) (hk : l.length + ks.length + 2 < k) : impl_BlendCost.f k l ks = some (cost l ks) := by
  simp only [impl_BlendCost.f, k_impl l ks k hl hks hk, Option.bind_some, cost]
  by_cases h : kOk l ks = true
  · have hlen := k_len h
    rw [if_pos h, if_pos h]
    have L := loop_fold (fun k i c => impl_BlendCost.l0 k l c ks ks.length i) ks.length 0 (by omega) (fun i c => 0 ≤ c ∧ c ≤ 50000 * (i : Int)) (fun c i => c + (l.getD i z42).f1 * ks.getD i 0) (fun c => some c)
      (fun k i c hB hi hc => by
        have hq := k_at h i hi
        have hf := flOk_iff.1 hq.1
        simp only [impl_BlendCost.l0, rdIFlour, rd_nat]
        rw [if_pos (by omega), if_pos (by omega), if_pos (by omega), if_pos (by omega)]
        have hm := mul_small (a := (l.getD i z42).f1) (b := ks.getD i 0) (by omega) (by omega) (by omega) (by omega)
        rw [w64 (n := (l.getD i z42).f1 * ks.getD i 0) (by omega) (by omega), w64 (by omega) (by omega)])
      (fun i c hi hc => by
        have hq := k_at h i hi
        have hf := flOk_iff.1 hq.1
        have hm := mul_small (a := (l.getD i z42).f1) (b := ks.getD i 0) (by omega) (by omega) (by omega) (by omega)
        omega)
      (fun k c hB hc => by
        simp only [impl_BlendCost.l0]
        rw [if_neg (by omega)]) k 0 ⟨by omega, by omega⟩ (by omega)
    exact L.1
  · rw [if_neg h, if_neg h]
theorem sum_bounds {M : Int} : ∀ (l : List Int), (∀ x ∈ l, 0 ≤ x ∧ x ≤ M) → 0 ≤ l.sum ∧ l.sum ≤ l.length * M
  | [], _ => by simp
  | a :: l, h => by
    have := sum_bounds l (fun x hx => h x (List.mem_cons_of_mem _ hx))
    have ha := h a List.mem_cons_self
    rw [List.sum_cons, List.length_cons]
    have e : ((l.length + 1 : Nat) : Int) * M = l.length * M + M := by
      rw [Int.natCast_add, Int.add_mul]
      simp
    omega
/-- Small sums: a list whose numbers are from 0 to M, and whose length times M is small. -/
def Small (l : List Int) : Prop := ∃ M : Int, (∀ x ∈ l, 0 ≤ x ∧ x ≤ M) ∧ l.length * M ≤ 4611686018427387904 ∧ l.length ≤ 4611686018427387904
theorem Small.drop {l : List Int} (h : Small l) (i : Nat) : 0 ≤ (l.drop i).sum ∧ (l.drop i).sum ≤ l.sum := by
  obtain ⟨M, h1, h2, h3⟩ := h
  have e : l.sum = (l.take i).sum + (l.drop i).sum := by rw [← List.sum_append, List.take_append_drop]
  have a := sum_bounds (M := M) (l.take i) (fun x hx => h1 x (List.mem_of_mem_take hx))
  have b := sum_bounds (M := M) (l.drop i) (fun x hx => h1 x (List.mem_of_mem_drop hx))
  omega
theorem Small.sum {l : List Int} (h : Small l) : 0 ≤ l.sum ∧ l.sum ≤ 4611686018427387904 := by
  obtain ⟨M, h1, h2, h3⟩ := h
  have := sum_bounds l h1
  omega
theorem sumS_spec (l : List Int) (h : Small l) (k : Nat) (hk : l.length < k) : spec_l02Sum.f k l = some l.sum := by
  obtain ⟨M, h1, h2, h3⟩ := id h
  unfold spec_l02Sum.f
  have hs := h.sum
  have key : ∀ (d k i : Nat) (s : Int), i + d = l.length → d < k → s + (l.drop i).sum = l.sum → 0 ≤ s → spec_l02Sum.l0 k l s i = some l.sum := by
    intro d
    induction d with
    | zero =>
      intro k i s hd hk hsum h0
      obtain ⟨k, rfl⟩ : ∃ m, k = m + 1 := ⟨k - 1, by omega⟩
      simp only [spec_l02Sum.l0]
      rw [if_neg (by omega)]
      rw [List.drop_eq_nil_of_le (by omega)] at hsum
      simp at hsum
      rw [hsum]
    | succ d ih =>
      intro k i s hd hk hsum h0
      obtain ⟨k, rfl⟩ : ∃ m, k = m + 1 := ⟨k - 1, by omega⟩
      have hi : i < l.length := by omega
      simp only [spec_l02Sum.l0]
      rw [if_pos (by omega), if_pos (by omega), w64s (n := l.length) (by omega) (by omega) (by omega)]
      have e : rd l (i : Int) = l[i] := by simp [rd, List.getD_eq_getElem?_getD, hi]
      have hx := h1 _ (List.getElem_mem hi)
      rw [List.drop_eq_getElem_cons hi, List.sum_cons] at hsum
      have hd2 := h.drop (i + 1)
      rw [e, w64 (n := s + l[i]) (by omega) (by omega)]
      have := ih k (i + 1) (s + l[i]) (by omega) (by omega) (by omega) (by omega)
      simpa using this
  exact key l.length k 0 0 (by omega) hk (by simp) (by omega)
theorem sumI_impl (l : List Int) (h : Small l) (k : Nat) (hk : l.length < k) : impl_sum.f k l = some l.sum := by
  obtain ⟨M, h1, h2, h3⟩ := id h
  unfold impl_sum.f
  have hs := h.sum
  have key : ∀ (d k i : Nat) (s : Int), i + d = l.length → d < k → s + (l.drop i).sum = l.sum → 0 ≤ s → impl_sum.l0 k s l l.length i = some l.sum := by
    intro d
    induction d with
    | zero =>
      intro k i s hd hk hsum h0
      obtain ⟨k, rfl⟩ : ∃ m, k = m + 1 := ⟨k - 1, by omega⟩
      simp only [impl_sum.l0]
      rw [if_neg (by omega)]
      rw [List.drop_eq_nil_of_le (by omega)] at hsum
      simp at hsum
      rw [hsum]
    | succ d ih =>
      intro k i s hd hk hsum h0
      obtain ⟨k, rfl⟩ : ∃ m, k = m + 1 := ⟨k - 1, by omega⟩
      have hi : i < l.length := by omega
      simp only [impl_sum.l0]
      rw [if_pos (by omega), if_pos (by omega), if_pos (by omega), w64s (n := l.length) (by omega) (by omega) (by omega)]
      have e : rd l (i : Int) = l[i] := by simp [rd, List.getD_eq_getElem?_getD, hi]
      have hx := h1 _ (List.getElem_mem hi)
      rw [List.drop_eq_getElem_cons hi, List.sum_cons] at hsum
      have hd2 := h.drop (i + 1)
      rw [e, w64 (n := s + l[i]) (by omega) (by omega)]
      have := ih k (i + 1) (s + l[i]) (by omega) (by omega) (by omega) (by omega)
      simpa using this
  exact key l.length k 0 0 (by omega) hk (by simp) (by omega)
theorem k_small {l : List S42} {ks : List Int} (h : kOk l ks = true) : Small ks := by
  refine ⟨100, fun x hx => ?_, by have := k_len h; omega, by have := k_len h; omega⟩
  obtain ⟨i, hi, rfl⟩ := List.mem_iff_getElem.1 hx
  have hq := k_at h i hi
  have hf := flOk_iff.1 hq.1
  have e : ks.getD i 0 = ks[i] := by simp [List.getD_eq_getElem?_getD, hi]
  rw [e] at hq
  omega
def strength (l : List S42) (ks : List Int) : Int := if kOk l ks = true ∧ ks.sum ≠ 0 then dot S42.f0 l ks / ks.sum else -1
theorem strength_spec (l : List S42) (ks : List Int) (k : Nat) (hl : l.length ≤ 1000000000) (hks : ks.length ≤ 1000000000) (hk : l.length + 2 * ks.length + 8 < k) : spec_StrengthOf.f k l ks = some (strength l ks) := by
  obtain ⟨k, rfl⟩ : ∃ m, k = m + 1 := ⟨k - 1, by omega⟩
  simp only [spec_StrengthOf.f, k_spec l ks (k + 1) hl hks (by omega), Option.bind_some, strength, spec_StrengthOf.j0]
  by_cases h : kOk l ks = true
  · have hlen := k_len h
    have hs := k_small h
    rw [if_pos h, sumS_spec ks hs (k + 1) (by omega)]
    simp only [Option.bind_some]
    by_cases h0 : ks.sum = 0
    · rw [if_pos (by simp [h0]), if_neg (c := kOk l ks = true ∧ ks.sum ≠ 0) (fun hh => hh.2 h0)]
    · rw [if_neg (by simp [h0]), if_pos (c := kOk l ks = true ∧ _) ⟨h, h0⟩]
      have hsum := hs.sum
      have L := loop_fold (fun k i c => spec_StrengthOf.l0 k l ks c i) ks.length ks.length (by omega) (fun i c => 0 ≤ c ∧ c ≤ 50000 * (i : Int)) (fun c i => c + (l.getD i z42).f0 * ks.getD i 0) (fun c => some (c / ks.sum))
        (fun k i c hB hi hc => by
          have hq := k_at h i hi
          have hf := flOk_iff.1 hq.1
          simp only [spec_StrengthOf.l0, rdIFlour, rd_nat]
          rw [if_pos (by omega), if_pos (by omega), if_pos (by omega)]
          have hm := mul_small (a := (l.getD i z42).f0) (b := ks.getD i 0) (by omega) (by omega) (by omega) (by omega)
          rw [w64 (n := (l.getD i z42).f0 * ks.getD i 0) (by omega) (by omega), w64 (by omega) (by omega)])
        (fun i c hi hc => by
          have hq := k_at h i hi
          have hf := flOk_iff.1 hq.1
          have hm := mul_small (a := (l.getD i z42).f0) (b := ks.getD i 0) (by omega) (by omega) (by omega) (by omega)
          omega)
        (fun k c hB hc => by
          simp only [spec_StrengthOf.l0]
          rw [if_neg (by omega), sumS_spec ks hs k hB]
          simp only [Option.bind_some]
          rw [if_neg h0, Int.tdiv_eq_ediv_of_nonneg hc.1]
          have d1 : 0 ≤ c / ks.sum := Int.ediv_nonneg hc.1 hsum.1
          have d2 : c / ks.sum ≤ c := Int.ediv_le_self _ hc.1
          rw [w64 (by omega) (by omega)]) k 0 ⟨by omega, by omega⟩ (by omega)
      exact L.1
  · rw [if_neg h, if_pos trivial, if_neg (c := kOk l ks = true ∧ _) (fun hh => h hh.1)]
theorem strength_impl (l : List S42) (ks : List Int) (k : Nat) (hl : l.length ≤ 1000000000) (hks : ks.length ≤ 1000000000) (hk : l.length + 2 * ks.length + 8 < k) : impl_StrengthOf.f k l ks = some (strength l ks) := by
  obtain ⟨k, rfl⟩ : ∃ m, k = m + 1 := ⟨k - 1, by omega⟩
  simp only [impl_StrengthOf.f, k_impl l ks (k + 1) hl hks (by omega), Option.bind_some, strength, impl_StrengthOf.j0]
  by_cases h : kOk l ks = true
  · have hlen := k_len h
    have hs := k_small h
    rw [if_pos h, sumI_impl ks hs (k + 1) (by omega)]
    simp only [Option.bind_some]
    by_cases h0 : ks.sum = 0
    · rw [if_pos (by simp [h0]), if_neg (c := kOk l ks = true ∧ ks.sum ≠ 0) (fun hh => hh.2 h0)]
    · rw [if_neg (by simp [h0]), if_pos (c := kOk l ks = true ∧ _) ⟨h, h0⟩]
      have hsum := hs.sum
      have L := loop_fold (fun k i c => impl_StrengthOf.l0 k l ks c ks ks.length i) ks.length ks.length (by omega) (fun i c => 0 ≤ c ∧ c ≤ 50000 * (i : Int)) (fun c i => c + (l.getD i z42).f0 * ks.getD i 0) (fun c => some (c / ks.sum))
        (fun k i c hB hi hc => by
          have hq := k_at h i hi
          have hf := flOk_iff.1 hq.1
          simp only [impl_StrengthOf.l0, rdIFlour, rd_nat]
          rw [if_pos (by omega), if_pos (by omega), if_pos (by omega), if_pos (by omega)]
          have hm := mul_small (a := (l.getD i z42).f0) (b := ks.getD i 0) (by omega) (by omega) (by omega) (by omega)
          rw [w64 (n := (l.getD i z42).f0 * ks.getD i 0) (by omega) (by omega), w64 (by omega) (by omega)])
        (fun i c hi hc => by
          have hq := k_at h i hi
          have hf := flOk_iff.1 hq.1
          have hm := mul_small (a := (l.getD i z42).f0) (b := ks.getD i 0) (by omega) (by omega) (by omega) (by omega)
          omega)
        (fun k c hB hc => by
          simp only [impl_StrengthOf.l0]
          rw [if_neg (by omega), sumI_impl ks hs k hB]
          simp only [Option.bind_some]
          rw [if_neg h0, Int.tdiv_eq_ediv_of_nonneg hc.1]
          have d1 : 0 ≤ c / ks.sum := Int.ediv_nonneg hc.1 hsum.1
          have d2 : c / ks.sum ≤ c := Int.ediv_le_self _ hc.1
          rw [w64 (by omega) (by omega)]) k 0 ⟨by omega, by omega⟩ (by omega)
      exact L.1
  · rw [if_neg h, if_pos trivial, if_neg (c := kOk l ks = true ∧ _) (fun hh => h hh.1)]
/-- Two neighbours change places. -/
def swp (xs : List Int) (j : Nat) : List Int := (xs.set j (xs.getD (j - 1) 0)).set (j - 1) (xs.getD j 0)
theorem swp_len (xs : List Int) (j : Nat) : (swp xs j).length = xs.length := by simp [swp]
theorem swp_get (xs : List Int) (j : Nat) (h0 : 0 < j) (hj : j < xs.length) (a : Nat) : (swp xs j).getD a 0 = if a = j - 1 then xs.getD j 0 else if a = j then xs.getD (j - 1) 0 else xs.getD a 0 := by
  unfold swp
  simp only [List.getD_eq_getElem?_getD, List.getElem?_set, List.length_set]
  by_cases e : a = j - 1
  · subst e
    rw [if_pos rfl, if_pos rfl, if_pos (by omega)]
    rfl
  · rw [if_neg (fun h => e h.symm), if_neg e]
    by_cases e2 : a = j
    · subst e2
      rw [if_pos rfl, if_pos rfl, if_pos hj]
      rfl
    · rw [if_neg (fun h => e2 h.symm), if_neg e2]
theorem swp_perm (xs : List Int) (j : Nat) (h0 : 0 < j) (hj : j < xs.length) : (swp xs j).Perm xs := by
  obtain ⟨i, rfl⟩ : ∃ i, j = i + 1 := ⟨j - 1, by omega⟩
  have e1 : xs.getD (i + 1) 0 = xs[i + 1] := by simp [List.getD_eq_getElem?_getD, hj]
  have e0 : xs.getD i 0 = xs[i]'(by omega) := by simp [List.getD_eq_getElem?_getD, show i < xs.length by omega]
  have hx : xs = xs.take i ++ xs[i]'(by omega) :: xs[i + 1] :: xs.drop (i + 2) := by
    conv => lhs; rw [← List.take_append_drop i xs, List.drop_eq_getElem_cons (by omega), List.drop_eq_getElem_cons hj]
  have hs : swp xs (i + 1) = xs.take i ++ xs[i + 1] :: xs[i]'(by omega) :: xs.drop (i + 2) := by
    apply List.ext_getElem
    · rw [swp_len]
      simp
      omega
    · intro a h1 h2
      have g := swp_get xs (i + 1) (by omega) hj a
      rw [List.getD_eq_getElem?_getD, List.getElem?_eq_getElem h1, Option.getD_some] at g
      rw [g]
      simp only [Nat.add_sub_cancel]
      have hl : (xs.take i).length = i := by simp; omega
      by_cases ea : a < i
      · rw [if_neg (by omega), if_neg (by omega), List.getElem_append_left (by omega), List.getElem_take]
        simp [List.getD_eq_getElem?_getD, show a < xs.length by omega]
      · rw [List.getElem_append_right (by omega)]
        by_cases e3 : a = i
        · subst e3
          simp [hl, List.getD_eq_getElem?_getD, hj]
        · by_cases e4 : a = i + 1
          · subst e4
            simp [hl, List.getD_eq_getElem?_getD, show i < xs.length by omega]
          · rw [if_neg e3, if_neg e4]
            obtain ⟨b, rfl⟩ : ∃ b, a = i + 2 + b := ⟨a - (i + 2), by omega⟩
            rw [swp_len] at h1
            simp [hl, show i + 2 + b - i = b + 1 + 1 by omega, List.getD_eq_getElem?_getD, h1]
  rw [hs]
  conv => rhs; rw [hx]
  exact List.Perm.append_left _ (List.Perm.swap _ _ _)
/-- The first i + 1 places are in order, but for place j's to those before it. -/
def Near (key : Int → Int) (xs : List Int) (i j : Nat) : Prop := ∀ a b : Nat, a < b → b ≤ i → b ≠ j → key (xs.getD a 0) ≤ key (xs.getD b 0)
def Upto (key : Int → Int) (xs : List Int) (i : Nat) : Prop := ∀ a b : Nat, a < b → b < i → key (xs.getD a 0) ≤ key (xs.getD b 0)
/-- Insertion sort by neighbours' swaps, of any two loops that do it. -/
theorem insertion (L0 : Nat → List Int → Int → Option (List Int)) (L1 : Nat → List Int → Int → Int → Option (List Int)) (key : Int → Int) (n : Nat) (V : List Int → Prop)
    (h0 : ∀ k xs (i : Nat), i < n → xs.length = n → V xs → L0 (k + 1) xs i = L1 k xs i i)
    (hend : ∀ k xs, xs.length = n → V xs → L0 (k + 1) xs n = some xs)
    (h1 : ∀ k xs (i j : Nat), 0 < j → j ≤ i → i < n → xs.length = n → V xs → L1 (k + 1) xs i j = if key (xs.getD j 0) < key (xs.getD (j - 1) 0) then L1 k (swp xs j) i ((j - 1 : Nat) : Int) else L0 k xs ((i + 1 : Nat) : Int))
    (h1z : ∀ k xs (i : Nat), i < n → xs.length = n → V xs → L1 (k + 1) xs i 0 = L0 k xs ((i + 1 : Nat) : Int))
    (hV : ∀ xs ys, V xs → ys.Perm xs → V ys) :
    ∀ (d k i : Nat) (xs : List Int), i + d = n → d * (n + 3) + 1 < k → xs.length = n → V xs → Upto key xs i → ∃ ys, L0 k xs i = some ys ∧ ys.Perm xs ∧ Upto key ys n := by
  have inner : ∀ (j k i : Nat) (xs : List Int), j ≤ i → i < n → j + 1 < k → xs.length = n → V xs → Near key xs i j → ∃ ys k', k - j - 1 ≤ k' ∧ L1 k xs i j = L0 k' ys ((i + 1 : Nat) : Int) ∧ ys.Perm xs ∧ Upto key ys (i + 1) := by
    intro j
    induction j with
    | zero =>
      intro k i xs hji hi hk hl hv hn
      obtain ⟨k, rfl⟩ : ∃ m, k = m + 1 := ⟨k - 1, by omega⟩
      exact ⟨xs, k, by omega, h1z k xs i hi hl hv, List.Perm.refl _, fun a b hab hb => hn a b hab (by omega) (by omega)⟩
    | succ j ih =>
      intro k i xs hji hi hk hl hv hn
      obtain ⟨k, rfl⟩ : ∃ m, k = m + 1 := ⟨k - 1, by omega⟩
      rw [h1 k xs i (j + 1) (by omega) hji hi hl hv, Nat.add_sub_cancel]
      by_cases c : key (xs.getD (j + 1) 0) < key (xs.getD j 0)
      · rw [if_pos c]
        have hp := swp_perm xs (j + 1) (by omega) (by omega)
        obtain ⟨ys, k', hk', e, p, u⟩ := ih k i (swp xs (j + 1)) (by omega) hi (by omega) (by rw [swp_len, hl]) (hV _ _ hv hp) (fun a b hab hb hbj => by
          rw [swp_get xs (j + 1) (by omega) (by omega) a, swp_get xs (j + 1) (by omega) (by omega) b, Nat.add_sub_cancel]
          by_cases eb : b = j + 1
          · subst eb
            rw [if_neg (c := j + 1 = j) (by omega), if_pos (c := j + 1 = j + 1) rfl]
            by_cases ea : a = j
            · rw [if_pos ea]
              omega
            · rw [if_neg ea, if_neg (c := a = j + 1) (by omega)]
              exact hn a j (by omega) (by omega) (by omega)
          · rw [if_neg (c := b = j) hbj, if_neg (c := b = j + 1) eb]
            by_cases ea : a = j
            · rw [if_pos ea]
              exact hn (j + 1) b (by omega) hb eb
            · rw [if_neg ea]
              by_cases ea2 : a = j + 1
              · rw [if_pos ea2]
                exact hn j b (by omega) hb eb
              · rw [if_neg ea2]
                exact hn a b hab hb eb)
        exact ⟨ys, k', by omega, e, p.trans hp, u⟩
      · rw [if_neg c]
        refine ⟨xs, k, by omega, rfl, List.Perm.refl _, fun a b hab hb => ?_⟩
        by_cases eb : b = j + 1
        · subst eb
          by_cases ea : a = j
          · subst ea
            omega
          · have := hn a j (by omega) (by omega) (by omega)
            omega
        · exact hn a b hab (by omega) eb
  intro d
  induction d with
  | zero =>
    intro k i xs hi hk hl hv hu
    obtain ⟨k, rfl⟩ : ∃ m, k = m + 1 := ⟨k - 1, by omega⟩
    have : i = n := by omega
    subst this
    exact ⟨xs, hend k xs hl hv, List.Perm.refl _, hu⟩
  | succ d ih =>
    intro k i xs hi hk hl hv hu
    have hmul : (d + 1) * (n + 3) = d * (n + 3) + (n + 3) := Nat.succ_mul _ _
    obtain ⟨k, rfl⟩ : ∃ m, k = m + 1 := ⟨k - 1, by omega⟩
    rw [h0 k xs i (by omega) hl hv]
    obtain ⟨ys, k', hk', e, p, u⟩ := inner i k i xs (Nat.le_refl _) (by omega) (by omega) hl hv (fun a b hab hb hbi => hu a b hab (by omega))
    obtain ⟨zs, e2, p2, u2⟩ := ih k' (i + 1) ys (by omega) (by omega) (by rw [p.length_eq, hl]) (hV _ _ hv p) u
    rw [e]
    exact ⟨zs, e2, p2.trans p, u2⟩
/-- In order by a key, and by themselves where the keys agree. -/
def Lex (key : Int → Int) (x y : Int) : Prop := key x < key y ∨ (key x = key y ∧ x < y)
def UptoL (key : Int → Int) (xs : List Int) (i : Nat) : Prop := ∀ a b : Nat, a < b → b < i → Lex key (xs.getD a 0) (xs.getD b 0)
def NearL (key : Int → Int) (xs : List Int) (i j : Nat) : Prop := ∀ a b : Nat, a < b → b ≤ i → b ≠ j → Lex key (xs.getD a 0) (xs.getD b 0)
def TopL (xs : List Int) (i j : Nat) : Prop := ∀ a : Nat, a ≤ i → a ≠ j → xs.getD a 0 < xs.getD j 0
def RestL (xs : List Int) (n i : Nat) : Prop := ∀ a b : Nat, a < b → i ≤ b → b < n → xs.getD a 0 < xs.getD b 0
/-- Insertion sort by neighbours' swaps of ascending numbers: stable, of any two loops that do it. -/
theorem insertion_st (L0 : Nat → List Int → Int → Option (List Int)) (L1 : Nat → List Int → Int → Int → Option (List Int)) (key : Int → Int) (n : Nat) (V : List Int → Prop)
    (h0 : ∀ k xs (i : Nat), i < n → xs.length = n → V xs → L0 (k + 1) xs i = L1 k xs i i)
    (hend : ∀ k xs, xs.length = n → V xs → L0 (k + 1) xs n = some xs)
    (h1 : ∀ k xs (i j : Nat), 0 < j → j ≤ i → i < n → xs.length = n → V xs → L1 (k + 1) xs i j = if key (xs.getD j 0) < key (xs.getD (j - 1) 0) then L1 k (swp xs j) i ((j - 1 : Nat) : Int) else L0 k xs ((i + 1 : Nat) : Int))
    (h1z : ∀ k xs (i : Nat), i < n → xs.length = n → V xs → L1 (k + 1) xs i 0 = L0 k xs ((i + 1 : Nat) : Int))
    (hV : ∀ xs ys, V xs → ys.Perm xs → V ys) :
    ∀ (d k i : Nat) (xs : List Int), i + d = n → d * (n + 3) + 1 < k → xs.length = n → V xs → UptoL key xs i → RestL xs n i → ∃ ys, L0 k xs i = some ys ∧ ys.Perm xs ∧ UptoL key ys n := by
  have inner : ∀ (j k i : Nat) (xs : List Int), j ≤ i → i < n → j + 1 < k → xs.length = n → V xs → NearL key xs i j → TopL xs i j → RestL xs n (i + 1) → ∃ ys k', k - j - 1 ≤ k' ∧ L1 k xs i j = L0 k' ys ((i + 1 : Nat) : Int) ∧ ys.Perm xs ∧ UptoL key ys (i + 1) ∧ RestL ys n (i + 1) := by
    intro j
    induction j with
    | zero =>
      intro k i xs hji hi hk hl hv hn ht hr
      obtain ⟨k, rfl⟩ : ∃ m, k = m + 1 := ⟨k - 1, by omega⟩
      exact ⟨xs, k, by omega, h1z k xs i hi hl hv, List.Perm.refl _, fun a b hab hb => hn a b hab (by omega) (by omega), hr⟩
    | succ j ih =>
      intro k i xs hji hi hk hl hv hn ht hr
      obtain ⟨k, rfl⟩ : ∃ m, k = m + 1 := ⟨k - 1, by omega⟩
      rw [h1 k xs i (j + 1) (by omega) hji hi hl hv, Nat.add_sub_cancel]
      by_cases c : key (xs.getD (j + 1) 0) < key (xs.getD j 0)
      · rw [if_pos c]
        have hp := swp_perm xs (j + 1) (by omega) (by omega)
        have hg := fun a => swp_get xs (j + 1) (by omega) (by omega) a
        simp only [Nat.add_sub_cancel] at hg
        obtain ⟨ys, k', hk', e, p, u, r⟩ := ih k i (swp xs (j + 1)) (by omega) hi (by omega) (by rw [swp_len, hl]) (hV _ _ hv hp) (fun a b hab hb hbj => by
          rw [hg a, hg b]
          by_cases eb : b = j + 1
          · subst eb
            rw [if_neg (c := j + 1 = j) (by omega), if_pos (c := j + 1 = j + 1) rfl]
            by_cases ea : a = j
            · rw [if_pos ea]
              exact .inl c
            · rw [if_neg ea, if_neg (c := a = j + 1) (by omega)]
              exact hn a j (by omega) (by omega) (by omega)
          · rw [if_neg (c := b = j) hbj, if_neg (c := b = j + 1) eb]
            by_cases ea : a = j
            · rw [if_pos ea]
              exact hn (j + 1) b (by omega) hb eb
            · rw [if_neg ea]
              by_cases ea2 : a = j + 1
              · rw [if_pos ea2]
                exact hn j b (by omega) hb eb
              · rw [if_neg ea2]
                exact hn a b hab hb eb) (fun a ha haj => by
          rw [hg a, hg j, if_pos (c := j = j) rfl, if_neg haj]
          by_cases ea : a = j + 1
          · rw [if_pos ea]
            exact ht j (by omega) (by omega)
          · rw [if_neg ea]
            exact ht a ha ea) (fun a b hab hb hbn => by
          rw [hg a, hg b, if_neg (c := b = j) (by omega), if_neg (c := b = j + 1) (by omega)]
          by_cases ea : a = j
          · rw [if_pos ea]
            exact hr (j + 1) b (by omega) hb hbn
          · rw [if_neg ea]
            by_cases ea2 : a = j + 1
            · rw [if_pos ea2]
              exact hr j b (by omega) hb hbn
            · rw [if_neg ea2]
              exact hr a b hab hb hbn)
        exact ⟨ys, k', by omega, e, p.trans hp, u, r⟩
      · rw [if_neg c]
        refine ⟨xs, k, by omega, rfl, List.Perm.refl _, fun a b hab hb => ?_, hr⟩
        by_cases eb : b = j + 1
        · subst eb
          have hj := ht j (by omega) (by omega)
          by_cases ea : a = j
          · subst ea
            unfold Lex
            omega
          · have := hn a j (by omega) (by omega) (by omega)
            unfold Lex at this ⊢
            omega
        · exact hn a b hab (by omega) eb
  intro d
  induction d with
  | zero =>
    intro k i xs hi hk hl hv hu hr
    obtain ⟨k, rfl⟩ : ∃ m, k = m + 1 := ⟨k - 1, by omega⟩
    have : i = n := by omega
    subst this
    exact ⟨xs, hend k xs hl hv, List.Perm.refl _, hu⟩
  | succ d ih =>
    intro k i xs hi hk hl hv hu hr
    have hmul : (d + 1) * (n + 3) = d * (n + 3) + (n + 3) := Nat.succ_mul _ _
    obtain ⟨k, rfl⟩ : ∃ m, k = m + 1 := ⟨k - 1, by omega⟩
    rw [h0 k xs i (by omega) hl hv]
    obtain ⟨ys, k', hk', e, p, u, r⟩ := inner i k i xs (Nat.le_refl _) (by omega) (by omega) hl hv (fun a b hab hb hbi => hu a b hab (by omega)) (fun a ha hai => hr a i (by omega) (by omega) (by omega)) (fun a b hab hb hbn => hr a b hab (by omega) hbn)
    obtain ⟨zs, e2, p2, u2⟩ := ih k' (i + 1) ys (by omega) (by omega) (by rw [p.length_eq, hl]) (hV _ _ hv p) u r
    rw [e]
    exact ⟨zs, e2, p2.trans p, u2⟩
/-- Two rows of the same numbers in the same strict order are the same row. -/
theorem lex_unique (key : Int → Int) : ∀ (xs ys : List Int), xs.Perm ys → xs.Pairwise (Lex key) → ys.Pairwise (Lex key) → xs = ys := by
  intro xs
  induction xs with
  | nil => intro ys p _ _; exact (List.nil_perm.1 p).symm ▸ rfl
  | cons x xs ih =>
    intro ys p hx hy
    match ys, p, hy with
    | [], p, _ => simp at p
    | y :: ys, p, hy =>
      have e : x = y := by
        apply Classical.byContradiction
        intro ne
        have h1 : x ∈ ys := by
          have := p.mem_iff.1 (List.mem_cons_self (a := x) (l := xs))
          rcases List.mem_cons.1 this with h | h
          · exact absurd h ne
          · exact h
        have h2 : y ∈ xs := by
          have := p.mem_iff.2 (List.mem_cons_self (a := y) (l := ys))
          rcases List.mem_cons.1 this with h | h
          · exact absurd h.symm ne
          · exact h
        have a := (List.pairwise_cons.1 hx).1 y h2
        have b := (List.pairwise_cons.1 hy).1 x h1
        unfold Lex at a b
        omega
      subst e
      rw [ih ys (List.Perm.cons_inv p) (List.pairwise_cons.1 hx).2 (List.pairwise_cons.1 hy).2]
theorem uptoL_pairwise (key : Int → Int) (xs : List Int) (h : UptoL key xs xs.length) : xs.Pairwise (Lex key) := by
  rw [List.pairwise_iff_getElem]
  intro i j hi hj hij
  have := h i j hij hj
  simpa [List.getD_eq_getElem?_getD, hi, hj] using this
theorem indices_ok (n k : Nat) (hn : n ≤ 1000000) (hk : n + 1 < k) : impl_indices.f k n = some ((List.range n).map fun i : Nat => (i : Int)) := by
  unfold impl_indices.f
  have h := (loop_fold (fun k i xs => impl_indices.l0 k xs n i) n 0 (by omega) (fun i xs => xs.length = i) (fun xs i => xs ++ [(i : Int)]) (fun xs => some xs)
    (fun k i s _ hi hp => by
      simp only [impl_indices.l0]
      rw [if_pos (by omega), if_pos (by omega)])
    (fun i s _ hp => by simp [hp])
    (fun k s _ hp => by
      simp only [impl_indices.l0]
      rw [if_neg (by omega)]) k [] rfl (by omega)).1
  rw [h]
  have key : ∀ (is : List Nat) (acc : List Int), is.foldl (fun (xs : List Int) (i : Nat) => xs ++ [(i : Int)]) acc = acc ++ is.map (fun i : Nat => (i : Int)) := by
    intro is
    induction is with
    | nil => intro acc; simp
    | cons i is ih => intro acc; simp [ih]
  rw [key]
  rfl
set_option maxRecDepth 100000 in
theorem len_small (n k : Nat) (hn : n ≤ 12) (hk : 0 < k) : ∃ v, bits_Len.f k (IntKind.u64.wrap (n : Int)) = some v := by
  obtain ⟨k, rfl⟩ : ∃ m, k = m + 1 := ⟨k - 1, by omega⟩
  have e : IntKind.u64.wrap (n : Int) = (n : Int) := by
    match n, hn with
    | 0, _ => rfl
    | 1, _ => rfl
    | 2, _ => rfl
    | 3, _ => rfl
    | 4, _ => rfl
    | 5, _ => rfl
    | 6, _ => rfl
    | 7, _ => rfl
    | 8, _ => rfl
    | 9, _ => rfl
    | 10, _ => rfl
    | 11, _ => rfl
    | 12, _ => rfl
  rw [e]
  unfold bits_Len.f bits_Len64.f
  rw [if_neg (by omega)]
  rw [bits_Len64.j0]
  rw [if_neg (by omega), if_neg (by omega), if_pos (by omega), if_pos (by omega)]
  exact ⟨_, rfl⟩
/-- The key the flours are sorted by. -/
def flKey (l : List S42) (x : Int) : Int := - (l.getD x.toNat z42).f0
theorem strong_sort (l : List S42) (hl : l.length ≤ 12) (hok : ∀ f ∈ l, flOk f = true) (k : Nat) (hk : l.length * (l.length + 3) + 30 < k) :
    ∃ ys, slices_SortFunc_int_int.f k ((List.range l.length).map fun i : Nat => (i : Int)) l = some ys ∧ ys.Perm ((List.range l.length).map fun i : Nat => (i : Int)) ∧ UptoL (flKey l) ys l.length := by
  unfold slices_SortFunc_int_int.f
  have hlen : ((List.range l.length).map fun i : Nat => (i : Int)).length = l.length := by simp
  obtain ⟨v, hv⟩ := len_small l.length k hl (by omega)
  rw [hlen, hv]
  simp only [Option.bind_some]
  obtain ⟨k, rfl⟩ : ∃ m, k = m + 1 + 1 := ⟨k - 2, by omega⟩
  simp only [slices_pdqsortCmpFunc_int.f, slices_pdqsortCmpFunc_int.l0]
  rw [w64 (n := (l.length : Int) - 0) (by omega) (by omega), if_pos (by omega)]
  unfold slices_insertionSortCmpFunc_int.f
  rw [w64 (n := 0 + 1) (by omega) (by omega)]
  by_cases h0 : l.length = 0
  · obtain ⟨k, rfl⟩ : ∃ m, k = m + 1 := ⟨k - 1, by omega⟩
    refine ⟨_, ?_, List.Perm.refl _, fun a b _ hb => by omega⟩
    simp only [slices_insertionSortCmpFunc_int.l0]
    rw [if_neg (by omega)]
    rfl
  · have rdm : ∀ (xs : List Int) (j : Nat), xs.length = l.length → j < l.length → (∀ x ∈ xs, 0 ≤ x ∧ x < (l.length : Int)) → 0 ≤ xs.getD j 0 ∧ xs.getD j 0 < (l.length : Int) := by
      intro xs j hxl hj hV
      exact hV _ (by simp [List.getD_eq_getElem?_getD, show j < xs.length by omega])
    have h := insertion_st (fun k xs i => slices_insertionSortCmpFunc_int.l0 k xs 0 l.length i l) (fun k xs i j => slices_insertionSortCmpFunc_int.l1 k xs 0 l.length i j l) (flKey l) l.length (fun xs => ∀ x ∈ xs, 0 ≤ x ∧ x < (l.length : Int))
      (fun k xs i hi hxl hV => by
        simp only [slices_insertionSortCmpFunc_int.l0]
        rw [if_pos (by omega)])
      (fun k xs hxl hV => by
        simp only [slices_insertionSortCmpFunc_int.l0]
        rw [if_neg (by omega)])
      (fun k xs i j hj hji hi hxl hV => by
        have a1 := rdm xs j hxl (by omega) hV
        have a0 := rdm xs (j - 1) hxl (by omega) hV
        have ej : wrap64 ((j : Int) - 1) = ((j - 1 : Nat) : Int) := by rw [w64 (by omega) (by omega)]; omega
        simp only [slices_insertionSortCmpFunc_int.l1, ej]
        rw [if_pos (by omega), if_pos (by omega), if_pos (by omega), if_pos (by omega), if_pos (by omega), rd_nat, rd_nat]
        simp only [impl_StrongestFor_1.f]
        rw [if_pos a0.1, if_pos a0.2, if_pos a1.1, if_pos a1.2]
        simp only [Option.bind_some]
        obtain ⟨p, hp⟩ : ∃ p : Nat, xs.getD j 0 = (p : Int) := ⟨(xs.getD j 0).toNat, by omega⟩
        obtain ⟨q, hq⟩ : ∃ q : Nat, xs.getD (j - 1) 0 = (q : Int) := ⟨(xs.getD (j - 1) 0).toNat, by omega⟩
        have hpl : p < l.length := by omega
        have hql : q < l.length := by omega
        have fp := flOk_iff.1 (hok (l.getD p z42) (by simp [List.getD_eq_getElem?_getD, hpl]))
        have fq := flOk_iff.1 (hok (l.getD q z42) (by simp [List.getD_eq_getElem?_getD, hql]))
        have hc : (wrap64 ((rd_T42 l (xs.getD (j - 1) 0)).f0 - (rd_T42 l (xs.getD j 0)).f0) < 0) ↔ flKey l (xs.getD j 0) < flKey l (xs.getD (j - 1) 0) := by
          rw [hp, hq, rdIFlour, rdIFlour, w64 (by omega) (by omega)]
          unfold flKey
          rw [Int.toNat_natCast, Int.toNat_natCast]
          omega
        by_cases c : flKey l (xs.getD j 0) < flKey l (xs.getD (j - 1) 0)
        · rw [if_pos (hc.2 c), if_pos c, Int.toNat_natCast, Int.toNat_natCast]
          rfl
        · rw [if_neg (fun h => c (hc.1 h)), if_neg c, w64 (by omega) (by omega)]
          rfl)
      (fun k xs i hi hxl hV => by
        simp only [slices_insertionSortCmpFunc_int.l1]
        rw [if_neg (by omega), w64 (by omega) (by omega)]
        rfl)
      (fun xs ys hV hp x hx => hV x (hp.mem_iff.1 hx))
    have e2 : (l.length - 1) * (l.length + 3) ≤ l.length * (l.length + 3) := Nat.mul_le_mul_right _ (by omega)
    have hget : ∀ a : Nat, a < l.length → ((List.range l.length).map fun i : Nat => (i : Int)).getD a 0 = (a : Int) := by
      intro a ha
      simp [List.getD_eq_getElem?_getD, ha]
    obtain ⟨ys, e, p, u⟩ := h (l.length - 1) k 1 ((List.range l.length).map fun i : Nat => (i : Int)) (by omega) (by omega) hlen (fun x hx => by
      obtain ⟨i, hi, rfl⟩ := List.mem_map.1 hx
      have := List.mem_range.1 hi
      omega) (fun a b hab hb => by omega) (fun a b hab hb hbn => by
      rw [hget a (by omega), hget b hbn]
      omega)
    have e' : slices_insertionSortCmpFunc_int.l0 k ((List.range l.length).map fun i : Nat => (i : Int)) 0 l.length (0 + 1) l = some ys := e
    exact ⟨ys, by rw [e']; rfl, p, u⟩
theorem sum_ones (d i : Nat) : ((List.range' i d).map fun _ => 1).sum = d := by
  induction d generalizing i with
  | zero => rfl
  | succ d ih =>
    rw [List.range'_succ, List.map_cons, List.sum_cons, ih]
    omega
def candF (l : List S42) (ks : List Int) (i : Nat) : Prop := ks.getD i 0 = 0 ∧ (l.getD i z42).f2 > 0
def betterF (l : List S42) (m j : Nat) : Prop := (l.getD m z42).f0 > (l.getD j z42).f0 ∨ ((l.getD m z42).f0 = (l.getD j z42).f0 ∧ m < j)
def pickStep (l : List S42) (ks : List Int) (b : Int) (i : Nat) : Int := if ks.getD i 0 = 0 ∧ (l.getD i z42).f2 > 0 ∧ (b < 0 ∨ (l.getD i z42).f0 > (l.getD b.toNat z42).f0) then i else b
def pickF (l : List S42) (ks : List Int) : Int := (List.range l.length).foldl (pickStep l ks) (-1)
theorem pick_inv (l : List S42) (ks : List Int) (d : Nat) : ((List.range d).foldl (pickStep l ks) (-1) = -1 ∧ ∀ j, j < d → ¬ candF l ks j) ∨ ∃ m : Nat, m < d ∧ (List.range d).foldl (pickStep l ks) (-1) = m ∧ candF l ks m ∧ ∀ j, j < d → candF l ks j → j ≠ m → betterF l m j := by
  induction d with
  | zero => exact .inl ⟨rfl, fun j hj => by omega⟩
  | succ d ih =>
    rw [List.range_succ, List.foldl_append, List.foldl_cons, List.foldl_nil]
    rcases ih with ⟨e, h⟩ | ⟨m, hm, e, hc, h⟩
    · rw [e]
      by_cases c : candF l ks d
      · right
        refine ⟨d, by omega, ?_, c, fun j hj hcj hne => absurd hcj (h j (by omega))⟩
        unfold pickStep
        rw [if_pos ⟨c.1, c.2, .inl (by omega)⟩]
      · left
        refine ⟨?_, fun j hj => ?_⟩
        · unfold pickStep
          rw [if_neg (fun hh => c ⟨hh.1, hh.2.1⟩)]
        · by_cases ej : j = d
          · subst ej
            exact c
          · exact h j (by omega)
    · rw [e]
      right
      by_cases c : candF l ks d ∧ (l.getD d z42).f0 > (l.getD m z42).f0
      · refine ⟨d, by omega, ?_, c.1, fun j hj hcj hne => ?_⟩
        · unfold pickStep
          rw [if_pos ⟨c.1.1, c.1.2, .inr (by simpa using c.2)⟩]
        · by_cases ej : j = m
          · subst ej
            exact .inl c.2
          · have := h j (by omega) hcj ej
            unfold betterF at this ⊢
            omega
      · refine ⟨m, by omega, ?_, hc, fun j hj hcj hne => ?_⟩
        · unfold pickStep
          rw [if_neg]
          rintro ⟨h1, h2, h3⟩
          rcases h3 with h3 | h3
          · omega
          · exact c ⟨⟨h1, h2⟩, by simpa using h3⟩
        · by_cases ej : j = d
          · subst ej
            have : ¬ (l.getD j z42).f0 > (l.getD m z42).f0 := fun hh => c ⟨hcj, hh⟩
            unfold betterF
            omega
          · exact h j (by omega) hcj hne
theorem pick_none {l : List S42} {ks : List Int} (h : ∀ j, j < l.length → ¬ candF l ks j) : pickF l ks = -1 := by
  rcases pick_inv l ks l.length with ⟨e, _⟩ | ⟨m, hm, _, hc, _⟩
  · exact e
  · exact absurd hc (h m hm)
theorem pick_best {l : List S42} {ks : List Int} {m : Nat} (hm : m < l.length) (hc : candF l ks m) (h : ∀ j, j < l.length → candF l ks j → j ≠ m → betterF l m j) : pickF l ks = m := by
  rcases pick_inv l ks l.length with ⟨_, h2⟩ | ⟨p, hp, e, hcp, h2⟩
  · exact absurd hc (h2 m hm)
  · by_cases em : m = p
    · subst em
      exact e
    · have a := h2 m hm hc em
      have b := h p hp hcp (fun hh => em hh.symm)
      unfold betterF at a b
      omega
theorem pick_range (l : List S42) (ks : List Int) : pickF l ks = -1 ∨ ∃ m : Nat, m < l.length ∧ pickF l ks = m := by
  rcases pick_inv l ks l.length with ⟨e, _⟩ | ⟨m, hm, e, _, _⟩
  · exact .inl e
  · exact .inr ⟨m, hm, e⟩
def fillStep (l : List S42) (s : List Int × Int) (x : Nat) : List Int × Int := (s.1.set x (min s.2 (l.getD x z42).f2), s.2 - min s.2 (l.getD x z42).f2)
def ansF (l : List S42) (s : List Int × Int) : Int := if s.2 > 0 then -1 else strength l s.1
theorem mnF (a b : Int) : mn a b = min a b := by unfold mn; omega
/-- One round of the reference. -/
theorem strong_round (l : List S42) (ks : List Int) (left : Int) (rd k : Nat) (hl : l.length ≤ 5) (hks : ks.length = l.length) (hok : ∀ f ∈ l, flOk f = true) (hrd : rd < l.length) (hleft : 0 ≤ left ∧ left ≤ 500) :
    spec_StrongestFor.l0 (k + 1 + 1 + l.length + 1) l left ks rd = if pickF l ks ≥ 0 ∧ left > 0 then spec_StrongestFor.l0 (k + 1) l (fillStep l (ks, left) (pickF l ks).toNat).2 (fillStep l (ks, left) (pickF l ks).toNat).1 ((rd + 1 : Nat) : Int) else spec_StrongestFor.l0 (k + 1) l left ks ((rd + 1 : Nat) : Int) := by
  rw [spec_StrongestFor.l0]
  rw [if_pos (by omega)]
  have h := (seg (fun k i b => spec_StrongestFor.l1 k l left ks rd b i) (fun k b => if b ≥ 0 ∧ left > 0 then spec_StrongestFor.l0 k l (fillStep l (ks, left) b.toNat).2 (fillStep l (ks, left) b.toNat).1 ((rd + 1 : Nat) : Int) else spec_StrongestFor.l0 k l left ks ((rd + 1 : Nat) : Int)) l.length 0 (fun _ => 1) (fun i b => -1 ≤ b ∧ b < i)
    (pickStep l ks)
    (fun k i b _ hi hb => by
      rw [spec_StrongestFor.l1]
      rw [if_pos (by omega), if_pos (by omega), if_pos (by omega), rd_nat, rdIFlour, w64 (n := (i : Int) + 1) (by omega) (by omega)]
      unfold pickStep
      by_cases c1 : ks.getD i 0 = 0
      · rw [if_pos c1]
        by_cases c2 : (l.getD i z42).f2 > 0
        · rw [if_pos c2]
          by_cases c3 : b < 0
          · rw [if_pos c3, if_pos ⟨c1, c2, .inl c3⟩]
          · rw [if_neg c3, if_pos (by omega), if_pos (by omega)]
            obtain ⟨m, rfl⟩ : ∃ m : Nat, b = m := ⟨b.toNat, by omega⟩
            rw [rdIFlour, Int.toNat_natCast]
            by_cases c4 : (l.getD i z42).f0 > (l.getD m z42).f0
            · rw [if_pos c4, if_pos ⟨c1, c2, .inr c4⟩]
            · rw [if_neg c4, if_neg]
              rintro ⟨_, _, h | h⟩
              · exact c3 h
              · exact c4 h
        · rw [if_neg c2, if_neg (fun hh => c2 hh.2.1)]
      · rw [if_neg c1, if_neg (fun hh => c1 hh.1)])
    (fun i b hi hb => by
      unfold pickStep
      split <;> omega)
    (fun k b _ hb => by
      rw [spec_StrongestFor.l1]
      rw [if_neg (by omega)]
      rw [w64 (n := (rd : Int) + 1) (by omega) (by omega)]
      have e1 : (rd : Int) + 1 = ((rd + 1 : Nat) : Int) := by omega
      rw [e1]
      by_cases c1 : b ≥ 0
      · rw [if_pos c1]
        by_cases c2 : left > 0
        · rw [if_pos c2, if_pos c1, if_pos (by omega), if_pos (by omega), if_pos ⟨c1, c2⟩]
          obtain ⟨m, rfl⟩ : ∃ m : Nat, b = m := ⟨b.toNat, by omega⟩
          simp only [Option.bind_some, rdIFlour, Int.toNat_natCast, mnF, rd_nat]
          have hf := flOk_iff.1 (hok (l.getD m z42) (by simp [List.getD_eq_getElem?_getD, show m < l.length by omega]))
          have e2 : (ks.set m (min left (l.getD m z42).f2)).getD m 0 = min left (l.getD m z42).f2 := by
            simp [List.getD_eq_getElem?_getD, show m < ks.length by omega]
          rw [e2, w64 (by omega) (by omega)]
          rfl
        · rw [if_neg c2, if_neg (fun hh => c2 hh.2)]
      · rw [if_neg c1, if_neg (fun hh => c1 hh.1)]) l.length 0 (k + 1) (-1) (by omega) (by omega) ⟨by omega, by omega⟩).1
  rw [sum_ones] at h
  have e : (List.range' 0 l.length) = List.range l.length := (List.range_eq_range' (n := l.length)).symm
  rw [e] at h
  exact h
theorem strong_end (l : List S42) (ks : List Int) (left : Int) (k : Nat) (hl : l.length ≤ 5) (hks : ks.length = l.length) (hk : 60 < k) : spec_StrongestFor.l0 k l left ks l.length = some (ansF l (ks, left)) := by
  obtain ⟨k, rfl⟩ : ∃ m, k = m + 1 := ⟨k - 1, by omega⟩
  rw [spec_StrongestFor.l0]
  rw [if_neg (by omega)]
  unfold ansF
  by_cases c : left > 0
  · rw [if_pos c, if_pos c]
  · rw [if_neg c, if_neg c, strength_spec l ks k (by omega) (by omega) (by omega)]
    rfl
/-- Rounds without an effect. -/
theorem strong_idle (l : List S42) (ks : List Int) (left : Int) (hl : l.length ≤ 5) (hks : ks.length = l.length) (hok : ∀ f ∈ l, flOk f = true) (hleft : 0 ≤ left ∧ left ≤ 500) (h : left = 0 ∨ pickF l ks = -1) : ∀ (r rd k : Nat), rd + r = l.length → r * (l.length + 3) + 100 < k → spec_StrongestFor.l0 k l left ks rd = some (ansF l (ks, left)) := by
  intro r
  induction r with
  | zero =>
    intro rd k hr hk
    have : rd = l.length := by omega
    subst this
    exact strong_end l ks left k hl hks (by omega)
  | succ r ih =>
    intro rd k hr hk
    have hmul : (r + 1) * (l.length + 3) = r * (l.length + 3) + (l.length + 3) := Nat.succ_mul _ _
    obtain ⟨k, rfl⟩ : ∃ m, k = m + 1 + 1 + l.length + 1 := ⟨k - 3 - l.length, by omega⟩
    rw [strong_round l ks left rd k hl hks hok (by omega) hleft, if_neg (by omega)]
    exact ih (rd + 1) (k + 1) (by omega) (by omega)
/-- With nothing left, nothing is filled. -/
theorem fill_zero (l : List S42) (hok : ∀ f ∈ l, flOk f = true) : ∀ (M : List Nat) (ks : List Int), ks.length = l.length → (∀ x ∈ M, x < l.length ∧ ks.getD x 0 = 0) → M.foldl (fillStep l) (ks, 0) = (ks, 0) := by
  intro M
  induction M with
  | nil => intro ks _ _; rfl
  | cons x M ih =>
    intro ks hks h
    obtain ⟨h1, h2⟩ := h x List.mem_cons_self
    have hf := flOk_iff.1 (hok (l.getD x z42) (by simp [List.getD_eq_getElem?_getD, h1]))
    have e : min 0 (l.getD x z42).f2 = 0 := by omega
    rw [List.foldl_cons]
    have e2 : fillStep l (ks, 0) x = (ks, 0) := by
      unfold fillStep
      simp only [e]
      have : ks.set x 0 = ks := by
        apply List.ext_getElem?
        intro j
        rw [List.getElem?_set]
        by_cases ej : x = j
        · subst ej
          rw [if_pos rfl, if_pos (by omega)]
          have hx : x < ks.length := by omega
          rw [List.getD_eq_getElem?_getD, List.getElem?_eq_getElem hx, Option.getD_some] at h2
          rw [List.getElem?_eq_getElem hx, h2]
        · rw [if_neg ej]
      rw [this]
      rfl
    rw [e2]
    exact ih ks hks (fun y hy => h y (List.mem_cons_of_mem _ hy))
theorem strong_main (l : List S42) (hl : l.length ≤ 5) (hok : ∀ f ∈ l, flOk f = true) : ∀ (M : List Nat) (r rd k : Nat) (ks : List Int) (left : Int), rd + r = l.length → M.length ≤ r → M.Nodup → (∀ x ∈ M, x < l.length ∧ ks.getD x 0 = 0) → M.Pairwise (betterF l) → ks.length = l.length → 0 ≤ left ∧ left ≤ 500 →
    (0 < left → ∀ x, x < l.length → x ∉ M → ¬ candF l ks x) → r * (l.length + 3) + 200 < k → spec_StrongestFor.l0 k l left ks rd = some (ansF l (M.foldl (fillStep l) (ks, left))) := by
  intro M
  induction M with
  | nil =>
    intro r rd k ks left hr _ _ _ _ hks hleft hd hk
    by_cases c : left = 0
    · exact strong_idle l ks left hl hks hok hleft (.inl c) r rd k hr (by omega)
    · exact strong_idle l ks left hl hks hok hleft (.inr (pick_none fun j hj => hd (by omega) j hj (by simp))) r rd k hr (by omega)
  | cons x M ih =>
    intro r rd k ks left hr hMr hn hM hs hks hleft hd hk
    by_cases c : left = 0
    · subst c
      rw [fill_zero l hok (x :: M) ks hks hM]
      exact strong_idle l ks 0 hl hks hok hleft (.inl rfl) r rd k hr (by omega)
    · obtain ⟨hx, hx0⟩ := hM x List.mem_cons_self
      have hf := flOk_iff.1 (hok (l.getD x z42) (by simp [List.getD_eq_getElem?_getD, hx]))
      obtain ⟨hn1, hn2⟩ := List.nodup_cons.1 hn
      obtain ⟨hs1, hs2⟩ := List.pairwise_cons.1 hs
      have hset : ∀ (v : Int) (y : Nat), y ≠ x → (ks.set x v).getD y 0 = ks.getD y 0 := by
        intro v y hy
        rw [List.getD_eq_getElem?_getD, List.getElem?_set, if_neg (fun h => hy h.symm), ← List.getD_eq_getElem?_getD]
      have hsetx : ∀ v : Int, (ks.set x v).getD x 0 = v := by
        intro v
        simp [List.getD_eq_getElem?_getD, show x < ks.length by omega]
      rw [List.foldl_cons]
      by_cases c2 : (l.getD x z42).f2 = 0
      · have e : fillStep l (ks, left) x = (ks.set x 0, left) := by
          unfold fillStep
          rw [c2]
          simp only [Prod.mk.injEq]
          have : min left 0 = 0 := by omega
          rw [this]
          exact ⟨rfl, by omega⟩
        have e0 : ks.set x 0 = ks := by
          apply List.ext_getElem?
          intro j
          rw [List.getElem?_set]
          by_cases ej : x = j
          · subst ej
            rw [if_pos rfl, if_pos (by omega)]
            have hx' : x < ks.length := by omega
            rw [List.getD_eq_getElem?_getD, List.getElem?_eq_getElem hx', Option.getD_some] at hx0
            rw [List.getElem?_eq_getElem hx', hx0]
          · rw [if_neg ej]
        rw [e, e0]
        exact ih r rd k ks left hr (by simp at hMr; omega) hn2 (fun y hy => hM y (List.mem_cons_of_mem _ hy)) hs2 hks hleft (fun hp y hy hyM => by
          by_cases ey : y = x
          · subst ey
            intro hc
            have := hc.2
            omega
          · exact hd hp y hy (by simp [ey, hyM])) hk
      · have hp : pickF l ks = x := pick_best hx ⟨hx0, by omega⟩ (fun j hj hcj hne => by
          by_cases hjM : j ∈ M
          · exact hs1 j hjM
          · exact absurd hcj (hd (by omega) j hj (by simp [hne, hjM])))
        obtain ⟨r, rfl⟩ : ∃ q, r = q + 1 := ⟨r - 1, by simp at hMr; omega⟩
        have hmul : (r + 1) * (l.length + 3) = r * (l.length + 3) + (l.length + 3) := Nat.succ_mul _ _
        obtain ⟨k, rfl⟩ : ∃ m, k = m + 1 + 1 + l.length + 1 := ⟨k - 3 - l.length, by omega⟩
        rw [strong_round l ks left rd k hl hks hok (by omega) hleft, hp, if_pos ⟨by omega, by omega⟩, Int.toNat_natCast]
        have hv : 0 < min left (l.getD x z42).f2 := by omega
        have e : fillStep l (ks, left) x = (ks.set x (min left (l.getD x z42).f2), left - min left (l.getD x z42).f2) := rfl
        rw [e]
        exact ih r (rd + 1) (k + 1) _ _ (by omega) (by simp at hMr; omega) hn2 (fun y hy => by
          have hyx : y ≠ x := fun h => hn1 (h ▸ hy)
          rw [hset _ y hyx]
          exact hM y (List.mem_cons_of_mem _ hy)) hs2 (by simp [hks]) (by omega) (fun hp y hy hyM hcy => by
          by_cases ey : y = x
          · subst ey
            have := hcy.1
            rw [hsetx] at this
            omega
          · have h1 := hcy.1
            rw [hset _ y ey] at h1
            exact hd (by omega) y hy (by simp [ey, hyM]) ⟨h1, hcy.2⟩) (by omega)
theorem strong_walk (l : List S42) (hl : l.length ≤ 5) (hok : ∀ f ∈ l, flOk f = true) (ys : List Int) (hy : ys.length = l.length) (hv : ∀ x ∈ ys, 0 ≤ x ∧ x < (l.length : Int)) (left : Int) (hleft : 0 ≤ left ∧ left ≤ 500) (k : Nat) (hk : 100 < k) :
    impl_StrongestFor.l0 k (List.replicate l.length 0) left ys l.length 0 l = some (ansF l ((ys.map Int.toNat).foldl (fillStep l) (List.replicate l.length 0, left))) := by
  have L := (loop_fold (fun k i (s : List Int × Int) => impl_StrongestFor.l0 k s.1 s.2 ys l.length i l) l.length 60 (by omega) (fun _ s => s.1.length = l.length ∧ 0 ≤ s.2 ∧ s.2 ≤ 500) (fun s i => fillStep l s (ys.getD i 0).toNat) (fun s => some (ansF l s))
    (fun k i s _ hi hp => by
      have hm : ys.getD i 0 ∈ ys := by simp [List.getD_eq_getElem?_getD, show i < ys.length by omega]
      have hb := hv _ hm
      obtain ⟨q, hq⟩ : ∃ q : Nat, ys.getD i 0 = (q : Int) := ⟨(ys.getD i 0).toNat, by omega⟩
      have hql : q < l.length := by omega
      have hf := flOk_iff.1 (hok (l.getD q z42) (by simp [List.getD_eq_getElem?_getD, hql]))
      rw [impl_StrongestFor.l0]
      rw [if_pos (by omega), if_pos (by omega), if_pos (by omega), rd_nat, hq, if_pos (by omega), if_pos (by omega), if_pos (by omega)]
      simp only [Option.bind_some, rdIFlour, Int.toNat_natCast, mnF, rd_nat]
      have e2 : (s.1.set q (min s.2 (l.getD q z42).f2)).getD q 0 = min s.2 (l.getD q z42).f2 := by
        simp [List.getD_eq_getElem?_getD, show q < s.1.length by omega]
      rw [e2, w64 (n := s.2 - min s.2 (l.getD q z42).f2) (by omega) (by omega)]
      rfl)
    (fun i s hi hp => by
      have hm : ys.getD i 0 ∈ ys := by simp [List.getD_eq_getElem?_getD, show i < ys.length by omega]
      have hb := hv _ hm
      obtain ⟨q, hq⟩ : ∃ q : Nat, (ys.getD i 0).toNat = q := ⟨_, rfl⟩
      have hql : q < l.length := by omega
      rw [hq]
      have hf := flOk_iff.1 (hok (l.getD q z42) (by simp [List.getD_eq_getElem?_getD, hql]))
      unfold fillStep
      refine ⟨by simp [hp.1], ?_⟩
      dsimp only
      omega)
    (fun k s hB hp => by
      rw [impl_StrongestFor.l0]
      rw [if_neg (by omega)]
      unfold ansF
      by_cases c : s.2 > 0
      · rw [if_pos c, if_pos c]
      · rw [if_neg c, if_neg c, strength_impl l s.1 k (by omega) (by omega) (by omega)]
        rfl) k (List.replicate l.length 0, left) ⟨by simp, hleft⟩ (by omega)).1
  have e := foldl_range_getD' ys 0 (fun (s : List Int × Int) x => fillStep l s x.toNat) (List.replicate l.length 0, left)
  rw [hy] at e
  rw [e] at L
  rw [List.foldl_map]
  exact L
/-- Both answer the same. -/
theorem strong_same (l : List S42) (total : Int) (hl : l.length ≤ 1000000000) (k : Nat) (hk : l.length + 1000 < k) : ∃ v, spec_StrongestFor.f k l total = some v ∧ impl_StrongestFor.f k l total = some v := by
  obtain ⟨k, rfl⟩ : ∃ m, k = m + 1 := ⟨k - 1, by omega⟩
  unfold spec_StrongestFor.f impl_StrongestFor.f
  rw [flours_spec l (k + 1) hl (by omega), flours_impl]
  simp only [Option.bind_some, in_spec, in_impl]
  by_cases h : floursOk l = true
  · rw [if_pos h, if_pos h]
    rw [spec_StrongestFor.j0, impl_StrongestFor.j0]
    by_cases ht : 1 ≤ total ∧ total ≤ 500
    · rw [decide_eq_true ht]
      simp only [Bool.not_true, Bool.false_eq_true, if_false]
      obtain ⟨⟨h1, h5⟩, hok⟩ := floursOk_iff.1 h
      have hb : l.length * (l.length + 3) ≤ 5 * 8 := Nat.mul_le_mul h5 (by omega)
      have hg : ∀ i : Nat, i < l.length → (List.replicate l.length (0 : Int)).getD i 0 = 0 := by
        intro i hi
        simp [List.getD_eq_getElem?_getD, hi]
      rw [if_pos (by omega), if_pos (by omega), indices_ok l.length k (by omega) (by omega)]
      simp only [Option.bind_some, Int.toNat_natCast]
      rw [if_pos (by omega), if_pos (by omega)]
      obtain ⟨ys, e, p, u⟩ := strong_sort l (by omega) hok k (by omega)
      rw [e]
      simp only [Option.bind_some, List.length_map, List.length_range]
      have hy : ys.length = l.length := by rw [p.length_eq]; simp
      have hv : ∀ x ∈ ys, 0 ≤ x ∧ x < (l.length : Int) := by
        intro x hx
        obtain ⟨i, hi, rfl⟩ := List.mem_map.1 (p.mem_iff.1 hx)
        have := List.mem_range.1 hi
        omega
      rw [strong_walk l h5 hok ys hy hv total (by omega) k (by omega)]
      refine ⟨_, ?_, rfl⟩
      have pm : (ys.map Int.toNat).Perm (List.range l.length) := by
        have := p.map Int.toNat
        rw [List.map_map] at this
        have e2 : (List.range l.length).map (Int.toNat ∘ fun i : Nat => (i : Int)) = List.range l.length := by
          have : (Int.toNat ∘ fun i : Nat => (i : Int)) = id := by
            funext i
            simp
          rw [this, List.map_id]
        rw [e2] at this
        exact this
      have hmem : ∀ x, x ∈ ys.map Int.toNat ↔ x < l.length := fun x => by rw [pm.mem_iff, List.mem_range]
      have := strong_main l h5 hok (ys.map Int.toNat) l.length 0 k (List.replicate l.length 0) total (by omega) (by simp [hy]) (pm.nodup_iff.2 List.nodup_range) (fun x hx => ⟨(hmem x).1 hx, hg x ((hmem x).1 hx)⟩) (by
        rw [List.pairwise_map]
        have up := uptoL_pairwise (flKey l) ys (by rw [hy]; exact u)
        have up2 : ys.Pairwise (fun a b => (0 ≤ a ∧ a < (l.length : Int)) ∧ 0 ≤ b ∧ b < (l.length : Int)) := by
          rw [List.pairwise_iff_getElem]
          intro i j hi hj _
          exact ⟨hv _ (List.getElem_mem hi), hv _ (List.getElem_mem hj)⟩
        refine List.Pairwise.imp₂ (fun a b h1 h2 => ?_) up up2
        unfold Lex flKey at h1
        unfold betterF
        omega) (by simp) (by omega) (fun _ x hx hxM => absurd ((hmem x).2 hx) hxM) (by omega)
      exact this
    · rw [decide_eq_false ht]
      exact ⟨-1, by simp, by simp⟩
  · rw [if_neg h, if_neg h]
    rw [spec_StrongestFor.j0, impl_StrongestFor.j0]
    exact ⟨-1, by simp, by simp⟩

end Go.Proofs.Ytkgpjndlpjjobaa.Lem
