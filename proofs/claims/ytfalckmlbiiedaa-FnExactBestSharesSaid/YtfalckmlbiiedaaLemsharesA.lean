/- Plain lemmas on the printed functions: what they compute; conditions stand in each lemma. -/
import Derived.Test.YtfalckmlbiiedaaQx0
import Derived.Test.YtfalckmlbiiedaaLembase
import Derived.Test.YtfalckmlbiiedaaLemin
import Derived.Test.YtfalckmlbiiedaaLemints
import Derived.Test.YtfalckmlbiiedaaLemcakeA
import Derived.Test.YtfalckmlbiiedaaLemsumB
import Derived.Test.YtfalckmlbiiedaaLemsumS
import Derived.Test.YtfalckmlbiiedaaLemsumI
import Derived.Test.YtfalckmlbiiedaaLemcakeB
namespace Go.Proofs.Ytfalckmlbiiedaa.Lem
open Go.RowKit Go.Proofs.Ytfalckmlbiiedaa.Q Go.Proofs.YtfalckmlbiiedaaW.PrintWords Go.Proofs.YtfalckmlbiiedaaW.PrintLast Go.Proofs.YtfalckmlbiiedaaW.PrintMore Go.Proofs.Ytfalckmlbiiedaa.Lem
set_option linter.unusedVariables false
set_option linter.unusedSimpArgs false
/-- The sum of the first i numbers. -/
def pre (l : List Int) (i : Nat) : Int := (l.take i).sum
theorem pre_succ (l : List Int) (i : Nat) : pre l (i + 1) = pre l i + l.getD i 0 := by
  unfold pre
  by_cases h : i < l.length
  · rw [List.take_succ_eq_append_getElem h, List.sum_append, List.sum_singleton]
    simp [List.getD_eq_getElem?_getD, h]
  · rw [List.take_of_length_le (by omega), List.take_of_length_le (by omega)]
    simp [List.getD_eq_getElem?_getD, show l.length ≤ i by omega]
theorem getD_nonneg {l : List Int} (h : ∀ x ∈ l, 0 ≤ x) (i : Nat) : 0 ≤ l.getD i 0 := by
  by_cases hi : i < l.length
  · have : l.getD i 0 = l[i] := by simp [List.getD_eq_getElem?_getD, hi]
    rw [this]
    exact h _ (List.getElem_mem hi)
  · simp [List.getD_eq_getElem?_getD, show l.length ≤ i by omega]
theorem pre_mono {l : List Int} (h : ∀ x ∈ l, 0 ≤ x) (i : Nat) : ∀ d, pre l i ≤ pre l (i + d)
  | 0 => Int.le_refl _
  | d + 1 => by
    have := pre_mono h i d
    have g := getD_nonneg h (i + d)
    rw [← Nat.add_assoc, pre_succ]
    omega
theorem pre_le {l : List Int} (h : ∀ x ∈ l, 0 ≤ x) {i j : Nat} (hij : i ≤ j) : pre l i ≤ pre l j := by
  have := pre_mono h i (j - i)
  rwa [show i + (j - i) = j by omega] at this
theorem pre_zero (l : List Int) : pre l 0 = 0 := rfl
theorem pre_nonneg {l : List Int} (h : ∀ x ∈ l, 0 ≤ x) (i : Nat) : 0 ≤ pre l i := pre_le h (Nat.zero_le i)
theorem pre_all (l : List Int) : pre l l.length = l.sum := by
  unfold pre
  rw [List.take_length]
/-- The cuts after i numbers, and what lies in the share that is not full: a share is cut as soon as it has x. -/
def gr (x : Int) (l : List Int) : Nat → List Int × Int
  | 0 => ([], 0)
  | i + 1 => if (gr x l i).2 + l.getD i 0 ≥ x then ((gr x l i).1 ++ [(i : Int) + 1], 0) else ((gr x l i).1, (gr x l i).2 + l.getD i 0)
def cnt (x : Int) (l : List Int) (i : Nat) : Nat := (gr x l i).1.length
theorem cnt_step (x : Int) (l : List Int) (i : Nat) : cnt x l i ≤ cnt x l (i + 1) := by
  simp only [cnt, gr]
  split <;> simp
theorem cnt_mono (x : Int) (l : List Int) (i : Nat) : ∀ d, cnt x l i ≤ cnt x l (i + d)
  | 0 => Nat.le_refl _
  | d + 1 => Nat.le_trans (cnt_mono x l i d) (cnt_step x l (i + d))
theorem cnt_le (x : Int) (l : List Int) {i j : Nat} (h : i ≤ j) : cnt x l i ≤ cnt x l j := by
  have := cnt_mono x l i (j - i)
  rwa [show i + (j - i) = j by omega] at this
theorem cnt_bound (x : Int) (l : List Int) : ∀ i, cnt x l i ≤ i
  | 0 => Nat.le_refl _
  | i + 1 => by
    have := cnt_bound x l i
    simp only [cnt, gr] at this ⊢
    split
    · simp only [List.length_append, List.length_singleton]
      omega
    · show (gr x l i).1.length ≤ i + 1
      omega
theorem gr_inv {x : Int} (hx : 1 ≤ x) {l : List Int} (h : ∀ y ∈ l, 0 ≤ y) : ∀ i, 0 ≤ (gr x l i).2 ∧ (gr x l i).2 < x ∧
    (∃ t, t ≤ i ∧ cnt x l t = cnt x l i ∧ (gr x l i).2 = pre l i - pre l t ∧ ∀ j, j < t → cnt x l j < cnt x l i) ∧
    ∀ q, q + 1 ≤ cnt x l i → ∃ j, q ≤ j ∧ j < i ∧ q ≤ cnt x l j ∧ x ≤ pre l i - pre l j := by
  intro i
  induction i with
  | zero => exact ⟨Int.le_refl _, by show (0 : Int) < x; omega, ⟨0, Nat.le_refl _, rfl, rfl, fun j hj => by omega⟩, fun q hq => by simp [cnt, gr] at hq⟩
  | succ i ih =>
    obtain ⟨a1, a2, ⟨t, t1, t2, t3, t4⟩, a4⟩ := ih
    have g := getD_nonneg h i
    have hp := pre_succ l i
    by_cases c : (gr x l i).2 + l.getD i 0 ≥ x
    · have e : gr x l (i + 1) = ((gr x l i).1 ++ [(i : Int) + 1], 0) := by rw [gr, if_pos c]
      have ec : cnt x l (i + 1) = cnt x l i + 1 := by
        unfold cnt
        rw [e]
        simp
      rw [e]
      refine ⟨Int.le_refl _, by show (0 : Int) < x; omega, ⟨i + 1, Nat.le_refl _, rfl, by show (0 : Int) = _; omega, fun j hj => ?_⟩, fun q hq => ?_⟩
      · have := cnt_le x l (show j ≤ i by omega)
        omega
      · by_cases hq2 : q + 1 ≤ cnt x l i
        · obtain ⟨j, j1, j2, j3, j4⟩ := a4 q hq2
          exact ⟨j, j1, by omega, j3, by omega⟩
        · have := cnt_bound x l t
          exact ⟨t, by omega, by omega, by omega, by omega⟩
    · have e : gr x l (i + 1) = ((gr x l i).1, (gr x l i).2 + l.getD i 0) := by rw [gr, if_neg c]
      have ec : cnt x l (i + 1) = cnt x l i := by
        unfold cnt
        rw [e]
      rw [e]
      refine ⟨by show 0 ≤ (gr x l i).2 + l.getD i 0; omega, by show (gr x l i).2 + l.getD i 0 < x; omega, ⟨t, by omega, by omega, by show (gr x l i).2 + l.getD i 0 = _; omega, fun j hj => by rw [ec]; exact t4 j hj⟩, fun q hq => ?_⟩
      obtain ⟨j, j1, j2, j3, j4⟩ := a4 q (by omega)
      exact ⟨j, j1, by omega, j3, by omega⟩
theorem cnt_up {x : Int} (hx : 1 ≤ x) {l : List Int} (h : ∀ y ∈ l, 0 ≤ y) {i j q : Nat} (hj : j ≤ i) (hq : q ≤ cnt x l j) (hs : x ≤ pre l i - pre l j) : q + 1 ≤ cnt x l i := by
  obtain ⟨a1, a2, ⟨t, t1, t2, t3, t4⟩, _⟩ := gr_inv hx h i
  apply Classical.byContradiction
  intro hn
  have m := cnt_le x l hj
  have htj : t ≤ j := by
    apply Classical.byContradiction
    intro hh
    have := t4 j (by omega)
    omega
  have := pre_le h htj
  omega
/-- The best least share of p shares of the first i numbers, as the program's table has it. -/
def Dm (l : List Int) : Nat → Nat → Int
  | 0, _ => 0
  | 1, i => pre l i
  | p + 2, i => (List.range' (p + 1) (i - (p + 1))).foldl (fun b j => max b (min (Dm l (p + 1) j) (pre l i - pre l j))) 0
theorem foldl_max_iff (f : Nat → Int) (x : Int) : ∀ (L : List Nat) (b : Int), x ≤ L.foldl (fun b j => max b (f j)) b ↔ x ≤ b ∨ ∃ j ∈ L, x ≤ f j
  | [], b => by simp
  | a :: L, b => by
    rw [List.foldl_cons, foldl_max_iff f x L]
    constructor
    · rintro (h | ⟨j, hj, h⟩)
      · by_cases hb : x ≤ b
        · exact .inl hb
        · exact .inr ⟨a, List.mem_cons_self, by omega⟩
      · exact .inr ⟨j, List.mem_cons_of_mem _ hj, h⟩
    · rintro (h | ⟨j, hj, h⟩)
      · exact .inl (by omega)
      · rcases List.mem_cons.1 hj with rfl | hj
        · exact .inl (by omega)
        · exact .inr ⟨j, hj, h⟩
theorem Dm_iff {x : Int} (hx : 1 ≤ x) {l : List Int} (h : ∀ y ∈ l, 0 ≤ y) : ∀ p i, x ≤ Dm l (p + 1) i ↔ p + 1 ≤ cnt x l i := by
  intro p
  induction p with
  | zero =>
    intro i
    show x ≤ pre l i ↔ _
    constructor
    · intro hh
      exact cnt_up hx h (Nat.zero_le i) (Nat.zero_le _) (by rw [pre_zero]; omega)
    · intro hh
      obtain ⟨j, _, _, _, j4⟩ := (gr_inv hx h i).2.2.2 0 hh
      have := pre_nonneg h j
      omega
  | succ p ih =>
    intro i
    show x ≤ (List.range' (p + 1) (i - (p + 1))).foldl (fun b j => max b (min (Dm l (p + 1) j) (pre l i - pre l j))) 0 ↔ _
    rw [foldl_max_iff (fun j => min (Dm l (p + 1) j) (pre l i - pre l j))]
    constructor
    · rintro (hh | ⟨j, hj, hh⟩)
      · omega
      · have hj2 := List.mem_range'_1.1 hj
        have hd : x ≤ Dm l (p + 1) j := by omega
        exact cnt_up hx h (show j ≤ i by omega) ((ih j).1 hd) (by omega)
    · intro hh
      obtain ⟨j, j1, j2, j3, j4⟩ := (gr_inv hx h i).2.2.2 (p + 1) hh
      have := (ih j).2 j3
      exact .inr ⟨j, List.mem_range'_1.2 ⟨j1, by omega⟩, by omega⟩
theorem foldl_max_ge (f : Nat → Int) : ∀ (L : List Nat) (b : Int), b ≤ L.foldl (fun b j => max b (f j)) b
  | [], b => Int.le_refl _
  | a :: L, b => by
    have := foldl_max_ge f L (max b (f a))
    rw [List.foldl_cons]
    omega
theorem Dm_ok {l : List Int} (h : ∀ y ∈ l, 0 ≤ y) (p i : Nat) : 0 ≤ Dm l (p + 1) i ∧ Dm l (p + 1) i ≤ pre l i := by
  have hp := pre_nonneg h i
  cases p with
  | zero => exact ⟨hp, Int.le_refl _⟩
  | succ p =>
    have h1 : 0 ≤ Dm l (p + 2) i := foldl_max_ge (fun j => min (Dm l (p + 1) j) (pre l i - pre l j)) _ 0
    refine ⟨h1, ?_⟩
    show Dm l (p + 2) i ≤ pre l i
    by_cases hd : 1 ≤ Dm l (p + 2) i
    · have := (foldl_max_iff (fun j => min (Dm l (p + 1) j) (pre l i - pre l j)) (Dm l (p + 2) i) (List.range' (p + 1) (i - (p + 1))) 0).1 (Int.le_refl _)
      rcases this with hh | ⟨j, hj, hh⟩
      · omega
      · have := pre_nonneg h j
        omega
    · omega
/-- An entry of the table before it is reached is 0. -/
theorem Dm_low {l : List Int} (p i : Nat) (h : i ≤ p + 1) : Dm l (p + 2) i = 0 := by
  show (List.range' (p + 1) (i - (p + 1))).foldl _ 0 = 0
  rw [show i - (p + 1) = 0 by omega]
  rfl

end Go.Proofs.Ytfalckmlbiiedaa.Lem
