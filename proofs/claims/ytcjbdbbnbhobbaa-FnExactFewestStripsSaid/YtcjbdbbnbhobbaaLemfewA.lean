/- Plain lemmas on the printed functions: what they compute; conditions stand in each lemma. -/
import Derived.Test.YtcjbdbbnbhobbaaQx0
import Derived.Test.YtcjbdbbnbhobbaaLembase
import Derived.Test.YtcjbdbbnbhobbaaLemin
import Derived.Test.YtcjbdbbnbhobbaaLemfewT
namespace Go.Proofs.Ytcjbdbbnbhobbaa.Lem
open Go.RowKit Go.Proofs.Ytcjbdbbnbhobbaa.Q Go.Proofs.YtcjbdbbnbhobbaaW.PrintWords Go.Proofs.YtcjbdbbnbhobbaaW.PrintLast Go.Proofs.YtcjbdbbnbhobbaaW.PrintMore Go.Proofs.Ytcjbdbbnbhobbaa.Lem
set_option linter.unusedVariables false
set_option linter.unusedSimpArgs false
theorem and_bit {s i : Nat} (hs : s < 4096) (hi : i < 12) : Go.bits .and .i64 (shr .i64 (s : Int) (i : Int)) 1 = (if s.testBit i then 1 else 0) := by
  have := and_tab ⟨s / 64, by omega⟩ ⟨s % 64, by omega⟩ ⟨i, hi⟩
  simp only [show 64 * (s / 64) + s % 64 = s from by omega] at this; exact this
theorem andNot_bit {s i : Nat} (hs : s < 4096) (hi : i < 12) (hb : s.testBit i = true) : Go.bits .andNot .i64 (s : Int) (shl .i64 1 (i : Int)) = ((s - 2 ^ i : Nat) : Int) := by
  have := andNot_tab ⟨s / 64, by omega⟩ ⟨s % 64, by omega⟩ ⟨i, hi⟩
  simp only [show 64 * (s / 64) + s % 64 = s from by omega] at this; exact this hb
theorem shl_pow {i : Nat} (hi : i ≤ 12) : shl .i64 1 (i : Int) = ((2 ^ i : Nat) : Int) := pow_tab ⟨i, by omega⟩
/-- A bit that is set: the number is that power and what is left. -/
theorem bit_split {s i : Nat} (hb : s.testBit i = true) : 2 ^ i ≤ s := Nat.ge_two_pow_of_testBit hb
theorem bit_sub {s i : Nat} (hb : s.testBit i = true) (j : Nat) : (s - 2 ^ i).testBit j = (s.testBit j && decide (j ≠ i)) := by
  obtain ⟨r, hr⟩ : ∃ r, r = s - 2 ^ i := ⟨_, rfl⟩
  have hs : s = 2 ^ i + r := by have := bit_split hb; omega
  rw [← hr]
  have hri : r.testBit i = false := by
    rw [hs, Nat.testBit_two_pow_add_eq] at hb; simpa using hb
  rcases Nat.lt_trichotomy j i with h | h | h
  · rw [hs, Nat.testBit_two_pow_add_gt h]; simp; omega
  · subst h; rw [hri]; simp
  · have e : (2 ^ i + r) / 2 ^ (i + 1) = r / 2 ^ (i + 1) := by
      have hm : r % 2 ^ (i + 1) < 2 ^ i := by
        have h1 : r / 2 ^ i % 2 = 0 := by
          have := hri; rw [Nat.testBit_eq_decide_div_mod_eq] at this; simp at this; omega
        have h2 : r % 2 ^ (i + 1) = r % 2 ^ i + 2 ^ i * (r / 2 ^ i % 2) := by rw [Nat.pow_succ]; exact Nat.mod_mul
        rw [h2, h1]; simp; exact Nat.mod_lt _ (Nat.two_pow_pos i)
      have h3 := Nat.div_add_mod r (2 ^ (i + 1))
      have h4 : 2 ^ i + r = (2 ^ i + r % 2 ^ (i + 1)) + 2 ^ (i + 1) * (r / 2 ^ (i + 1)) := by omega
      rw [h4, Nat.add_mul_div_left _ _ (Nat.two_pow_pos _), Nat.div_eq_of_lt (by have h5 : 2 ^ (i + 1) = 2 ^ i * 2 := Nat.pow_succ 2 i; omega)]; omega
    rw [hs]; simp only [Nat.testBit_eq_decide_div_mod_eq]
    obtain ⟨d, rfl⟩ : ∃ d, j = i + 1 + d := ⟨j - (i + 1), by omega⟩
    have e2 : ∀ x : Nat, x / 2 ^ (i + 1 + d) = x / 2 ^ (i + 1) / 2 ^ d := fun x => by rw [Nat.pow_add, Nat.div_div_eq_div_mul]
    rw [e2, e2, e]; simp; omega
/-- The next piece: on the last strip where it fits, on a new one where it does not. -/
def ext (a : Int) (x : Int × Int) (p : Int) : Int × Int := if x.1 > 0 ∧ x.2 + p ≤ a then (x.1, x.2 + p) else (x.1 + 1, p)
def le2 (x y : Int × Int) : Prop := x.1 < y.1 ∨ (x.1 = y.1 ∧ x.2 ≤ y.2)
def runO (l : List Int) (a : Int) (σ : List Nat) : Int × Int := σ.foldl (fun x i => ext a x (l.getD i 0)) (0, 0)
def Ord (n s : Nat) (σ : List Nat) : Prop := σ.Nodup ∧ ∀ i, i ∈ σ ↔ (i < n ∧ s.testBit i = true)
def Opt (l : List Int) (a : Int) (n s : Nat) (v : Int × Int) : Prop := (∃ σ, Ord n s σ ∧ runO l a σ = v) ∧ ∀ σ, Ord n s σ → le2 v (runO l a σ)
theorem le2_refl (x : Int × Int) : le2 x x := .inr ⟨rfl, Int.le_refl _⟩
theorem le2_trans {x y z : Int × Int} (h : le2 x y) (h2 : le2 y z) : le2 x z := by unfold le2 at *; omega
theorem le2_anti {x y : Int × Int} (h : le2 x y) (h2 : le2 y x) : x = y := by unfold le2 at *; exact Prod.ext (by omega) (by omega)
theorem ext_mono {a : Int} {x y : Int × Int} {p : Int} (hx : 0 ≤ x.1) (h : le2 x y) (hp : 0 ≤ p) (hy : 0 ≤ y.2) (hx0 : x.1 = 0 → x.2 = 0) : le2 (ext a x p) (ext a y p) := by
  unfold ext le2 at *
  split <;> split <;> simp <;> omega
theorem runO_snoc (l : List Int) (a : Int) (σ : List Nat) (j : Nat) : runO l a (σ ++ [j]) = ext a (runO l a σ) (l.getD j 0) := by simp [runO, List.foldl_append]
/-- A number of strips, and what is used of the last one. -/
def Fine (a : Int) (x : Int × Int) : Prop := 0 ≤ x.1 ∧ 0 ≤ x.2 ∧ x.2 ≤ a ∧ (x.1 = 0 → x.2 = 0)
theorem ext_fine {a : Int} {x : Int × Int} {p : Int} (hx : Fine a x) (hp : 0 ≤ p ∧ p ≤ a) : Fine a (ext a x p) ∧ 0 < (ext a x p).1 ∧ (ext a x p).1 ≤ x.1 + 1 := by
  unfold ext Fine at *
  split <;> simp <;> omega
theorem run_fine {l : List Int} {a : Int} (hl : ∀ i, 0 ≤ l.getD i 0 ∧ l.getD i 0 ≤ a) (ha : 0 ≤ a) (σ : List Nat) : Fine a (runO l a σ) ∧ (runO l a σ).1 ≤ (σ.length : Int) ∧ (σ ≠ [] → 0 < (runO l a σ).1) := by
  obtain ⟨n, hn⟩ : ∃ n, n = σ.length := ⟨_, rfl⟩
  induction n generalizing σ with
  | zero => obtain rfl : σ = [] := List.length_eq_zero_iff.mp hn.symm; simp [runO, Fine, ha]
  | succ n ih =>
    obtain ⟨τ, j, rfl⟩ : ∃ τ j, σ = τ ++ [j] := by
      refine ⟨σ.dropLast, σ.getLast (by intro h; simp [h] at hn), ?_⟩
      rw [List.dropLast_concat_getLast]
    have h1 := ih τ (by simp at hn; omega)
    have h2 := ext_fine h1.1 (hl j)
    rw [runO_snoc]
    exact ⟨h2.1, by rw [List.length_append, List.length_singleton]; omega, fun _ => h2.2.1⟩
/-- No more than n numbers below n stand in a row that repeats none. -/
theorem nodup_len : ∀ (n : Nat) (σ : List Nat), σ.Nodup → (∀ i ∈ σ, i < n) → σ.length ≤ n
  | 0, σ, _, h => by
    cases σ with
    | nil => simp
    | cons a t => exact absurd (h a (by simp)) (by omega)
  | n + 1, σ, hn, h => by
    by_cases hm : n ∈ σ
    · have := nodup_len n (σ.erase n) (hn.erase n) (fun i hi => by
        have h1 := (hn.mem_erase_iff).mp hi
        have h2 := h i h1.2; have := h1.1; omega)
      rw [List.length_erase_of_mem hm] at this; omega
    · have := nodup_len n σ hn (fun i hi => by
        have h2 := h i hi
        have : i ≠ n := fun e => hm (e ▸ hi)
        omega)
      omega
theorem ord_zero {n : Nat} {σ : List Nat} (h : Ord n 0 σ) : σ = [] := by
  cases σ with
  | nil => rfl
  | cons a t => have := (h.2 a).mp (by simp); simp at this
theorem opt_zero (l : List Int) (a : Int) (n : Nat) : Opt l a n 0 (0, 0) := by
  refine ⟨⟨[], ⟨List.nodup_nil, fun i => by simp⟩, rfl⟩, fun σ h => ?_⟩
  rw [ord_zero h]; exact le2_refl _
theorem ord_snoc {n s : Nat} {σ : List Nat} {j : Nat} (h : Ord n s (σ ++ [j])) : j < n ∧ s.testBit j = true ∧ Ord n (s - 2 ^ j) σ := by
  have hj := (h.2 j).mp (by simp)
  have hn := h.1
  rw [List.nodup_append] at hn
  refine ⟨hj.1, hj.2, hn.1, fun i => ?_⟩
  rw [bit_sub hj.2]
  constructor
  · intro hi
    have h1 := (h.2 i).mp (by simp [hi])
    have h2 : i ≠ j := fun e => hn.2.2 i hi j (by simp) e
    simp [h1.1, h1.2, h2]
  · intro hi
    simp at hi
    have := (h.2 i).mpr ⟨hi.1, hi.2.1⟩
    simp at this; rcases this with h1 | h1
    · exact h1
    · exact absurd h1 hi.2.2
theorem ord_add {n s : Nat} {σ : List Nat} {j : Nat} (hj : j < n) (hb : s.testBit j = true) (h : Ord n (s - 2 ^ j) σ) : Ord n s (σ ++ [j]) := by
  have hnj : j ∉ σ := fun hm => by have := (h.2 j).mp hm; rw [bit_sub hb] at this; simp at this
  refine ⟨?_, fun i => ?_⟩
  · rw [List.nodup_append]; exact ⟨h.1, by simp, fun x hx y hy e => by simp at hy; subst hy; subst e; exact hnj hx⟩
  · simp only [List.mem_append, List.mem_singleton, h.2 i, bit_sub hb]
    constructor
    · rintro (⟨h1, h2⟩ | rfl)
      · simp at h2; exact ⟨h1, h2.1⟩
      · exact ⟨hj, hb⟩
    · rintro ⟨h1, h2⟩
      by_cases e : i = j
      · exact .inr e
      · left; simp [h1, h2, e]
theorem opt_bound {l : List Int} {a : Int} (hl : ∀ i, 0 ≤ l.getD i 0 ∧ l.getD i 0 ≤ a) (ha : 0 ≤ a) {n s : Nat} {v : Int × Int} (h : Opt l a n s v) : Fine a v ∧ v.1 ≤ (n : Int) := by
  obtain ⟨⟨σ, ho, rfl⟩, _⟩ := h
  have := run_fine hl ha σ
  have h2 := nodup_len n σ ho.1 (fun i hi => ((ho.2 i).mp hi).1)
  exact ⟨this.1, by omega⟩
theorem opt_pos {l : List Int} {a : Int} (hl : ∀ i, 0 ≤ l.getD i 0 ∧ l.getD i 0 ≤ a) (ha : 0 ≤ a) {n s : Nat} {v : Int × Int} (h : Opt l a n s v) (hs : s ≠ 0) (hn : s < 2 ^ n) : 0 < v.1 := by
  obtain ⟨⟨σ, ho, rfl⟩, _⟩ := h
  refine (run_fine hl ha σ).2.2 (fun e => ?_)
  obtain ⟨i, hi⟩ := Nat.exists_testBit_of_ne_zero hs
  have h1 : i < n := by
    rcases Nat.lt_or_ge i n with h | h
    · exact h
    · have := bit_split hi; have h3 : 2 ^ n ≤ 2 ^ i := Nat.pow_le_pow_right (by omega) h; omega
  have := (ho.2 i).mpr ⟨h1, hi⟩
  rw [e] at this; simp at this
/-- What the inner loop knows of the set it looks at. -/
def Cur (l : List Int) (a : Int) (n s i : Nat) (V : Nat → Int × Int) (x : Int × Int) : Prop :=
  (x = ((n : Int) + 1, 0) ∨ ∃ j, j < i ∧ j < n ∧ s.testBit j = true ∧ x = ext a (V (s - 2 ^ j)) (l.getD j 0)) ∧ ∀ j, j < i → j < n → s.testBit j = true → le2 x (ext a (V (s - 2 ^ j)) (l.getD j 0))
theorem cur_opt {l : List Int} {a : Int} (hl : ∀ i, 0 ≤ l.getD i 0 ∧ l.getD i 0 ≤ a) (ha : 0 ≤ a) {n s : Nat} {V : Nat → Int × Int} (hV : ∀ t, t < s → Opt l a n t (V t)) (hs : s ≠ 0) (hn : s < 2 ^ n) {x : Int × Int} (h : Cur l a n s n V x) : Opt l a n s x := by
  obtain ⟨i, hi⟩ := Nat.exists_testBit_of_ne_zero hs
  have hin : i < n := by
    rcases Nat.lt_or_ge i n with h | h
    · exact h
    · have := bit_split hi; have h3 : 2 ^ n ≤ 2 ^ i := Nat.pow_le_pow_right (by omega) h; omega
  have hsub : ∀ j, s.testBit j = true → s - 2 ^ j < s := fun j hj => by have := bit_split hj; have := Nat.two_pow_pos j; omega
  refine ⟨?_, fun σ ho => ?_⟩
  · rcases h.1 with e | ⟨j, hj, _, hb, e⟩
    · have h1 := h.2 i hin hin hi
      obtain ⟨⟨σ, ho, hr⟩, _⟩ := hV _ (hsub i hi)
      have h2 := ord_add hin hi ho
      have h3 := run_fine hl ha (σ ++ [i])
      have h4 := nodup_len n _ h2.1 (fun q hq => ((h2.2 q).mp hq).1)
      rw [runO_snoc, hr] at h3
      rw [e] at h1; unfold le2 at h1; simp only at h1; omega
    · obtain ⟨⟨σ, ho, hr⟩, _⟩ := hV _ (hsub j hb)
      exact ⟨σ ++ [j], ord_add hj hb ho, by rw [runO_snoc, hr, e]⟩
  · obtain ⟨τ, j, rfl⟩ : ∃ τ j, σ = τ ++ [j] := by
      have hne : σ ≠ [] := fun e => by have := (ho.2 i).mpr ⟨hin, hi⟩; rw [e] at this; simp at this
      exact ⟨σ.dropLast, σ.getLast hne, by rw [List.dropLast_concat_getLast]⟩
    obtain ⟨hj, hb, ho2⟩ := ord_snoc ho
    have h1 := h.2 j hj hj hb
    have h2 := hV _ (hsub j hb)
    have h3 := opt_bound hl ha h2
    have h4 := run_fine hl ha τ
    rw [runO_snoc]
    exact le2_trans h1 (ext_mono h3.1.1 (h2.2 τ ho2) (hl j).1 h4.1.2.1 h3.1.2.2.2)

end Go.Proofs.Ytcjbdbbnbhobbaa.Lem
