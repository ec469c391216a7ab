/- Plain lemmas on the printed functions: what they compute; conditions stand in each lemma. -/
import Derived.Test.YtkgpjndlpjjobaaQx0
import Derived.Test.YtkgpjndlpjjobaaQx19
import Derived.Test.YtkgpjndlpjjobaaQx20
import Derived.Test.YtkgpjndlpjjobaaLembase
import Derived.Test.YtkgpjndlpjjobaaLemin
import Derived.Test.YtkgpjndlpjjobaaLemstFlour
import Derived.Test.YtkgpjndlpjjobaaLemblendA
import Derived.Test.YtkgpjndlpjjobaaLemblendB
import Derived.Test.YtkgpjndlpjjobaaLemsumB
import Derived.Test.YtkgpjndlpjjobaaLemsumS
import Derived.Test.YtkgpjndlpjjobaaLemsumI
import Derived.Test.YtkgpjndlpjjobaaLemblendC
namespace Go.Proofs.Ytkgpjndlpjjobaa.Lem
open Go.RowKit Go.Proofs.Ytkgpjndlpjjobaa.Q Go.Proofs.YtkgpjndlpjjobaaW.PrintWords Go.Proofs.YtkgpjndlpjjobaaW.PrintLast Go.Proofs.YtkgpjndlpjjobaaW.PrintMore Go.Proofs.Ytkgpjndlpjjobaa.Lem
set_option linter.unusedVariables false
set_option linter.unusedSimpArgs false
/-- The amounts of two flours: n of flour i, the rest of flour j. -/
def kil (m i j : Nat) (total n : Int) : List Int := ((List.replicate m (0 : Int)).set i n).set j (total - n)
theorem kil_len (m i j : Nat) (total n : Int) : (kil m i j total n).length = m := by simp [kil]
/-- What is kept of the best so far: the flours, the amount, the cost. -/
structure Best where
  a : Int
  b : Int
  c : Int
  best : Int
def tryOne (l : List S42) (total least : Int) (i j : Nat) (s : Best) (n : Nat) : Best :=
  if strength l (kil l.length i j total n) < least then s
  else if s.best < 0 then ⟨i, j, n, cost l (kil l.length i j total n)⟩
  else if cost l (kil l.length i j total n) < s.best then ⟨i, j, n, cost l (kil l.length i j total n)⟩ else s
def tryPair (l : List S42) (total least : Int) (i : Nat) (s : Best) (j : Nat) : Best := (List.range' 0 (total.toNat + 1)).foldl (tryOne l total least i j) s
def tryFirst (l : List S42) (total least : Int) (s : Best) (i : Nat) : Best := (List.range' (i + 1) (l.length - (i + 1))).foldl (tryPair l total least i) s
def tryAll (l : List S42) (total least : Int) : Best := (List.range' 0 l.length).foldl (tryFirst l total least) ⟨0, 0, 0, -1⟩
def cheap (l : List S42) (total least : Int) : Int × Int × Int × Bool :=
  if floursOk l = true ∧ (1 ≤ total ∧ total ≤ 100) ∧ 50 ≤ least ∧ least ≤ 500 then ((tryAll l total least).a, (tryAll l total least).b, (tryAll l total least).c, decide ((tryAll l total least).best ≥ 0)) else (0, 0, 0, false)
theorem sum_const (c : Nat) : ∀ (d i : Nat), ((List.range' i d).map (fun _ => c)).sum = c * d
  | 0, _ => by simp
  | d + 1, i => by
    rw [List.range'_succ, List.map_cons, List.sum_cons, sum_const c d (i + 1), Nat.mul_succ]
    omega
theorem strength_cost {l : List S42} {ks : List Int} {least : Int} (h50 : 50 ≤ least) (h : ¬ strength l ks < least) : kOk l ks = true := by
  apply Classical.byContradiction
  intro hn
  apply h
  unfold strength
  rw [if_neg (fun hh => hn hh.1)]
  omega
theorem dot_nonneg {l : List S42} {ks : List Int} (h : kOk l ks = true) : 0 ≤ dot S42.f1 l ks := by
  unfold dot
  have key : ∀ (is : List Nat) (c : Int), (∀ i ∈ is, i < ks.length) → 0 ≤ c → 0 ≤ is.foldl (fun c i => c + (l.getD i z42).f1 * ks.getD i 0) c := by
    intro is
    induction is with
    | nil => intro c _ h; exact h
    | cons i is ih =>
      intro c hi h0
      rw [List.foldl_cons]
      have hq := k_at h i (hi i List.mem_cons_self)
      have hf := flOk_iff.1 hq.1
      have hm := mul_small (a := (l.getD i z42).f1) (b := ks.getD i 0) (by omega) (by omega) (by omega) (by omega)
      exact ih _ (fun j hj => hi j (List.mem_cons_of_mem _ hj)) (by omega)
  exact key _ 0 (fun i hi => List.mem_range.1 hi) (by omega)
theorem cost_neg {l : List S42} {ks : List Int} : cost l ks ≥ 0 ↔ kOk l ks = true := by
  unfold cost
  by_cases h : kOk l ks = true
  · rw [if_pos h]
    exact ⟨fun _ => h, fun _ => dot_nonneg h⟩
  · rw [if_neg h]
    exact ⟨fun hh => by omega, fun hh => absurd hh h⟩
/-- What one search over two flours costs in rounds. -/
def cJ (total : Int) : Nat := total.toNat + 3
def cI (total : Int) (n i : Nat) : Nat := 2 + cJ total * (n - (i + 1))
def cAll (total : Int) (n : Nat) : Nat := ((List.range' 0 n).map (cI total n)).sum
theorem set_kil (l : List S42) (total : Int) (i j : Nat) (n : Int) : ((List.replicate ((l.length : Int) : Int).toNat (0 : Int)).set ((i : Int)).toNat n).set ((j : Int)).toNat (total - n) = kil l.length i j total n := by
  simp [kil]
section
variable (l : List S42) (total least : Int) (hl : l.length ≤ 5) (ht : 1 ≤ total ∧ total ≤ 100)
include hl ht
theorem pair_spec (i j k : Nat) (s : Best) (hi : i < l.length) (hj : j < l.length) (hB : 40 < k) :
    spec_CheapestTwo.l2 (k + 1 + (total.toNat + 1)) l total least s.a s.b s.c s.best i j 0 = spec_CheapestTwo.l1 k l total least (tryPair l total least i s j).a (tryPair l total least i s j).b (tryPair l total least i s j).c (tryPair l total least i s j).best i ((j : Int) + 1) := by
  have L := seg (fun k n (s : Best) => spec_CheapestTwo.l2 k l total least s.a s.b s.c s.best i j n) (fun k s => spec_CheapestTwo.l1 k l total least s.a s.b s.c s.best i ((j : Int) + 1)) (total.toNat + 1) 40 (fun _ => 1) (fun _ _ => True) (tryOne l total least i j)
    (fun k n s hk hn _ => by
      have hN : wrap64 ((n : Int) + 1) = (n : Int) + 1 := w64 (by omega) (by omega)
      have hT : wrap64 (total - (n : Int)) = total - (n : Int) := w64 (by omega) (by omega)
      simp only [spec_CheapestTwo.l2, Option.bind_some, hN, hT]
      rw [if_pos (by omega), if_pos (by omega), if_pos (by rw [Int.toNat_natCast]; omega), if_pos (by omega), if_pos (by rw [List.length_replicate]; omega), if_pos (by omega), if_pos (by rw [List.length_replicate]; omega), set_kil l total i j n]
      rw [strength_spec l _ k (by omega) (by rw [kil_len]; omega) (by rw [kil_len]; omega)]
      simp only [Option.bind_some, tryOne]
      by_cases h1 : strength l (kil l.length i j total n) < least
      · rw [if_pos h1, if_pos h1]
      · rw [if_neg h1, if_neg h1, cost_spec l _ k (by omega) (by rw [kil_len]; omega) (by rw [kil_len]; omega)]
        simp only [Option.bind_some]
        by_cases h2 : s.best < 0
        · rw [if_pos h2, if_pos h2]
        · rw [if_neg h2, if_neg h2]
          by_cases h3 : cost l (kil l.length i j total n) < s.best
          · rw [if_pos h3, if_pos h3]
          · rw [if_neg h3, if_neg h3])
    (fun _ _ _ _ => trivial)
    (fun k s hk _ => by
      simp only [spec_CheapestTwo.l2]
      rw [if_neg (by omega), w64 (n := (j : Int) + 1) (by omega) (by omega)])
    (total.toNat + 1) 0 k s (by omega) hB trivial
  rw [sum_const, Nat.one_mul] at L
  exact L.1
theorem first_spec (i k : Nat) (s : Best) (hi : i < l.length) (hB : 40 < k) :
    spec_CheapestTwo.l1 (k + 1 + cJ total * (l.length - (i + 1))) l total least s.a s.b s.c s.best i ((i + 1 : Nat) : Int) = spec_CheapestTwo.l0 k l total least (tryFirst l total least s i).a (tryFirst l total least s i).b (tryFirst l total least s i).c (tryFirst l total least s i).best ((i : Int) + 1) := by
  have L := seg (fun k j (s : Best) => spec_CheapestTwo.l1 k l total least s.a s.b s.c s.best i j) (fun k s => spec_CheapestTwo.l0 k l total least s.a s.b s.c s.best ((i : Int) + 1)) l.length 40 (fun _ => cJ total) (fun _ _ => True) (tryPair l total least i)
    (fun k j s hk hj _ => by
      have e : k + cJ total = (k + 1 + (total.toNat + 1)) + 1 := by unfold cJ; omega
      rw [e]
      generalize hK : k + 1 + (total.toNat + 1) = K
      simp only [spec_CheapestTwo.l1]
      rw [if_pos (by omega), ← hK]
      exact pair_spec l total least hl ht i j k s hi hj hk)
    (fun _ _ _ _ => trivial)
    (fun k s hk _ => by
      simp only [spec_CheapestTwo.l1]
      rw [if_neg (by omega), w64 (n := (i : Int) + 1) (by omega) (by omega)])
    (l.length - (i + 1)) (i + 1) k s (by omega) hB trivial
  rw [sum_const] at L
  exact L.1
theorem all_spec (k : Nat) (s : Best) (hB : 40 < k) :
    spec_CheapestTwo.l0 (k + 1 + cAll total l.length) l total least s.a s.b s.c s.best 0 = some (((List.range' 0 l.length).foldl (tryFirst l total least) s).a, ((List.range' 0 l.length).foldl (tryFirst l total least) s).b, ((List.range' 0 l.length).foldl (tryFirst l total least) s).c, decide (((List.range' 0 l.length).foldl (tryFirst l total least) s).best ≥ 0)) := by
  have L := seg (fun k i (s : Best) => spec_CheapestTwo.l0 k l total least s.a s.b s.c s.best i) (fun _ s => some (s.a, s.b, s.c, decide (s.best ≥ 0))) l.length 40 (cI total l.length) (fun _ _ => True) (tryFirst l total least)
    (fun k i s hk hi _ => by
      have e : k + cI total l.length i = (k + 1 + cJ total * (l.length - (i + 1))) + 1 := by unfold cI; omega
      rw [e]
      generalize hK : k + 1 + cJ total * (l.length - (i + 1)) = K
      simp only [spec_CheapestTwo.l0]
      rw [if_pos (by omega), w64 (n := (i : Int) + 1) (by omega) (by omega), ← hK]
      exact first_spec l total least hl ht i k s hi hk)
    (fun _ _ _ _ => trivial)
    (fun k s hk _ => by
      simp only [spec_CheapestTwo.l0]
      rw [if_neg (by omega)])
    l.length 0 k s (by omega) hB trivial
  exact L.1
theorem pair_impl (h50 : 50 ≤ least ∧ least ≤ 500) (i j k : Nat) (s : Best) (hi : i < l.length) (hj : j < l.length) (hB : 40 < k) :
    impl_CheapestTwo.l2 (k + 1 + (total.toNat + 1)) l total least s.a s.b s.c s.best i j 0 l.length i = impl_CheapestTwo.l1 k l total least (tryPair l total least i s j).a (tryPair l total least i s j).b (tryPair l total least i s j).c (tryPair l total least i s j).best i ((j : Int) + 1) l.length i := by
  have L := seg (fun k n (s : Best) => impl_CheapestTwo.l2 k l total least s.a s.b s.c s.best i j n l.length i) (fun k s => impl_CheapestTwo.l1 k l total least s.a s.b s.c s.best i ((j : Int) + 1) l.length i) (total.toNat + 1) 40 (fun _ => 1) (fun _ _ => True) (tryOne l total least i j)
    (fun k n s hk hn _ => by
      have hN : wrap64 ((n : Int) + 1) = (n : Int) + 1 := w64 (by omega) (by omega)
      have hT : wrap64 (total - (n : Int)) = total - (n : Int) := w64 (by omega) (by omega)
      simp only [impl_CheapestTwo.l2, Option.bind_some, hN, hT]
      rw [if_pos (by omega), if_pos (by omega), if_pos (by rw [Int.toNat_natCast]; omega), if_pos (by omega), if_pos (by rw [List.length_replicate]; omega), if_pos (by omega), if_pos (by rw [List.length_replicate]; omega), set_kil l total i j n]
      rw [cost_impl l _ k (by omega) (by rw [kil_len]; omega) (by rw [kil_len]; omega)]
      simp only [Option.bind_some, tryOne]
      by_cases h0 : cost l (kil l.length i j total n) ≥ 0
      · rw [if_pos h0, strength_impl l _ k (by omega) (by rw [kil_len]; omega) (by rw [kil_len]; omega)]
        simp only [Option.bind_some]
        by_cases h1 : strength l (kil l.length i j total n) < least
        · rw [if_neg (by omega), if_pos h1]
        · rw [if_pos (by omega), if_neg h1]
          by_cases h2 : s.best < 0
          · rw [if_pos h2, if_pos h2]
          · rw [if_neg h2, if_neg h2]
            by_cases h3 : cost l (kil l.length i j total n) < s.best
            · rw [if_pos h3, if_pos h3]
            · rw [if_neg h3, if_neg h3]
      · have h1 : strength l (kil l.length i j total n) < least := by
          apply Classical.byContradiction
          intro hn
          exact h0 (cost_neg.2 (strength_cost h50.1 hn))
        rw [if_neg h0, if_pos h1])
    (fun _ _ _ _ => trivial)
    (fun k s hk _ => by
      simp only [impl_CheapestTwo.l2]
      rw [if_neg (by omega), w64 (n := (j : Int) + 1) (by omega) (by omega)])
    (total.toNat + 1) 0 k s (by omega) hB trivial
  rw [sum_const, Nat.one_mul] at L
  exact L.1
theorem first_impl (h50 : 50 ≤ least ∧ least ≤ 500) (i k : Nat) (s : Best) (hi : i < l.length) (hB : 40 < k) :
    impl_CheapestTwo.l1 (k + 1 + cJ total * (l.length - (i + 1))) l total least s.a s.b s.c s.best i ((i + 1 : Nat) : Int) l.length i = impl_CheapestTwo.l0 k l total least (tryFirst l total least s i).a (tryFirst l total least s i).b (tryFirst l total least s i).c (tryFirst l total least s i).best l.length ((i : Int) + 1) := by
  have L := seg (fun k j (s : Best) => impl_CheapestTwo.l1 k l total least s.a s.b s.c s.best i j l.length i) (fun k s => impl_CheapestTwo.l0 k l total least s.a s.b s.c s.best l.length ((i : Int) + 1)) l.length 40 (fun _ => cJ total) (fun _ _ => True) (tryPair l total least i)
    (fun k j s hk hj _ => by
      have e : k + cJ total = (k + 1 + (total.toNat + 1)) + 1 := by unfold cJ; omega
      rw [e]
      generalize hK : k + 1 + (total.toNat + 1) = K
      simp only [impl_CheapestTwo.l1]
      rw [if_pos (by omega), ← hK]
      exact pair_impl l total least hl ht h50 i j k s hi hj hk)
    (fun _ _ _ _ => trivial)
    (fun k s hk _ => by
      simp only [impl_CheapestTwo.l1]
      rw [if_neg (by omega), w64 (n := (i : Int) + 1) (by omega) (by omega)])
    (l.length - (i + 1)) (i + 1) k s (by omega) hB trivial
  rw [sum_const] at L
  exact L.1
theorem all_impl (h50 : 50 ≤ least ∧ least ≤ 500) (k : Nat) (s : Best) (hB : 40 < k) :
    impl_CheapestTwo.l0 (k + 1 + cAll total l.length) l total least s.a s.b s.c s.best l.length 0 = some (((List.range' 0 l.length).foldl (tryFirst l total least) s).a, ((List.range' 0 l.length).foldl (tryFirst l total least) s).b, ((List.range' 0 l.length).foldl (tryFirst l total least) s).c, decide (((List.range' 0 l.length).foldl (tryFirst l total least) s).best ≥ 0)) := by
  have L := seg (fun k i (s : Best) => impl_CheapestTwo.l0 k l total least s.a s.b s.c s.best l.length i) (fun _ s => some (s.a, s.b, s.c, decide (s.best ≥ 0))) l.length 40 (cI total l.length) (fun _ _ => True) (tryFirst l total least)
    (fun k i s hk hi _ => by
      have e : k + cI total l.length i = (k + 1 + cJ total * (l.length - (i + 1))) + 1 := by unfold cI; omega
      rw [e]
      generalize hK : k + 1 + cJ total * (l.length - (i + 1)) = K
      simp only [impl_CheapestTwo.l0]
      rw [if_pos (by omega), w64 (n := (i : Int) + 1) (by omega) (by omega), ← hK]
      exact first_impl l total least hl ht h50 i k s hi hk)
    (fun _ _ _ _ => trivial)
    (fun k s hk _ => by
      simp only [impl_CheapestTwo.l0]
      rw [if_neg (by omega)])
    l.length 0 k s (by omega) hB trivial
  exact L.1
end
theorem cheap_spec (l : List S42) (total least : Int) (k : Nat) (hl : l.length ≤ 1000000000) (hk : l.length + cAll total l.length + 60 < k) : spec_CheapestTwo.f k l total least = some (cheap l total least) := by
  obtain ⟨k, rfl⟩ : ∃ m, k = (m + 1 + cAll total l.length) + 1 := ⟨k - cAll total l.length - 2, by omega⟩
  simp only [spec_CheapestTwo.f, flours_spec l (k + 1 + cAll total l.length + 1) hl (by omega), in_spec, Option.bind_some, spec_CheapestTwo.j0]
  by_cases h : floursOk l = true
  · rw [if_pos h]
    have hl5 := (floursOk_iff.1 h).1
    by_cases h1 : 1 ≤ total ∧ total ≤ 100
    · rw [decide_eq_true h1, if_pos rfl]
      by_cases h2 : 50 ≤ least ∧ least ≤ 500
      · rw [decide_eq_true h2, if_neg (by simp), all_spec l total least hl5.2 h1 k ⟨0, 0, 0, -1⟩ (by omega)]
        unfold cheap
        rw [if_pos ⟨h, h1, h2⟩]
        rfl
      · rw [decide_eq_false h2, if_pos (by simp)]
        unfold cheap
        rw [if_neg (fun hh => h2 hh.2.2)]
    · rw [decide_eq_false h1, if_neg (by simp), if_pos trivial]
      unfold cheap
      rw [if_neg (fun hh => h1 hh.2.1)]
  · rw [if_neg h, if_pos trivial]
    unfold cheap
    rw [if_neg (fun hh => h hh.1)]
theorem cheap_impl (l : List S42) (total least : Int) (k : Nat) (hl : l.length ≤ 1000000000) (hk : l.length + cAll total l.length + 60 < k) : impl_CheapestTwo.f k l total least = some (cheap l total least) := by
  obtain ⟨k, rfl⟩ : ∃ m, k = (m + 1 + cAll total l.length) + 1 := ⟨k - cAll total l.length - 2, by omega⟩
  simp only [impl_CheapestTwo.f, flours_impl, in_impl, Option.bind_some, impl_CheapestTwo.j0]
  by_cases h : floursOk l = true
  · rw [if_pos h]
    have hl5 := (floursOk_iff.1 h).1
    by_cases h1 : 1 ≤ total ∧ total ≤ 100
    · rw [decide_eq_true h1, if_pos rfl]
      by_cases h2 : 50 ≤ least ∧ least ≤ 500
      · rw [decide_eq_true h2, if_neg (by simp), all_impl l total least hl5.2 h1 h2 k ⟨0, 0, 0, -1⟩ (by omega)]
        unfold cheap
        rw [if_pos ⟨h, h1, h2⟩]
        rfl
      · rw [decide_eq_false h2, if_pos (by simp)]
        unfold cheap
        rw [if_neg (fun hh => h2 hh.2.2)]
    · rw [decide_eq_false h1, if_neg (by simp), if_pos trivial]
      unfold cheap
      rw [if_neg (fun hh => h1 hh.2.1)]
  · rw [if_neg h, if_pos trivial]
    unfold cheap
    rw [if_neg (fun hh => h hh.1)]

end Go.Proofs.Ytkgpjndlpjjobaa.Lem
