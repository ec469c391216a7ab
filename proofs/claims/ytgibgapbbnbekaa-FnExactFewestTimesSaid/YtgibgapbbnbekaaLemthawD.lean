/- Plain lemmas on the printed functions: what they compute; conditions stand in each lemma. -/
import Derived.Test.YtgibgapbbnbekaaQx0
import Derived.Test.YtgibgapbbnbekaaQx3
import Derived.Test.YtgibgapbbnbekaaQx13
import Derived.Test.YtgibgapbbnbekaaQx20
import Derived.Test.YtgibgapbbnbekaaLembase
import Derived.Test.YtgibgapbbnbekaaLemin
import Derived.Test.YtgibgapbbnbekaaLemstFrozen
import Derived.Test.YtgibgapbbnbekaaLemthawA
import Derived.Test.YtgibgapbbnbekaaLemthawB
import Derived.Test.YtgibgapbbnbekaaLemthawC
import Derived.Test.YtgibgapbbnbekaaLemsortA
namespace Go.Proofs.Ytgibgapbbnbekaa.Lem
open Go.RowKit Go.Proofs.Ytgibgapbbnbekaa.Q Go.Proofs.YtgibgapbbnbekaaW.PrintWords Go.Proofs.YtgibgapbbnbekaaW.PrintLast Go.Proofs.YtgibgapbbnbekaaW.PrintMore Go.Proofs.Ytgibgapbbnbekaa.Lem
set_option linter.unusedVariables false
set_option linter.unusedSimpArgs false
def lstI (o : List Int) : Int := if o = [] then -2000 else o.getD (o.length - 1) 0
theorem lstI_app (o : List Int) (h : Int) : lstI (o ++ [h]) = h := by
  unfold lstI
  rw [if_neg (by simp)]
  simp
/-- One piece more: its last hour, if the hours so far do not serve it. -/
def thawStep (w : Int) (o : List Int) (f : S25) : List Int := if lstI o < w - f.f0 - f.f1 then o ++ [w - f.f0] else o
def hoursOf (w : Int) (M : List S25) : List Int := M.foldl (thawStep w) []
theorem indices_ok (n k : Nat) (hn : n ≤ 1000000) (hk : n + 1 < k) : impl_indices.f k n = some ((List.range n).map fun i : Nat => (i : Int)) := by
  unfold impl_indices.f
  have h := (loop_fold (fun k i xs => impl_indices.l0 k xs n i) n 0 (by omega) (fun i xs => xs.length = i) (fun xs i => xs ++ [(i : Int)]) (fun xs => some xs)
    (fun k i s _ hi hp => by
      simp only [impl_indices.l0]
      rw [if_pos (by omega), if_pos (by omega)])
    (fun i s _ hp => by simp [hp])
    (fun k s _ hp => by
      simp only [impl_indices.l0]
      rw [if_neg (by omega)]) k [] rfl (by omega)).1
  rw [h]
  have key : ∀ (is : List Nat) (acc : List Int), is.foldl (fun (xs : List Int) (i : Nat) => xs ++ [(i : Int)]) acc = acc ++ is.map (fun i : Nat => (i : Int)) := by
    intro is
    induction is with
    | nil => intro acc; simp
    | cons i is ih => intro acc; simp [ih]
  rw [key]
  rfl
theorem best_eq (w last : Int) : ∀ (l : List S25) (b m : Int), (∀ g ∈ l, w - g.f0 - g.f1 > last → m ≤ w - g.f0) → m ≤ b → (b = m ∨ ∃ f ∈ l, w - f.f0 - f.f1 > last ∧ w - f.f0 = m) → l.foldl (fun b f => if w - f.f0 - f.f1 > last then mn b (w - f.f0) else b) b = m := by
  intro l
  induction l with
  | nil =>
    intro b m _ _ h
    rcases h with h | ⟨f, hf, _⟩
    · exact h
    · simp at hf
  | cons g l ih =>
    intro b m hg hb h
    rw [List.foldl_cons]
    have hg0 := hg g List.mem_cons_self
    apply ih _ m (fun x hx => hg x (List.mem_cons_of_mem _ hx))
    · by_cases c : w - g.f0 - g.f1 > last
      · rw [if_pos c, mn_eq]
        have := hg0 c
        omega
      · rw [if_neg c]
        exact hb
    · by_cases c : w - g.f0 - g.f1 > last
      · rw [if_pos c, mn_eq]
        have := hg0 c
        rcases h with h | ⟨f, hf, h1, h2⟩
        · left
          omega
        · rcases List.mem_cons.1 hf with e | hf'
          · subst e
            left
            omega
          · exact .inr ⟨f, hf', h1, h2⟩
      · rw [if_neg c]
        rcases h with h | ⟨f, hf, h1, h2⟩
        · exact .inl h
        · rcases List.mem_cons.1 hf with e | hf'
          · subst e
            exact absurd h1 c
          · exact .inr ⟨f, hf', h1, h2⟩
theorem sum_ones (d i : Nat) : ((List.range' i d).map fun _ => 1).sum = d := by
  induction d generalizing i with
  | zero => rfl
  | succ d ih =>
    rw [List.range'_succ, List.map_cons, List.sum_cons, ih]
    omega
/-- One round of the reference. -/
theorem fewest_round (l : List S25) (w : Int) (out : List Int) (last : Int) (k : Nat) (hl : l.length ≤ 20) (hok : ∀ f ∈ l, frOk f.f0 f.f1 = true) (hw : -48 ≤ w ∧ w ≤ 1000) (ho : out.length ≤ 20) :
    spec_FewestTimes.l0 (k + 1 + 1 + l.length + 1) l w out last = if l.foldl (fun b f => if w - f.f0 - f.f1 > last then mn b (w - f.f0) else b) 3000 = 3000 then some out else spec_FewestTimes.l0 (k + 1) l w (out ++ [l.foldl (fun b f => if w - f.f0 - f.f1 > last then mn b (w - f.f0) else b) 3000]) (l.foldl (fun b f => if w - f.f0 - f.f1 > last then mn b (w - f.f0) else b) 3000) := by
  simp only [spec_FewestTimes.l0]
  have h := (seg (fun k i b => spec_FewestTimes.l1 k l w out last b i) (fun k b => if b = 3000 then some out else spec_FewestTimes.l0 k l w (out ++ [b]) b) l.length 0 (fun _ => 1) (fun _ _ => True)
    (fun b i => if w - (l.getD i z25).f0 - (l.getD i z25).f1 > last then mn b (w - (l.getD i z25).f0) else b)
    (fun k i b _ hi _ => by
      have hM := hok (l.getD i z25) (by simp [List.getD_eq_getElem?_getD, hi])
      simp only [spec_FewestTimes.l1, rdIFrozen, spec_OutAt.f]
      have := outAt_spec (l.getD i z25).f0 (l.getD i z25).f1 w
      simp only [spec_OutAt.f] at this
      rw [if_pos (by omega), if_pos (by omega), this, outAt_ok hM hw]
      simp only [Option.bind_some]
      rw [w64 (n := (i : Int) + 1) (by omega) (by omega)]
      split <;> rfl)
    (fun _ _ _ _ => trivial)
    (fun k b _ _ => by
      simp only [spec_FewestTimes.l1]
      rw [if_neg (by omega)]
      by_cases e : b = 3000
      · rw [if_pos e, if_pos e]
      · rw [if_neg e, if_neg e, if_pos (by omega)]) l.length 0 (k + 1) 3000 (by omega) (by omega) trivial).1
  rw [sum_ones] at h
  have e := foldl_range_getD l z25 (fun b f => if w - f.f0 - f.f1 > last then mn b (w - f.f0) else b) 3000
  rw [e] at h
  exact h
theorem fewest_spec (l : List S25) (w : Int) (hl : l.length ≤ 20) (hok : ∀ f ∈ l, frOk f.f0 f.f1 = true) (hw : -48 ≤ w ∧ w ≤ 1000) :
    ∀ (M D : List S25) (out : List Int) (k : Nat), (D ++ M).Perm l → M.Pairwise (fun f g => w - f.f0 ≤ w - g.f0) → (∀ d ∈ D, w - d.f0 - d.f1 ≤ lstI out) → out.length + M.length ≤ 20 → (M.length + 1) * (l.length + 3) < k →
      spec_FewestTimes.l0 k l w out (lstI out) = some (M.foldl (thawStep w) out) := by
  intro M
  induction M with
  | nil =>
    intro D out k hp hs hd ho hk
    obtain ⟨k, rfl⟩ : ∃ m, k = m + 1 + 1 + l.length + 1 := ⟨k - 3 - l.length, by simp at hk; omega⟩
    rw [fewest_round l w out (lstI out) k hl hok hw (by omega)]
    have e := best_eq w (lstI out) l 3000 3000 (fun g hg c => by
      have := hd g (by simpa using hp.mem_iff.2 hg)
      omega) (Int.le_refl _) (.inl rfl)
    rw [if_pos e]
    rfl
  | cons f M ih =>
    intro D out k hp hs hd ho hk
    have hmul : (M.length + 1 + 1) * (l.length + 3) = (M.length + 1) * (l.length + 3) + (l.length + 3) := Nat.succ_mul _ _
    rw [List.length_cons] at hk ho
    have hf := frOk_iff.1 (hok f (hp.mem_iff.1 (by simp)))
    rw [List.foldl_cons]
    by_cases c : lstI out < w - f.f0 - f.f1
    · obtain ⟨k, rfl⟩ : ∃ m, k = m + 1 + 1 + l.length + 1 := ⟨k - 3 - l.length, by omega⟩
      rw [fewest_round l w out (lstI out) k hl hok hw (by omega)]
      have e := best_eq w (lstI out) l 3000 (w - f.f0) (fun g hg cg => by
        rcases List.mem_append.1 (hp.mem_iff.2 hg) with h | h
        · have := hd g h
          omega
        · rcases List.mem_cons.1 h with h | h
          · subst h
            exact Int.le_refl _
          · exact (List.pairwise_cons.1 hs).1 g h) (by omega) (.inr ⟨f, hp.mem_iff.1 (by simp), by omega, rfl⟩)
      rw [e, if_neg (by omega)]
      have es : thawStep w out f = out ++ [w - f.f0] := by
        unfold thawStep
        rw [if_pos c]
      rw [es]
      have := ih (D ++ [f]) (out ++ [w - f.f0]) (k + 1) (by simpa using hp) (List.pairwise_cons.1 hs).2 (fun d hd2 => by
        rw [lstI_app]
        rcases List.mem_append.1 hd2 with h | h
        · have := hd d h
          omega
        · have := List.mem_singleton.1 h
          subst this
          omega) (by simp; omega) (by omega)
      rw [lstI_app] at this
      exact this
    · have es : thawStep w out f = out := by
        unfold thawStep
        rw [if_neg c]
      rw [es]
      exact ih (D ++ [f]) out k (by simpa using hp) (List.pairwise_cons.1 hs).2 (fun d hd2 => by
        rcases List.mem_append.1 hd2 with h | h
        · exact hd d h
        · have := List.mem_singleton.1 h
          subst this
          omega) (by omega) (by omega)

end Go.Proofs.Ytgibgapbbnbekaa.Lem
