/- Plain lemmas on the printed functions: what they compute; conditions stand in each lemma. -/
import Derived.Test.YtgibgapbbnbekaaQx0
import Derived.Test.YtgibgapbbnbekaaQx5
import Derived.Test.YtgibgapbbnbekaaQx7
import Derived.Test.YtgibgapbbnbekaaLembase
import Derived.Test.YtgibgapbbnbekaaLemin
import Derived.Test.YtgibgapbbnbekaaLemstFrozen
import Derived.Test.YtgibgapbbnbekaaLemthawA
import Derived.Test.YtgibgapbbnbekaaLemthawB
namespace Go.Proofs.Ytgibgapbbnbekaa.Lem
open Go.RowKit Go.Proofs.Ytgibgapbbnbekaa.Q Go.Proofs.YtgibgapbbnbekaaW.PrintWords Go.Proofs.YtgibgapbbnbekaaW.PrintLast Go.Proofs.YtgibgapbbnbekaaW.PrintMore Go.Proofs.Ytgibgapbbnbekaa.Lem
set_option linter.unusedVariables false
set_option linter.unusedSimpArgs false
theorem mx_eq (a b : Int) : mx a b = max a b := by unfold mx; omega
theorem mn_eq (a b : Int) : mn a b = min a b := by unfold mn; omega
/-- The span of hours that all pieces share, from a first span on. -/
def span (w : Int) (l : List S25) (s : Int × Int) : Int × Int := l.foldl (fun s f => (max s.1 (w - f.f0 - f.f1), min s.2 (w - f.f0))) s
def oneTime (l : List S25) (w : Int) : Int × Bool :=
  if l29ok l w = true ∧ l ≠ [] then if (span w l (-2000, 2000)).1 > (span w l (-2000, 2000)).2 then (0, false) else ((span w l (-2000, 2000)).2, true) else (0, false)
theorem outAt_ok {f : S25} {w : Int} (h : frOk f.f0 f.f1 = true) (hw : -48 ≤ w ∧ w ≤ 1000) : outAt f.f0 f.f1 w = (w - f.f0 - f.f1, w - f.f0, true) := by
  unfold outAt
  rw [if_pos ⟨h, hw⟩]
theorem one_spec (l : List S25) (w : Int) (k : Nat) (hl : l.length ≤ 1000000000) (hk : l.length + 10 < k) : spec_OneTime.f k l w = some (oneTime l w) := by
  obtain ⟨k, rfl⟩ : ∃ m, k = m + 1 := ⟨k - 1, by omega⟩
  simp only [spec_OneTime.f, l29_spec l w (k + 1) hl (by omega), Option.bind_some, oneTime, spec_OneTime.j0]
  by_cases h : l29ok l w = true
  · obtain ⟨⟨h1, h2⟩, h3⟩ := l29ok_iff.1 h
    rw [if_pos h]
    by_cases he : l = []
    · subst he
      have e0 : ¬ (l29ok [] w = true ∧ ([] : List S25) ≠ []) := fun hh => hh.2 rfl
      rw [if_neg e0]
      simp
    · have hlen : 0 < l.length := List.length_pos_iff.2 he
      have e : ((l.length : Int) == 0) = false := by simp; omega
      rw [e, if_neg (by simp), if_pos (c := l29ok l w = true ∧ _) ⟨h, he⟩]
      have L := loop_fold' (fun k i (s : Int × Int) => spec_OneTime.l0 k l w s.1 s.2 i) l.length 0 (by omega) (fun s i => (max s.1 (w - (l.getD i z25).f0 - (l.getD i z25).f1), min s.2 (w - (l.getD i z25).f0))) (fun s => some (if s.1 > s.2 then (0, false) else (s.2, true)))
        (fun k i s hB hi => by
          have hM := h3 (l.getD i z25) (by simp [List.getD_eq_getElem?_getD, hi])
          simp only [spec_OneTime.l0, rdIFrozen, outAt_spec, Option.bind_some]
          rw [if_pos (by omega), if_pos (by omega), outAt_ok hM h2]
          simp only [mx_eq, mn_eq])
        (fun k s hB => by
          simp only [spec_OneTime.l0]
          rw [if_neg (by omega)]
          split <;> rfl) k (-2000, 2000) (by omega)
      rw [L]
      have := foldl_range_getD' l z25 (fun (s : Int × Int) f => (max s.1 (w - f.f0 - f.f1), min s.2 (w - f.f0))) (-2000, 2000)
      rw [this]
      rfl
  · rw [if_neg h, if_pos trivial, if_neg (c := l29ok l w = true ∧ _) (fun hh => h hh.1)]
theorem span_same (w : Int) : ∀ (l : List S25) (s t : Int × Int), s = t → span w l s = span w l t
  | _, _, _, rfl => rfl
theorem one_impl (l : List S25) (w : Int) (k : Nat) (hl : l.length ≤ 1000000000) (hk : l.length + 10 < k) : impl_OneTime.f k l w = some (oneTime l w) := by
  simp only [impl_OneTime.f, in_impl, Option.bind_some]
  by_cases h0 : (1 : Int) ≤ l.length ∧ (l.length : Int) ≤ 20
  · rw [decide_eq_true h0, if_pos rfl]
    have L := loop_foldX (fun k i (s : Int × Int) => impl_OneTime.l0 k w s.1 s.2 l l.length i) l.length 0 (by omega) (fun _ _ => True)
      (fun s i => if (outAt (l.getD i z25).f0 (l.getD i z25).f1 w).2.2 = true then .inl (max s.1 (outAt (l.getD i z25).f0 (l.getD i z25).f1 w).1, min s.2 (outAt (l.getD i z25).f0 (l.getD i z25).f1 w).2.1) else .inr (0, false))
      (fun s => some (if s.1 > s.2 then (0, false) else (s.2, true)))
      (fun k i s hB hi _ => by
        simp only [impl_OneTime.l0, rdIFrozen, outAt_impl, Option.bind_some]
        rw [if_pos (by omega), if_pos (by omega), if_pos (by omega)]
        by_cases hh : (outAt (l.getD i z25).f0 (l.getD i z25).f1 w).2.2 = true
        · rw [if_pos hh, if_pos hh]
          simp only [mx_eq, mn_eq]
        · rw [if_neg hh, if_neg hh])
      (fun _ _ _ _ _ _ => trivial)
      (fun k s hB _ => by
        simp only [impl_OneTime.l0]
        rw [if_neg (by omega)]
        split <;> rfl) k (-10000, 10000) trivial (by omega)
    rw [L]
    clear L
    by_cases h : l29ok l w = true
    · obtain ⟨⟨h1, h2⟩, h3⟩ := l29ok_iff.1 h
      unfold oneTime
      have hne : l ≠ [] := fun e => by subst e; simp at h0
      rw [if_pos ⟨h, hne⟩]
      have key : ∀ (is : List Nat) (s : Int × Int), (∀ i ∈ is, i < l.length) → foldX (fun (s : Int × Int) i => if (outAt (l.getD i z25).f0 (l.getD i z25).f1 w).2.2 = true then Sum.inl (max s.1 (outAt (l.getD i z25).f0 (l.getD i z25).f1 w).1, min s.2 (outAt (l.getD i z25).f0 (l.getD i z25).f1 w).2.1) else Sum.inr (0, false)) (fun s => some (if s.1 > s.2 then (0, false) else (s.2, true))) is s =
          some (if (is.foldl (fun (s : Int × Int) i => (max s.1 (w - (l.getD i z25).f0 - (l.getD i z25).f1), min s.2 (w - (l.getD i z25).f0))) s).1 > (is.foldl (fun (s : Int × Int) i => (max s.1 (w - (l.getD i z25).f0 - (l.getD i z25).f1), min s.2 (w - (l.getD i z25).f0))) s).2 then (0, false) else ((is.foldl (fun (s : Int × Int) i => (max s.1 (w - (l.getD i z25).f0 - (l.getD i z25).f1), min s.2 (w - (l.getD i z25).f0))) s).2, true)) := by
        intro is
        induction is with
        | nil => intro s _; rfl
        | cons i is ih =>
          intro s hs
          have hi := hs i List.mem_cons_self
          have hM := h3 (l.getD i z25) (by simp [List.getD_eq_getElem?_getD, hi])
          simp only [foldX]
          rw [outAt_ok hM h2]
          simp only [if_true]
          rw [ih _ (fun j hj => hs j (List.mem_cons_of_mem _ hj)), List.foldl_cons]
      rw [key _ _ (fun i hi => List.mem_range.1 hi)]
      rw [foldl_range_getD' l z25 (fun (s : Int × Int) f => (max s.1 (w - f.f0 - f.f1), min s.2 (w - f.f0))) (-10000, 10000)]
      have e : l.foldl (fun (s : Int × Int) f => (max s.1 (w - f.f0 - f.f1), min s.2 (w - f.f0))) (-10000, 10000) = span w l (-2000, 2000) := by
        match l, hne, h3 with
        | f :: r, _, h3 =>
          have hf := frOk_iff.1 (h3 f List.mem_cons_self)
          unfold span
          rw [List.foldl_cons, List.foldl_cons]
          congr 1
          simp only [Prod.mk.injEq]
          omega
      rw [e]
    · have hn : oneTime l w = (0, false) := by
        unfold oneTime
        rw [if_neg (fun hh => h hh.1)]
      rw [hn]
      have hbad : (∃ i, i < l.length ∧ (outAt (l.getD i z25).f0 (l.getD i z25).f1 w).2.2 = false) := by
        by_cases hw : -48 ≤ w ∧ w ≤ 1000
        · have : ¬ ∀ f ∈ l, frOk f.f0 f.f1 = true := fun hh => h (l29ok_iff.2 ⟨⟨by omega, hw⟩, hh⟩)
          have : ∃ f, f ∈ l ∧ ¬ frOk f.f0 f.f1 = true := by
            apply Classical.byContradiction
            intro hc
            exact this (fun f hf => Classical.byContradiction fun hn => hc ⟨f, hf, hn⟩)
          obtain ⟨f, hf, hb⟩ := this
          obtain ⟨i, hi, rfl⟩ := List.mem_iff_getElem.1 hf
          refine ⟨i, hi, ?_⟩
          have e : l.getD i z25 = l[i] := by simp [List.getD_eq_getElem?_getD, hi]
          rw [e]
          unfold outAt
          rw [if_neg (fun hh => hb hh.1)]
        · refine ⟨0, by omega, ?_⟩
          unfold outAt
          rw [if_neg (fun hh => hw hh.2)]
      obtain ⟨j, hj, hb⟩ := hbad
      have key : ∀ (is : List Nat) (s : Int × Int), j ∈ is → foldX (fun (s : Int × Int) i => if (outAt (l.getD i z25).f0 (l.getD i z25).f1 w).2.2 = true then Sum.inl (max s.1 (outAt (l.getD i z25).f0 (l.getD i z25).f1 w).1, min s.2 (outAt (l.getD i z25).f0 (l.getD i z25).f1 w).2.1) else Sum.inr (0, false)) (fun s => some (if s.1 > s.2 then (0, false) else (s.2, true))) is s = some (0, false) := by
        intro is
        induction is with
        | nil => intro s hs; simp at hs
        | cons i is ih =>
          intro s hs
          simp only [foldX]
          by_cases hh : (outAt (l.getD i z25).f0 (l.getD i z25).f1 w).2.2 = true
          · rw [if_pos hh]
            rcases List.mem_cons.1 hs with e | hs2
            · subst e
              rw [hb] at hh
              exact absurd hh (by simp)
            · exact ih _ hs2
          · rw [if_neg hh]
      exact key _ _ (List.mem_range.2 hj)
  · rw [decide_eq_false h0, if_neg (by simp)]
    have hn : oneTime l w = (0, false) := by
      unfold oneTime
      rw [if_neg]
      rintro ⟨h, hne⟩
      have := (l29ok_iff.1 h).1
      have := List.length_pos_iff.2 hne
      omega
    rw [hn]

end Go.Proofs.Ytgibgapbbnbekaa.Lem
