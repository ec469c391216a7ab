/- Plain lemmas on the printed functions: what they compute; conditions stand in each lemma. -/
import Derived.Test.YtjabgjlkemfofaaQx0
import Derived.Test.YtjabgjlkemfofaaQx24
import Derived.Test.YtjabgjlkemfofaaQx25
import Derived.Test.YtjabgjlkemfofaaQx26
import Derived.Test.YtjabgjlkemfofaaLembase
import Derived.Test.YtjabgjlkemfofaaLemin
import Derived.Test.YtjabgjlkemfofaaLemstPart
import Derived.Test.YtjabgjlkemfofaaLempartsA
import Derived.Test.YtjabgjlkemfofaaLempartsS
namespace Go.Proofs.Ytjabgjlkemfofaa.Lem
open Go.RowKit Go.Proofs.Ytjabgjlkemfofaa.Q Go.Proofs.YtjabgjlkemfofaaW.PrintWords Go.Proofs.YtjabgjlkemfofaaW.PrintLast Go.Proofs.YtjabgjlkemfofaaW.PrintMore Go.Proofs.Ytjabgjlkemfofaa.Lem
set_option linter.unusedVariables false
set_option linter.unusedSimpArgs false
theorem nmB_size {b : ByteArray} (h : nmB b = true) : 1 ≤ b.size ∧ b.size ≤ 10 := by
  unfold nmB at h
  rw [Bool.and_eq_true, decide_eq_true_eq] at h
  omega
theorem names_each {l : List ByteArray} (h : namesB l = true) : ∀ x ∈ l, nmB x = true := by
  intro x hx
  unfold namesB at h
  rw [Bool.and_eq_true] at h
  obtain ⟨i, hi, rfl⟩ := List.mem_iff_getElem.1 hx
  have := List.all_eq_true.1 h.1 i (List.mem_range.2 hi)
  unfold okN at this
  rw [Bool.and_eq_true] at this
  have e : l.getD i ByteArray.empty = l[i] := by simp [List.getD_eq_getElem?_getD, hi]
  rw [e] at this
  exact this.1
theorem sortL_mem : ∀ (l S : List S41) (y : S41), y ∈ l.foldl (fun s x => insE x s) S ↔ y ∈ S ∨ y ∈ l
  | [], S, y => by simp
  | x :: l, S, y => by
    rw [List.foldl_cons, sortL_mem l, insE_mem, List.mem_cons]
    constructor
    · rintro ((h | h) | h)
      · exact .inr (.inl h)
      · exact .inl h
      · exact .inr (.inr h)
    · rintro (h | h | h)
      · exact .inl (.inr h)
      · exact .inl (.inl h)
      · exact .inr h
theorem sorted_each (l : List S41) : ∀ y ∈ sorted l, y.f0.size ≤ 10 ∧ amB y = true ∧ y ∈ l := by
  intro y hy
  unfold sorted at hy
  by_cases h : partsOk l = true
  · rw [if_pos h] at hy
    unfold sortL at hy
    have hm : y ∈ l := by
      rcases (sortL_mem l [] y).1 hy with h2 | h2
      · cases h2
      · exact h2
    have hn : namesB (l.map S41.f0) = true := by
      unfold partsOk at h
      rw [Bool.and_eq_true] at h
      exact h.1
    exact ⟨(nmB_size (names_each hn y.f0 (List.mem_map.2 ⟨y, hm, rfl⟩))).2, (ok_len h).2.2 y hm, hm⟩
  · rw [if_neg h] at hy
    cases hy
def sepB : ByteArray := ⟨#[44, 32]⟩
theorem tail_len (sep : List UInt8) (hs : sep.length = 2) : ∀ (r : List (List UInt8)), (∀ x ∈ r, x.length ≤ 10) → (Lib.joinTail sep r).length ≤ 12 * r.length
  | [], _ => by simp [Lib.joinTail]
  | x :: r, h => by
    have ih := tail_len sep hs r (fun y hy => h y (by simp [hy]))
    have hx := h x (by simp)
    unfold Lib.joinTail at ih ⊢
    rw [List.map_cons, List.flatten_cons, List.length_append, List.length_append, List.length_cons]
    omega
theorem join_len (l : List ByteArray) (h : ∀ x ∈ l, x.size ≤ 10) : (Lib.join (l.map (·.data.toList)) sepB.data.toList).length ≤ 12 * l.length := by
  cases l with
  | nil => exact Nat.le_of_eq rfl
  | cons x r =>
    rw [List.map_cons, Lib.join_cons, List.length_append]
    have hx := h x List.mem_cons_self
    have e : x.data.toList.length = x.size := rfl
    have := tail_len sepB.data.toList rfl (r.map (·.data.toList)) (fun y hy => by
      obtain ⟨z, hz, rfl⟩ := List.mem_map.1 hy
      have e2 : z.data.toList.length = z.size := rfl
      have := h z (List.mem_cons_of_mem _ hz)
      omega)
    rw [List.length_map] at this
    rw [List.length_cons]
    omega
theorem tail_snoc (sep : List UInt8) (r : List (List UInt8)) (x : List UInt8) : Lib.joinTail sep (r ++ [x]) = Lib.joinTail sep r ++ (sep ++ x) := by
  unfold Lib.joinTail
  rw [List.map_append, List.flatten_append]
  simp
theorem join_snoc (sep : List UInt8) (r : List (List UInt8)) (x : List UInt8) (h : r ≠ []) : Lib.join (r ++ [x]) sep = Lib.join r sep ++ (sep ++ x) := by
  cases r with
  | nil => exact absurd rfl h
  | cons y r => rw [List.cons_append, Lib.join_cons, Lib.join_cons, tail_snoc, List.append_assoc]
/-- The text of a label. -/
def labelB (l : List S41) : ByteArray := joinB ((sorted l).map S41.f0) sepB
theorem label_impl (l : List S41) (hl : l.length ≤ 1000000000) (B : Nat) (hB : ∀ x ∈ l, x.f0.size ≤ B) (hB2 : B ≤ 1000000000) (k : Nat) (hk : l.length + (l.length + B) + 20 < k) : impl_LabelText.f k l = some (labelB l) := by
  unfold impl_LabelText.f
  rw [sorted_impl l hl B hB hB2 k hk]
  simp only [Option.bind_some]
  have hs := sorted_length l
  rw [namesOf_ok (sorted l) (Nat.le_trans hs (by decide)) k (Nat.lt_of_le_of_lt hs (by omega))]
  simp only [Option.bind_some]
  unfold strings_Join.f
  have hj := join_len ((sorted l).map S41.f0) (fun x hx => by
    obtain ⟨y, hy, rfl⟩ := List.mem_map.1 hx
    exact (sorted_each l y hy).1)
  rw [List.length_map] at hj
  have e : (⟨#[44, 32]⟩ : ByteArray) = sepB := rfl
  rw [e, if_pos (by rw [List.length_map]; exact Nat.le_trans hs (by decide)), if_pos (Nat.le_trans hj (Nat.le_trans (Nat.mul_le_mul_left 12 hs) (by decide)))]
  rfl
theorem label_loop (S : List S41) (hS : S.length ≤ 12) (hn : ∀ y ∈ S, y.f0.size ≤ 10) : ∀ (d k i : Nat) (s : ByteArray), i + d = S.length → d < k → s.data.toList = Lib.join ((S.take i).map (·.f0.data.toList)) sepB.data.toList → s.size ≤ 12 * i → ∃ r, spec_LabelText.l0 k s S i = some r ∧ r.data.toList = Lib.join (S.map (·.f0.data.toList)) sepB.data.toList := by
  intro d
  induction d with
  | zero =>
    intro k i s hi hk hs hz
    obtain ⟨k, rfl⟩ : ∃ m, k = m + 1 := ⟨k - 1, by omega⟩
    refine ⟨s, ?_, ?_⟩
    · rw [spec_LabelText.l0, if_neg (by omega)]
    · rw [List.take_of_length_le (by omega)] at hs
      exact hs
  | succ d ih =>
    intro k i s hi hk hs hz
    obtain ⟨k, rfl⟩ : ∃ m, k = m + 1 := ⟨k - 1, by omega⟩
    have hil : i < S.length := by omega
    have er : rd_T41 S (i : Int) = S[i] := by simp [rd_T41, List.getD_eq_getElem?_getD, hil]
    have hni := hn _ (List.getElem_mem hil)
    have et : S.take (i + 1) = S.take i ++ [S[i]] := List.take_succ_eq_append_getElem hil
    rw [spec_LabelText.l0, if_pos (by omega), er, w64 (n := (i : Int) + 1) (by omega) (by omega)]
    have e2 : (i : Int) + 1 = ((i + 1 : Nat) : Int) := by omega
    have hsep : (⟨#[44, 32]⟩ : ByteArray).size = 2 := rfl
    by_cases h0 : i = 0
    · subst h0
      rw [if_neg (by omega), if_pos (by omega), if_pos (by omega), e2]
      refine ih k 1 _ (by omega) (by omega) ?_ (by rw [ByteArray.size_append]; omega)
      rw [et, List.take_zero, List.nil_append, List.map_cons, List.map_nil, Lib.join_one, ByteArray.data_append, Array.toList_append, hs]
      rfl
    · rw [if_pos (by omega), if_pos (by omega), if_pos (by omega), if_pos (by rw [ByteArray.size_append, hsep]; omega), e2]
      refine ih k (i + 1) _ (by omega) (by omega) ?_ (by rw [ByteArray.size_append, ByteArray.size_append, hsep]; omega)
      rw [et, List.map_append, List.map_cons, List.map_nil, join_snoc _ _ _ (by
        intro e
        have := congrArg List.length e
        rw [List.length_map, List.length_take, List.length_nil] at this
        omega), ByteArray.data_append, Array.toList_append, ByteArray.data_append, Array.toList_append, hs, List.append_assoc]
      rfl
theorem label_spec (l : List S41) (hl : l.length ≤ 1000000000) (B : Nat) (hB : ∀ x ∈ l, x.f0.size ≤ B) (hB2 : B ≤ 1000000000) (k : Nat) (hk : (l.length + 1) * (l.length + 4) + B + 2000 < k) : ∃ r, spec_LabelText.f k l = some r ∧ (labelB l).toList = r.toList := by
  unfold spec_LabelText.f
  rw [sorted_spec l hl B hB hB2 k hk]
  simp only [Option.bind_some]
  have hs := sorted_length l
  obtain ⟨r, h1, h2⟩ := label_loop (sorted l) hs (fun y hy => (sorted_each l y hy).1) (sorted l).length k 0 (⟨#[]⟩ : ByteArray) (by omega) (by omega) rfl (by simp [ByteArray.size])
  refine ⟨r, h1, ?_⟩
  rw [toList_data, toList_data, h2]
  unfold labelB joinB
  rw [List.map_map]
  rfl

end Go.Proofs.Ytjabgjlkemfofaa.Lem
