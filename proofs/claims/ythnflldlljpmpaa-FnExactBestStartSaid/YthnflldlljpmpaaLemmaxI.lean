/- Plain lemmas on the printed functions: what they compute; conditions stand in each lemma. -/
import Derived.Test.YthnflldlljpmpaaQx17
import Derived.Test.YthnflldlljpmpaaLembase
namespace Go.Proofs.Ythnflldlljpmpaa.Lem
open Go.RowKit Go.Proofs.Ythnflldlljpmpaa.Q Go.Proofs.YthnflldlljpmpaaW.PrintWords Go.Proofs.YthnflldlljpmpaaW.PrintLast Go.Proofs.YthnflldlljpmpaaW.PrintMore Go.Proofs.Ythnflldlljpmpaa.Lem
set_option linter.unusedVariables false
set_option linter.unusedSimpArgs false
theorem mx_eq (a b : Int) : mx a b = max a b := by unfold mx; omega
theorem mn_eq (a b : Int) : mn a b = min a b := by unfold mn; omega
/-- The greatest number of a list of numbers of at least 0; 0 if there is none. -/
def maxR (l : List Int) : Int := l.foldl max 0
theorem foldl_max (l : List Int) : ∀ m, m ≤ l.foldl max m ∧ (∀ x ∈ l, x ≤ l.foldl max m) ∧ (l.foldl max m = m ∨ l.foldl max m ∈ l) := by
  induction l with
  | nil => intro m; exact ⟨Int.le_refl _, fun x hx => by simp at hx, .inl rfl⟩
  | cons a l ih =>
    intro m
    rw [List.foldl_cons]
    obtain ⟨h1, h2, h3⟩ := ih (max m a)
    refine ⟨by omega, fun x hx => ?_, ?_⟩
    · rcases List.mem_cons.1 hx with rfl | hx
      · omega
      · exact h2 x hx
    · rcases h3 with h3 | h3
      · rw [h3]
        by_cases h : m ≤ a
        · exact .inr (by rw [Int.max_eq_right h]; exact List.mem_cons_self)
        · exact .inl (Int.max_eq_left (by omega))
      · exact .inr (List.mem_cons_of_mem _ h3)
theorem maxR_ge {l : List Int} {x : Int} (h : x ∈ l) : x ≤ maxR l := (foldl_max l 0).2.1 x h
theorem maxR_nonneg (l : List Int) : 0 ≤ maxR l := (foldl_max l 0).1
theorem maxR_mem {l : List Int} (hne : l ≠ []) (h0 : ∀ x ∈ l, 0 ≤ x) : maxR l ∈ l := by
  rcases (foldl_max l 0).2.2 with h | h
  · match l, hne with
    | a :: r, _ =>
      have h1 := h0 a List.mem_cons_self
      have h2 := maxR_ge (l := a :: r) List.mem_cons_self
      have h3 : maxR (a :: r) = 0 := h
      have : a = 0 := by omega
      rw [h3, ← this]
      exact List.mem_cons_self
  · exact h
theorem maxR_le {l : List Int} {M : Int} (h0 : 0 ≤ M) (h : ∀ x ∈ l, x ≤ M) : maxR l ≤ M := by
  rcases (foldl_max l 0).2.2 with e | e
  · have : maxR l = 0 := e
    omega
  · exact h _ e
theorem max_ok (l : List Int) (hne : l ≠ []) (h0 : ∀ x ∈ l, 0 ≤ x) (k : Nat) (hl : l.length ≤ 1000000000) (hk : l.length < k) : slices_Max_int_int.f k l = some (maxR l) := by
  have hlen : 0 < l.length := List.length_pos_iff.2 hne
  unfold slices_Max_int_int.f
  rw [if_neg (by omega), if_pos (by omega)]
  have key : ∀ (d k i : Nat) (m : Int), i + d = l.length → d < k → slices_Max_int_int.l0 k l m i = some ((l.drop i).foldl max m) := by
    intro d
    induction d with
    | zero =>
      intro k i m hd hk
      obtain ⟨k, rfl⟩ : ∃ m, k = m + 1 := ⟨k - 1, by omega⟩
      simp only [slices_Max_int_int.l0]
      rw [if_neg (by omega), List.drop_eq_nil_of_le (by omega)]
      rfl
    | succ d ih =>
      intro k i m hd hk
      obtain ⟨k, rfl⟩ : ∃ m, k = m + 1 := ⟨k - 1, by omega⟩
      have hi : i < l.length := by omega
      simp only [slices_Max_int_int.l0]
      have e : rd l (i : Int) = l[i] := by simp [rd, List.getD_eq_getElem?_getD, hi]
      rw [if_pos (by omega), if_pos (by omega), w64s (n := l.length) (by omega) (by omega) (by omega), e, mx_eq, List.drop_eq_getElem_cons hi, List.foldl_cons]
      have := ih k (i + 1) (max m l[i]) (by omega) (by omega)
      rw [Int.natCast_add] at this
      exact this
  have := key (l.length - 1) k 1 (rd l 0) (by omega) (by omega)
  have e0 : rd l 0 = l[0] := by simp [rd, List.getD_eq_getElem?_getD, hlen]
  have e2 : maxR l = (l.drop 1).foldl max l[0] := by
    have e3 : l = l[0] :: l.drop 1 := by
      have := List.drop_eq_getElem_cons hlen
      simpa using this
    have h1 := h0 _ (List.getElem_mem hlen)
    unfold maxR
    conv => lhs; rw [e3]
    rw [List.foldl_cons, Int.max_eq_right h1]
  rw [e2, ← e0]
  exact this
theorem index_hit (l : List Int) (v : Int) (j : Nat) (hj : j < l.length) (hv : l[j] = v) (hb : ∀ i (hi : i < j), l[i]'(by omega) ≠ v) (k : Nat) (hl : l.length ≤ 1000000000) (hk : l.length < k) : slices_Index_int_int.f k l v = some (j : Int) := by
  unfold slices_Index_int_int.f
  have key : ∀ (d k i : Nat), i + d = j → l.length < k + i → slices_Index_int_int.l0 k l v l.length i = some (j : Int) := by
    intro d
    induction d with
    | zero =>
      intro k i hd hk
      obtain ⟨k, rfl⟩ : ∃ m, k = m + 1 := ⟨k - 1, by omega⟩
      have : i = j := by omega
      subst this
      simp only [slices_Index_int_int.l0]
      have e : rd l (i : Int) = l[i] := by simp [rd, List.getD_eq_getElem?_getD, hj]
      rw [if_pos (by omega), if_pos (by omega), if_pos (by omega), if_pos (by rw [e, hv])]
    | succ d ih =>
      intro k i hd hk
      obtain ⟨k, rfl⟩ : ∃ m, k = m + 1 := ⟨k - 1, by omega⟩
      have hi : i < l.length := by omega
      simp only [slices_Index_int_int.l0]
      have e : rd l (i : Int) = l[i] := by simp [rd, List.getD_eq_getElem?_getD, hi]
      have hn := hb i (by omega)
      rw [if_pos (by omega), if_pos (by omega), if_pos (by omega), if_neg (by rw [e]; exact fun h => hn h.symm), w64s (n := l.length) (by omega) (by omega) (by omega)]
      have := ih k (i + 1) (by omega) (by omega)
      rw [Int.natCast_add] at this
      exact this
  exact key j k 0 (by omega) (by omega)
/-- The first place of the greatest number. -/
def firstMax (l : List Int) : Nat := l.findIdx (fun x => decide (x = maxR l))
theorem firstMax_spec {l : List Int} (hne : l ≠ []) (h0 : ∀ x ∈ l, 0 ≤ x) : ∃ h : firstMax l < l.length, l[firstMax l] = maxR l ∧ ∀ i (hi : i < firstMax l), l[i]'(by omega) ≠ maxR l := by
  have hm := maxR_mem hne h0
  have hlt : firstMax l < l.length := List.findIdx_lt_length_of_exists ⟨_, hm, by simp⟩
  refine ⟨hlt, ?_, fun i hi => ?_⟩
  · have := List.findIdx_getElem (w := hlt)
    exact of_decide_eq_true this
  · have := List.not_of_lt_findIdx hi
    exact of_decide_eq_false this

end Go.Proofs.Ythnflldlljpmpaa.Lem
