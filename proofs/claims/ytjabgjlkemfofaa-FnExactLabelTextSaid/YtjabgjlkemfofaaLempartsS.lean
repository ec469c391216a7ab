/- Plain lemmas on the printed functions: what they compute; conditions stand in each lemma. -/
import Derived.Test.YtjabgjlkemfofaaQx0
import Derived.Test.YtjabgjlkemfofaaQx11
import Derived.Test.YtjabgjlkemfofaaQx15
import Derived.Test.YtjabgjlkemfofaaQx17
import Derived.Test.YtjabgjlkemfofaaQx19
import Derived.Test.YtjabgjlkemfofaaQx20
import Derived.Test.YtjabgjlkemfofaaLembase
import Derived.Test.YtjabgjlkemfofaaLemin
import Derived.Test.YtjabgjlkemfofaaLemstPart
import Derived.Test.YtjabgjlkemfofaaLempartsA
namespace Go.Proofs.Ytjabgjlkemfofaa.Lem
open Go.RowKit Go.Proofs.Ytjabgjlkemfofaa.Q Go.Proofs.YtjabgjlkemfofaaW.PrintWords Go.Proofs.YtjabgjlkemfofaaW.PrintLast Go.Proofs.YtjabgjlkemfofaaW.PrintMore Go.Proofs.Ytjabgjlkemfofaa.Lem
set_option linter.unusedVariables false
set_option linter.unusedSimpArgs false
/-- Part x comes ahead of part y. -/
def ahead (x y : S41) : Bool := decide (y.f1 < x.f1) || (decide (y.f1 = x.f1) && Op.bytesLess x.f0.toList y.f0.toList)
/-- x put into a row (told from its end). -/
def insR (x : S41) : List S41 → List S41
  | [] => [x]
  | y :: ys => if ahead x y = true then y :: insR x ys else x :: y :: ys
def insE (x : S41) (l : List S41) : List S41 := (insR x l.reverse).reverse
def sortL (l : List S41) : List S41 := l.foldl (fun s x => insE x s) []
theorem insR_length (x : S41) : ∀ l, (insR x l).length = l.length + 1
  | [] => rfl
  | y :: ys => by
    unfold insR
    split
    · rw [List.length_cons, insR_length x ys]; rfl
    · rfl
theorem insE_length (x : S41) (l : List S41) : (insE x l).length = l.length + 1 := by
  unfold insE
  rw [List.length_reverse, insR_length, List.length_reverse]
theorem insE_nil (x : S41) : insE x [] = [x] := rfl
theorem insR_cons (x y : S41) (ys : List S41) : insR x (y :: ys) = if ahead x y = true then y :: insR x ys else x :: y :: ys := rfl
theorem insE_snoc (x y : S41) (l : List S41) : insE x (l ++ [y]) = if ahead x y = true then insE x l ++ [y] else l ++ [y, x] := by
  unfold insE
  rw [List.reverse_append, List.reverse_singleton, List.singleton_append]
  by_cases h : ahead x y = true
  · rw [if_pos h, insR_cons, if_pos h, List.reverse_cons]
  · rw [if_neg h, insR_cons, if_neg h]
    simp
/-! ### the program's sort -/
theorem toList_data (b : ByteArray) : b.toList = b.data.toList := Go.Lib.toList_data b
theorem cmpBytes_lt : ∀ (a b : List UInt8), (Lib.compareBytes a b < 0 ↔ Op.bytesLess a b = true)
  | [], [] => by simp [Lib.compareBytes, Op.bytesLess]
  | [], _ :: _ => by simp [Lib.compareBytes, Op.bytesLess]
  | _ :: _, [] => by simp [Lib.compareBytes, Op.bytesLess]
  | x :: a, y :: b => by
    have ih := cmpBytes_lt a b
    unfold Lib.compareBytes Op.bytesLess
    by_cases h : x < y
    · simp [h]
    · by_cases h2 : y < x
      · have hne : ¬ x = y := fun e => by subst e; exact UInt8.lt_irrefl _ h2
        simp [h, h2, hne]
      · have he : x = y := by
          rcases UInt8.lt_or_lt_of_ne (a := x) (b := y) with h3
          apply Classical.byContradiction
          intro hn
          rcases UInt8.lt_or_lt_of_ne hn with h4 | h4
          · exact h h4
          · exact h2 h4
        subst he
        simp [h, ih]
theorem ltOf_cmp (x y : S41) (hx : amB x = true) (hy : amB y = true) : ltOf cmpP x y = ahead x y := by
  have h1 := of_decide_eq_true hx
  have h2 := of_decide_eq_true hy
  unfold ltOf cmpP ahead
  rw [w64 (n := y.f1 - x.f1) (by omega) (by omega), toList_data, toList_data]
  by_cases e : y.f1 - x.f1 = 0
  · have e2 : y.f1 = x.f1 := by omega
    rw [if_pos e, decide_eq_false (by omega : ¬ y.f1 < x.f1), decide_eq_true e2, Bool.false_or, Bool.true_and]
    have := cmpBytes_lt x.f0.data.toList y.f0.data.toList
    cases hb : Op.bytesLess x.f0.data.toList y.f0.data.toList with
    | true => exact decide_eq_true (this.2 hb)
    | false => exact decide_eq_false (fun h => by rw [this.1 h] at hb; cases hb)
  · rw [if_neg e, decide_eq_false (by omega : ¬ y.f1 = x.f1), Bool.false_and, Bool.or_false]
    by_cases h : y.f1 < x.f1
    · rw [decide_eq_true h, decide_eq_true (by omega)]
    · rw [decide_eq_false h, decide_eq_false (by omega)]
theorem arr_get (A B : List S41) (x : S41) : ((A ++ x :: B).toArray)[A.length]! = x := by
  rw [getElem!_pos _ _ (by simp)]
  simp
theorem arr_get' (A B : List S41) (x : S41) (n : Nat) (h : n = A.length) : ((A ++ x :: B).toArray)[n]! = x := by
  subst h
  exact arr_get A B x
theorem insInner_ok (x : S41) (hx : amB x = true) : ∀ (n : Nat) (A B : List S41), A.length = n → (∀ y ∈ A, amB y = true) → Go.Sort.insInner (ltOf cmpP) 0 n (A ++ x :: B).toArray = (insE x A ++ B).toArray := by
  intro n
  induction n with
  | zero =>
    intro A B hA _
    have : A = [] := List.length_eq_zero_iff.1 hA
    subst this
    rfl
  | succ n ih =>
    intro A B hA hy
    have hne : A ≠ [] := fun h => by rw [h] at hA; cases hA
    obtain ⟨A', y, rfl⟩ : ∃ A' y, A = A' ++ [y] := ⟨A.dropLast, A.getLast hne, (List.dropLast_concat_getLast hne).symm⟩
    have hA' : A'.length = n := by rw [List.length_append] at hA; simpa using hA
    have hyy := hy y (by simp)
    have e1 : (A' ++ [y] ++ x :: B).toArray[n + 1]! = x := arr_get' _ _ _ _ (by rw [List.length_append, hA']; rfl)
    have eq : A' ++ [y] ++ x :: B = A' ++ y :: (x :: B) := by simp
    have e2 : (A' ++ [y] ++ x :: B).toArray[n]! = y := by rw [eq]; exact arr_get' _ _ _ _ hA'.symm
    unfold Go.Sort.insInner
    rw [e1, e2, ltOf_cmp x y hx hyy, insE_snoc]
    have hd : decide (n + 1 > 0) = true := decide_eq_true (by omega)
    by_cases h : ahead x y = true
    · rw [if_pos h, if_pos (by rw [h]; simp)]
      have hsw : Go.Sort.swp (A' ++ [y] ++ x :: B).toArray (n + 1) n = (A' ++ x :: (y :: B)).toArray := by
        unfold Go.Sort.swp
        rw [e1, e2]
        apply Array.ext_getElem?
        intro j
        rw [Array.getElem?_setIfInBounds, Array.getElem?_setIfInBounds, Array.size_setIfInBounds, List.getElem?_toArray, List.getElem?_toArray, List.size_toArray]
        have hlen : (A' ++ [y] ++ x :: B).length = n + 1 + 1 + B.length := by simp [hA']; omega
        by_cases h1 : n = j
        · subst h1
          rw [if_pos rfl, if_pos (by omega), List.getElem?_append_right (by omega), hA', Nat.sub_self]
          rfl
        · rw [if_neg h1]
          by_cases h2 : n + 1 = j
          · subst h2
            rw [if_pos rfl, if_pos (by omega), List.getElem?_append_right (by omega), hA', show n + 1 - n = 1 by omega]
            rfl
          · rw [if_neg h2, eq]
            by_cases h3 : j < n
            · rw [List.getElem?_append_left (by omega), List.getElem?_append_left (by omega)]
            · rw [List.getElem?_append_right (by omega), List.getElem?_append_right (by omega), hA']
              obtain ⟨m, hm⟩ : ∃ m, j - n = m + 2 := ⟨j - n - 2, by omega⟩
              rw [hm]
              rfl
      rw [hsw, ih A' (y :: B) hA' (fun z hz => hy z (by simp [hz]))]
      simp
    · rw [if_neg h, if_neg (by simp [h])]
      simp
theorem insR_mem (x : S41) : ∀ (l : List S41) (y : S41), y ∈ insR x l ↔ y = x ∨ y ∈ l
  | [], y => by simp [insR]
  | z :: l, y => by
    unfold insR
    split
    · rw [List.mem_cons, insR_mem x l y, List.mem_cons]
      constructor
      · rintro (h | h | h)
        · exact .inr (.inl h)
        · exact .inl h
        · exact .inr (.inr h)
      · rintro (h | h | h)
        · exact .inr (.inl h)
        · exact .inl h
        · exact .inr (.inr h)
    · simp
theorem insE_mem (x : S41) (l : List S41) (y : S41) : y ∈ insE x l ↔ y = x ∨ y ∈ l := by
  unfold insE
  rw [List.mem_reverse, insR_mem, List.mem_reverse]
theorem insOuter_ok (N : Nat) : ∀ (rest S : List S41) (i : Nat), S.length = i → i + rest.length = N → (∀ y ∈ S, amB y = true) → (∀ y ∈ rest, amB y = true) → Go.Sort.insOuter (ltOf cmpP) 0 N i (S ++ rest).toArray = (rest.foldl (fun s x => insE x s) S).toArray := by
  intro rest
  induction rest with
  | nil =>
    intro S i hS hi _ _
    unfold Go.Sort.insOuter
    rw [if_neg (by simp at hi; omega)]
    simp
  | cons x rest ih =>
    intro S i hS hi h1 h2
    rw [List.length_cons] at hi
    unfold Go.Sort.insOuter
    rw [if_pos (by omega), insInner_ok x (h2 x (by simp)) i S rest hS h1, List.foldl_cons]
    exact ih (insE x S) (i + 1) (by rw [insE_length, hS]) (by omega) (fun y hy => by
      rcases (insE_mem x S y).1 hy with e | e
      · rw [e]; exact h2 x (by simp)
      · exact h1 y e) (fun y hy => h2 y (by simp [hy]))
theorem sortP_ok (l : List S41) (h : ∀ y ∈ l, amB y = true) : sortP l = sortL l := by
  unfold sortP sortL Go.Sort.insertionSort
  cases l with
  | nil =>
    unfold Go.Sort.insOuter
    rw [if_neg (by simp)]
    rfl
  | cons x l =>
    have := insOuter_ok (x :: l).length l [x] 1 rfl (by rw [List.length_cons]; omega) (fun y hy => h y (by simp at hy; simp [hy])) (fun y hy => h y (by simp [hy]))
    rw [Nat.zero_add]
    have e : (x :: l) = [x] ++ l := rfl
    rw [← e] at this
    rw [this, List.foldl_cons, insE_nil]
set_option maxRecDepth 100000 in
theorem len_small (n k : Nat) (hn : n ≤ 12) (hk : 0 < k) : ∃ v, bits_Len.f k (n : Int) = some v := by
  obtain ⟨k, rfl⟩ : ∃ m, k = m + 1 := ⟨k - 1, by omega⟩
  unfold bits_Len.f bits_Len64.f
  rw [if_neg (by omega)]
  rw [bits_Len64.j0]
  rw [if_neg (by omega), if_neg (by omega), if_pos (by omega), if_pos (by omega)]
  exact ⟨_, rfl⟩
/-- What both give back. -/
def sorted (l : List S41) : List S41 := if partsOk l = true then sortL l else []
theorem ok_len {l : List S41} (h : partsOk l = true) : 1 ≤ l.length ∧ l.length ≤ 12 ∧ ∀ y ∈ l, amB y = true := by
  unfold partsOk namesB at h
  simp only [Bool.and_eq_true, List.length_map, decide_eq_true_eq, List.all_eq_true] at h
  exact ⟨by omega, by omega, h.2⟩
theorem sorted_impl (l : List S41) (hl : l.length ≤ 1000000000) (B : Nat) (hB : ∀ x ∈ l, x.f0.size ≤ B) (hB2 : B ≤ 1000000000) (k : Nat) (hk : l.length + (l.length + B) + 20 < k) : impl_SortedParts.f k l = some (sorted l) := by
  unfold impl_SortedParts.f sorted
  rw [parts_impl l hl B hB hB2 k (by omega)]
  simp only [Option.bind_some]
  by_cases h : partsOk l = true
  · obtain ⟨h1, h2, h3⟩ := ok_len h
    rw [if_pos h, if_pos h]
    obtain ⟨v, hv⟩ := len_small l.length k h2 (by omega)
    unfold impl_Part_33.f
    rw [if_pos (by omega), if_pos (by omega)]
    simp only [Option.bind_some]
    unfold impl_Part_34.f
    rw [hv]
    simp only [Option.bind_some]
    rw [if_pos (by omega), if_pos h2]
    simp only [Option.bind_some]
    rw [sortP_ok l h3]
  · rw [if_neg h, if_neg h]
/-! ### the reference's sort -/
theorem set_mid (A B : List S41) (c x : S41) (n : Nat) (h : n = A.length) : (A ++ c :: B).set n x = A ++ x :: B := by
  subst h
  rw [List.set_append_right _ _ (Nat.le_refl _), Nat.sub_self]
  rfl
theorem get_mid (A B : List S41) (c : S41) (n : Nat) (h : n = A.length) : rd_T41 (A ++ c :: B) (n : Int) = c := by
  subst h
  simp [rd_T41]
theorem spec_ins (l : List S41) (hl : l.length ≤ 1000000000) (i : Nat) (hi : i < l.length) (x : S41) (hx : l[i] = x) : ∀ (n : Nat) (k : Nat) (A B : List S41) (c : S41), A.length = n → n + B.length ≤ 1000000000 → n < k → ∃ k', k - n - 1 ≤ k' ∧ spec_SortedParts.l1 k l (A ++ c :: B) i n = spec_SortedParts.l0 k' l (insE x A ++ B) ((i + 1 : Nat) : Int) := by
  have hw : wrap64 ((i : Int) + 1) = ((i + 1 : Nat) : Int) := by rw [w64 (by omega) (by omega)]; omega
  have er : rd_T41 l (i : Int) = x := by rw [← hx]; simp [rd_T41, List.getD_eq_getElem?_getD, hi]
  have eta : (⟨x.f0, x.f1⟩ : S41) = x := rfl
  intro n
  induction n with
  | zero =>
    intro k A B c hA hb hk
    have : A = [] := List.length_eq_zero_iff.1 hA
    subst this
    obtain ⟨k, rfl⟩ : ∃ m, k = m + 1 := ⟨k - 1, by omega⟩
    refine ⟨k, by omega, ?_⟩
    rw [spec_SortedParts.l1, if_neg (by omega), if_pos (by omega), if_pos (by omega), if_pos (by omega), if_pos (by simp), hw, er]
    rfl
  | succ n ih =>
    intro k A B c hA hb hk
    obtain ⟨k, rfl⟩ : ∃ m, k = m + 1 := ⟨k - 1, by omega⟩
    have hne : A ≠ [] := fun h => by rw [h] at hA; cases hA
    obtain ⟨A', y, rfl⟩ : ∃ A' y, A = A' ++ [y] := ⟨A.dropLast, A.getLast hne, (List.dropLast_concat_getLast hne).symm⟩
    have hA' : A'.length = n := by rw [List.length_append] at hA; simpa using hA
    have hlen : (A' ++ [y] ++ c :: B).length = n + 1 + 1 + B.length := by simp [hA']; omega
    have eq : A' ++ [y] ++ c :: B = A' ++ y :: (c :: B) := by simp
    have w1 : wrap64 (((n + 1 : Nat) : Int) - 1) = (n : Int) := by rw [w64 (by omega) (by omega)]; omega
    have ey : rd_T41 (A' ++ [y] ++ c :: B) (n : Int) = y := by rw [eq]; exact get_mid _ _ _ _ hA'.symm
    have etay : (⟨y.f0, y.f1⟩ : S41) = y := rfl
    have s1 : (A' ++ [y] ++ c :: B).set (n + 1) y = A' ++ y :: (y :: B) := by
      rw [set_mid (A' ++ [y]) B c y (n + 1) (by rw [List.length_append, hA']; rfl)]
      simp
    have s2 : (A' ++ [y] ++ c :: B).set (n + 1) x = A' ++ [y] ++ x :: B := set_mid (A' ++ [y]) B c x (n + 1) (by rw [List.length_append, hA']; rfl)
    rw [spec_SortedParts.l1, if_pos (by omega), w1, if_pos (by omega), if_pos (by omega), if_pos (by omega), if_pos (by omega), ey, er, eta, etay, Int.toNat_natCast, s1, s2, hw, insE_snoc]
    obtain ⟨k', hk', hih⟩ := ih k A' (y :: B) y hA' (by rw [List.length_cons]; omega) (by omega)
    by_cases h1 : y.f1 < x.f1
    · have ha : ahead x y = true := by unfold ahead; rw [decide_eq_true h1]; rfl
      rw [if_pos h1, if_pos (by omega), if_pos (by omega), if_pos ha]
      refine ⟨k', by omega, ?_⟩
      rw [hih]
      simp
    · rw [if_neg h1]
      by_cases h2 : y.f1 = x.f1
      · rw [if_pos h2]
        by_cases h3 : Op.bytesLess x.f0.toList y.f0.toList = true
        · have ha : ahead x y = true := by unfold ahead; rw [decide_eq_true h2, h3]; simp
          rw [if_pos h3, if_pos (by omega), if_pos (by omega), if_pos ha]
          refine ⟨k', by omega, ?_⟩
          rw [hih]
          simp
        · have ha : ¬ ahead x y = true := by unfold ahead; rw [decide_eq_false h1]; simp [h3]
          rw [if_neg h3, if_pos (by omega), if_pos (by omega), if_neg ha]
          exact ⟨k, by omega, by simp⟩
      · have ha : ¬ ahead x y = true := by unfold ahead; rw [decide_eq_false h1, decide_eq_false h2]; simp
        rw [if_neg h2, if_pos (by omega), if_pos (by omega), if_neg ha]
        exact ⟨k, by omega, by simp⟩
theorem sorted_spec (l : List S41) (hl : l.length ≤ 1000000000) (B : Nat) (hB : ∀ x ∈ l, x.f0.size ≤ B) (hB2 : B ≤ 1000000000) (k : Nat) (hk : (l.length + 1) * (l.length + 4) + B + 2000 < k) : spec_SortedParts.f k l = some (sorted l) := by
  unfold spec_SortedParts.f sorted
  by_cases h : partsOk l = true
  · obtain ⟨h1, h2, h3⟩ := ok_len h
    rw [if_pos h]
    have hmul : (l.length + 1) * (l.length + 4) ≤ 13 * 16 := Nat.mul_le_mul (by omega) (by omega)
    have key : ∀ (d k i : Nat) (S : List S41), i + d = l.length → 16 * d + 13 * 16 + B + 5 < k → S.length = i → spec_SortedParts.l0 k l S i = some ((l.drop i).foldl (fun s x => insE x s) S) := by
      intro d
      induction d with
      | zero =>
        intro k i S hi hk hS
        obtain ⟨k, rfl⟩ : ∃ m, k = m + 1 + 1 := ⟨k - 2, by omega⟩
        have e : l.drop i = [] := List.drop_eq_nil_iff.2 (by omega)
        rw [spec_SortedParts.l0, if_neg (by omega), spec_SortedParts.j1, if_neg (by simp), e]
        rfl
      | succ d ih =>
        intro k i S hi hk hS
        obtain ⟨k, rfl⟩ : ∃ m, k = m + 1 + 1 := ⟨k - 2, by omega⟩
        have hil : i < l.length := by omega
        have er : rd_T41 l (i : Int) = l[i] := by simp [rd_T41, List.getD_eq_getElem?_getD, hil]
        rw [spec_SortedParts.l0, if_pos (by omega), parts_spec l hl B hB hB2 (k + 1) (by omega)]
        simp only [Option.bind_some]
        rw [h, spec_SortedParts.j1, if_pos rfl, if_pos (by omega), if_pos (by omega), if_pos (by omega), er, hS]
        obtain ⟨k', hk', hi2⟩ := spec_ins l hl i hil l[i] rfl i k S [] (⟨l[i].f0, l[i].f1⟩ : S41) hS (by simp; omega) (by omega)
        rw [hi2, List.append_nil, List.drop_eq_getElem_cons hil, List.foldl_cons]
        exact ih k' (i + 1) _ (by omega) (by omega) (by rw [insE_length, hS])
    have := key l.length k 0 [] (by omega) (by omega) rfl
    exact this
  · rw [if_neg h]
    obtain ⟨k, rfl⟩ : ∃ m, k = m + 1 + 1 := ⟨k - 2, by omega⟩
    rw [spec_SortedParts.l0]
    by_cases h0 : l.length = 0
    · rw [if_neg (by omega), spec_SortedParts.j1, if_neg (by simp)]
    · rw [if_pos (by omega), parts_spec l hl B hB hB2 (k + 1) (by omega)]
      simp only [Option.bind_some]
      rw [Bool.eq_false_iff.2 h, spec_SortedParts.j1, if_neg (by simp)]
theorem sortL_length : ∀ (l S : List S41), (l.foldl (fun s x => insE x s) S).length = S.length + l.length
  | [], S => by simp
  | x :: l, S => by rw [List.foldl_cons, sortL_length l, insE_length, List.length_cons]; omega
theorem sorted_length (l : List S41) : (sorted l).length ≤ 12 := by
  unfold sorted
  split
  · rename_i h
    have := ok_len h
    unfold sortL
    rw [sortL_length]
    simpa using this.2.1
  · simp

end Go.Proofs.Ytjabgjlkemfofaa.Lem
