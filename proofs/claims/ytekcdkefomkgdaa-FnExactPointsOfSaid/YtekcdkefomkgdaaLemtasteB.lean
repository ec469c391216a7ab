/- Plain lemmas on the printed functions: what they compute; conditions stand in each lemma. -/
import Derived.Test.YtekcdkefomkgdaaQx2
import Derived.Test.YtekcdkefomkgdaaQx5
import Derived.Test.YtekcdkefomkgdaaQx6
import Derived.Test.YtekcdkefomkgdaaQx8
import Derived.Test.YtekcdkefomkgdaaLembase
import Derived.Test.YtekcdkefomkgdaaLemin
import Derived.Test.YtekcdkefomkgdaaLemints
import Derived.Test.YtekcdkefomkgdaaLemssI
import Derived.Test.YtekcdkefomkgdaaLemtasteA
namespace Go.Proofs.Ytekcdkefomkgdaa.Lem
open Go.RowKit Go.Proofs.Ytekcdkefomkgdaa.Q Go.Proofs.YtekcdkefomkgdaaW.PrintWords Go.Proofs.YtekcdkefomkgdaaW.PrintLast Go.Proofs.YtekcdkefomkgdaaW.PrintMore Go.Proofs.Ytekcdkefomkgdaa.Lem
set_option linter.unusedVariables false
set_option linter.unusedSimpArgs false
theorem or_eq {m x : Nat} (hm : m < 64) (hx : x < 6) : Go.bits .or .i64 (m : Int) (shl .i64 1 (x : Int)) = ((orN m x : Nat) : Int) := or_tab ⟨m, hm⟩ ⟨x, hx⟩
theorem pc_or {m x : Nat} (hm : m < 64) (hx : x < 6) : pcN (orN m x) = if m / 2 ^ x % 2 = 1 then pcN m else pcN m + 1 := pc_tab ⟨m, hm⟩ ⟨x, hx⟩
theorem bit_or {m x y : Nat} (hm : m < 64) (hx : x < 6) (hy : y < 6) : orN m x / 2 ^ y % 2 = 1 ↔ (x = y ∨ m / 2 ^ y % 2 = 1) := by
  have := bit_tab ⟨m, hm⟩ ⟨x, hx⟩ ⟨y, hy⟩
  simpa using this
theorem or_lt {n m x : Nat} (hn : n < 7) (hm : m < 64) (hx : x < 6) (h1 : x < n) (h2 : m < 2 ^ n) : orN m x < 2 ^ n := lt_tab ⟨n, hn⟩ ⟨m, hm⟩ ⟨x, hx⟩ h1 h2
theorem pow_le64 {n : Nat} (hn : n < 7) : 2 ^ n ≤ 64 := by
  have : (2 : Nat) ^ n ≤ 2 ^ 6 := Nat.pow_le_pow_right (by omega) (by omega)
  simpa using this
theorem pc_full {n m : Nat} (hn : n < 7) (h : m < 2 ^ n) : pcN m = n ↔ m = 2 ^ n - 1 := pcfull_tab ⟨n, hn⟩ ⟨m, by have := pow_le64 hn; omega⟩ h
theorem full_bit {n x : Nat} (hn : n < 7) (hx : x < n) : (2 ^ n - 1) / 2 ^ x % 2 = 1 := fullbit_tab ⟨n, hn⟩ ⟨x, by omega⟩ hx
/-- The reference's check of a vote's rest, with the set so far. -/
def specW (n : Nat) : Nat → List Int → Bool
  | m, [] => decide (m = 2 ^ n - 1)
  | m, x :: xs => decide (0 ≤ x ∧ x ≤ (n : Int) - 1) && specW n (orN m x.toNat) xs
/-- The program's check of a vote's rest, with the elements so far. -/
def implW (n : Nat) : List Int → List Int → Bool
  | _, [] => true
  | pre, x :: xs => decide (0 ≤ x ∧ x ≤ (n : Int) - 1) && !decide (x ∈ pre) && implW n (pre ++ [x]) xs
theorem specW_small {n : Nat} (hn : n < 7) : ∀ (L : List Int) (m : Nat), m < 2 ^ n → pcN m + L.length < n → specW n m L = false := by
  intro L
  induction L with
  | nil =>
    intro m hm h
    unfold specW
    rw [decide_eq_false]
    intro e
    have := (pc_full hn hm).2 e
    simp at h
    omega
  | cons x L ih =>
    intro m hm h
    unfold specW
    by_cases c : 0 ≤ x ∧ x ≤ (n : Int) - 1
    · rw [decide_eq_true c, Bool.true_and]
      have h64 := pow_le64 hn
      have hx : x.toNat < 6 := by omega
      have hp := pc_or (m := m) (x := x.toNat) (by omega) hx
      refine ih _ (or_lt hn (by omega) hx (by omega) hm) ?_
      rw [hp]
      rw [List.length_cons] at h
      split <;> omega
    · rw [decide_eq_false c]
      rfl
theorem same_W {n : Nat} (hn : n < 7) : ∀ (L pre : List Int) (m : Nat), m < 2 ^ n → pcN m + L.length = n → (∀ y : Nat, y < n → (m / 2 ^ y % 2 = 1 ↔ (y : Int) ∈ pre)) → specW n m L = implW n pre L := by
  intro L
  induction L with
  | nil =>
    intro pre m hm h hb
    unfold specW implW
    rw [decide_eq_true]
    exact (pc_full hn hm).1 (by simpa using h)
  | cons x L ih =>
    intro pre m hm h hb
    unfold specW implW
    by_cases c : 0 ≤ x ∧ x ≤ (n : Int) - 1
    · rw [decide_eq_true c, Bool.true_and, Bool.true_and]
      have h64 := pow_le64 hn
      have hx : x.toNat < 6 := by omega
      have hxx : ((x.toNat : Nat) : Int) = x := by omega
      have hp := pc_or (m := m) (x := x.toNat) (by omega) hx
      have hlt := or_lt (m := m) (x := x.toNat) hn (by omega) hx (by omega) hm
      have hbx := hb x.toNat (by omega)
      rw [hxx] at hbx
      rw [List.length_cons] at h
      by_cases c2 : x ∈ pre
      · rw [decide_eq_true c2]
        simp only [Bool.not_true, Bool.false_and]
        refine specW_small hn L _ hlt ?_
        rw [hp, if_pos (hbx.2 c2)]
        omega
      · rw [decide_eq_false c2]
        simp only [Bool.not_false, Bool.true_and]
        refine ih _ _ hlt ?_ (fun y hy => ?_)
        · rw [hp, if_neg (fun hh => c2 (hbx.1 hh))]
          omega
        · rw [bit_or (by omega) hx (by omega), hb y hy, List.mem_append, List.mem_singleton]
          constructor
          · rintro (e | e)
            · right
              omega
            · exact .inl e
          · rintro (e | e)
            · exact .inr e
            · left
              omega
    · rw [decide_eq_false c]
      simp
theorem specW_mem {n : Nat} (hn : n < 7) : ∀ (L : List Int) (m : Nat), m < 2 ^ n → specW n m L = true → (∀ x ∈ L, 0 ≤ x ∧ x ≤ (n : Int) - 1) ∧ ∀ y : Nat, y < n → m / 2 ^ y % 2 = 1 ∨ (y : Int) ∈ L := by
  intro L
  induction L with
  | nil =>
    intro m hm h
    unfold specW at h
    have e := of_decide_eq_true h
    exact ⟨fun x hx => by simp at hx, fun y hy => .inl (by rw [e]; exact full_bit hn hy)⟩
  | cons x L ih =>
    intro m hm h
    unfold specW at h
    rw [Bool.and_eq_true] at h
    have c := of_decide_eq_true h.1
    have h64 := pow_le64 hn
    have hx : x.toNat < 6 := by omega
    obtain ⟨h1, h2⟩ := ih _ (or_lt hn (by omega) hx (by omega) hm) h.2
    refine ⟨fun z hz => ?_, fun y hy => ?_⟩
    · rcases List.mem_cons.1 hz with e | e
      · subst e; exact c
      · exact h1 z e
    · rcases h2 y hy with e | e
      · rw [bit_or (by omega) hx (by omega)] at e
        rcases e with e | e
        · right
          rw [List.mem_cons]
          left
          omega
        · exact .inl e
      · exact .inr (List.mem_cons_of_mem _ e)
/-- A vote of the n breads. -/
def voteOk (n : Nat) (v : List Int) : Bool := decide (v.length = n) && specW n 0 v
theorem index_ok (l : List Int) (a : Int) (k : Nat) (hl : l.length ≤ 9223372036854775807) (hk : l.length < k) : slices_Index_int_int.f k l a = some (if a ∈ l then (l.idxOf a : Int) else -1) := by
  unfold slices_Index_int_int.f
  have key : ∀ (d k i : Nat), i + d = l.length → d < k → slices_Index_int_int.l0 k l a l.length i = some (if a ∈ l.drop i then (i : Int) + ((l.drop i).idxOf a : Nat) else -1) := by
    intro d
    induction d with
    | zero =>
      intro k i hi hk
      obtain ⟨k, rfl⟩ : ∃ m, k = m + 1 := ⟨k - 1, by omega⟩
      have : i = l.length := by omega
      subst this
      rw [slices_Index_int_int.l0, if_neg (by omega)]
      simp
    | succ d ih =>
      intro k i hi hk
      obtain ⟨k, rfl⟩ : ∃ m, k = m + 1 := ⟨k - 1, by omega⟩
      have hil : i < l.length := by omega
      rw [slices_Index_int_int.l0, if_pos (by omega), if_pos (by omega), if_pos (by omega), rd_nat, List.drop_eq_getElem_cons hil]
      have e : l.getD i 0 = l[i] := by simp [List.getD_eq_getElem?_getD, hil]
      rw [e]
      by_cases c : a = l[i]
      · rw [if_pos c, ← c, if_pos List.mem_cons_self, List.idxOf_cons_self]
        simp
      · rw [if_neg c, w64 (n := (i : Int) + 1) (by omega) (by omega)]
        have e2 : (i : Int) + 1 = ((i + 1 : Nat) : Int) := by omega
        rw [e2, ih k (i + 1) (by omega) (by omega)]
        by_cases c2 : a ∈ l.drop (i + 1)
        · have hne : (l[i] == a) = false := beq_eq_false_iff_ne.2 (fun h => c h.symm)
          rw [if_pos c2, if_pos (List.mem_cons_of_mem _ c2), List.idxOf_cons, hne]
          simp only [cond_false]
          congr 1
          omega
        · rw [if_neg c2, if_neg]
          intro h
          rcases List.mem_cons.1 h with h | h
          · exact c h
          · exact c2 h
  have := key l.length k 0 (by omega) hk
  simpa using this
theorem contains_ok (l : List Int) (a : Int) (k : Nat) (hl : l.length ≤ 9223372036854775807) (hk : l.length < k) : slices_Contains_int_int.f k l a = some (decide (a ∈ l)) := by
  unfold slices_Contains_int_int.f
  rw [index_ok l a k hl hk]
  simp only [Option.bind_some]
  by_cases c : a ∈ l
  · rw [if_pos c, decide_eq_true c, decide_eq_true (by omega)]
  · rw [if_neg c, decide_eq_false c, decide_eq_false (by omega)]
theorem order_ok (v : List Int) (n : Nat) (hn : 1 ≤ n ∧ n < 7) (k : Nat) (hv : v.length ≤ 1000000000) (hk : 2 * v.length + 2 < k) : impl_isOrder.f k v n = some (voteOk n v) := by
  unfold impl_isOrder.f
  have key : ∀ (d k i : Nat), i + d = v.length → d + v.length + 1 < k → impl_isOrder.l0 k v n v v.length i = some (implW n (v.take i) (v.drop i) && decide (v.length = n)) := by
    intro d
    induction d with
    | zero =>
      intro k i hi hk
      obtain ⟨k, rfl⟩ : ∃ m, k = m + 1 := ⟨k - 1, by omega⟩
      have : i = v.length := by omega
      subst this
      rw [impl_isOrder.l0, if_neg (by omega), List.drop_length]
      unfold implW
      rw [Bool.true_and]
      congr 1
      rw [Bool.eq_iff_iff, beq_iff_eq, decide_eq_true_iff]
      omega
    | succ d ih =>
      intro k i hi hk
      obtain ⟨k, rfl⟩ : ∃ m, k = m + 1 := ⟨k - 1, by omega⟩
      have hil : i < v.length := by omega
      have e : v.getD i 0 = v[i] := by simp [List.getD_eq_getElem?_getD, hil]
      have hw : wrap64 ((n : Int) - 1) = (n : Int) - 1 := w64 (by omega) (by omega)
      rw [impl_isOrder.l0, if_pos (by omega), if_pos (by omega), if_pos (by omega), rd_nat, e, hw, in_impl, List.drop_eq_getElem_cons hil]
      simp only [Option.bind_some]
      conv => rhs; unfold implW
      by_cases c : 0 ≤ v[i] ∧ v[i] ≤ (n : Int) - 1
      · rw [decide_eq_true c, if_pos rfl, if_pos (by omega), Int.toNat_natCast, contains_ok _ _ k (by simp; omega) (by simp; omega)]
        simp only [Option.bind_some, Bool.true_and]
        by_cases c2 : v[i] ∈ v.take i
        · rw [decide_eq_true c2, if_pos rfl]
          simp
        · rw [decide_eq_false c2, if_neg (by simp), w64 (n := (i : Int) + 1) (by omega) (by omega)]
          have e2 : (i : Int) + 1 = ((i + 1 : Nat) : Int) := by omega
          rw [e2, ih k (i + 1) (by omega) (by omega), List.take_succ_eq_append_getElem hil]
          simp
      · rw [decide_eq_false c, if_neg (by simp)]
        simp
  have e0 := key v.length k 0 (by omega) (by omega)
  have e1 : ((0 : Nat) : Int) = 0 := rfl
  rw [e1] at e0
  rw [e0]
  congr 1
  unfold voteOk
  by_cases c : v.length = n
  · rw [decide_eq_true c, Bool.and_true, Bool.true_and]
    have := same_W (n := n) (by omega) v [] 0 (Nat.pos_of_ne_zero (by simp)) (by rw [← c]; simp [pcN]) (fun y hy => by simp)
    rw [this]
    simp
  · rw [decide_eq_false c]
    simp
/-- The reference's check of one vote. -/
theorem vote_spec (l : List (List Int)) (n i : Nat) (hn : 1 ≤ n ∧ n < 7) (hi : i < l.length) (hl : l.length ≤ 1000000000) (hv : (l.getD i []).length ≤ 1000000000) : ∀ (d k j m : Nat), j + d = (l.getD i []).length → m < 2 ^ n → spec_VotesOk.l1 (k + 1 + d) l n i m j = if (decide ((l.getD i []).length = n) && specW n m ((l.getD i []).drop j)) = true then spec_VotesOk.l0 k l n ((i + 1 : Nat) : Int) else some false := by
  have h64 := pow_le64 (n := n) (by omega)
  intro d
  induction d with
  | zero =>
    intro k j m hj hm
    have : j = (l.getD i []).length := by omega
    subst this
    rw [Nat.add_zero, spec_VotesOk.l1, if_pos (by omega), if_pos (by omega), rdL1, if_neg (by omega), List.drop_length]
    unfold specW
    by_cases c : (l.getD i []).length = n
    · rw [if_pos (by omega), if_pos (by omega), decide_eq_true c, Bool.true_and]
      have e := full_tab ⟨n, by omega⟩
      have e' : wrap64 (shl .i64 1 (n : Int) - 1) = ((2 ^ n - 1 : Nat) : Int) := e
      rw [e']
      by_cases c2 : m = 2 ^ n - 1
      · rw [if_pos (by rw [c2]), decide_eq_true c2, if_pos rfl, w64 (n := (i : Int) + 1) (by omega) (by omega)]
        rfl
      · rw [if_neg (fun h => c2 (by exact_mod_cast h)), decide_eq_false c2, if_neg (by simp)]
    · rw [if_neg (by omega), decide_eq_false c, if_neg (by simp)]
  | succ d ih =>
    intro k j m hj hm
    have hjl : j < (l.getD i []).length := by omega
    have e : (l.getD i []).getD j 0 = (l.getD i [])[j] := by
      rw [List.getD_eq_getElem?_getD, List.getElem?_eq_getElem hjl, Option.getD_some]
    have hw : wrap64 ((n : Int) - 1) = (n : Int) - 1 := w64 (by omega) (by omega)
    have ek : k + 1 + (d + 1) = (k + 1 + d) + 1 := by omega
    rw [ek, spec_VotesOk.l1, if_pos (by omega), if_pos (by omega), rdL1, if_pos (by omega), if_pos (by omega), rd_nat, e, hw, in_spec, List.drop_eq_getElem_cons hjl]
    simp only [Option.bind_some]
    conv => rhs; rw [specW]
    generalize (l.getD i [])[j] = x
    by_cases c : 0 ≤ x ∧ x ≤ (n : Int) - 1
    · have hx : x.toNat < 6 := by omega
      have hxx : ((x.toNat : Nat) : Int) = x := by omega
      have ho := or_eq (m := m) (x := x.toNat) (by omega) hx
      rw [hxx] at ho
      rw [decide_eq_true c, if_pos rfl, if_pos c.1, ho, w64 (n := (j : Int) + 1) (by omega) (by omega)]
      have e2 : (j : Int) + 1 = ((j + 1 : Nat) : Int) := by omega
      rw [e2, ih k (j + 1) _ (by omega) (or_lt (by omega) (by omega) hx (by omega) hm), Bool.true_and]
    · rw [decide_eq_false c, if_neg (by simp), if_neg (by simp)]
def votesOk (l : List (List Int)) (n : Int) : Bool := decide ((1 ≤ n ∧ n ≤ 6) ∧ 1 ≤ l.length ∧ l.length ≤ 15) && l.all (voteOk n.toNat)
theorem votesOk_iff {l : List (List Int)} {n : Int} : votesOk l n = true ↔ ((1 ≤ n ∧ n ≤ 6) ∧ 1 ≤ l.length ∧ l.length ≤ 15) ∧ ∀ v ∈ l, voteOk n.toNat v = true := by simp [votesOk, List.all_eq_true]
theorem votes_spec (l : List (List Int)) (n : Int) (B k : Nat) (hl : l.length ≤ 1000000000) (hv : ∀ v ∈ l, v.length ≤ B) (hB : B ≤ 1000000000) (hk : 15 * (B + 3) + 10 < k) : spec_VotesOk.f k l n = some (votesOk l n) := by
  obtain ⟨k, rfl⟩ : ∃ m, k = m + 1 := ⟨k - 1, by omega⟩
  unfold spec_VotesOk.f
  simp only [in_spec, Option.bind_some]
  unfold votesOk
  by_cases h1 : 1 ≤ n ∧ n ≤ 6
  · rw [decide_eq_true h1, if_pos rfl, spec_VotesOk.j0]
    by_cases h2 : (1 : Int) ≤ l.length ∧ (l.length : Int) ≤ 15
    · rw [decide_eq_true h2]
      have h3 : (1 ≤ n ∧ n ≤ 6) ∧ 1 ≤ l.length ∧ l.length ≤ 15 := ⟨h1, by omega, by omega⟩
      rw [decide_eq_true h3, Bool.true_and]
      simp only [Bool.not_true, Bool.false_eq_true, if_false]
      obtain ⟨N, rfl⟩ : ∃ N : Nat, n = N := ⟨n.toNat, by omega⟩
      rw [Int.toNat_natCast]
      have key : ∀ (d k i : Nat), i + d = l.length → d * (B + 3) + 1 < k → spec_VotesOk.l0 k l N i = some ((l.drop i).all (voteOk N)) := by
        intro d
        induction d with
        | zero =>
          intro k i hi hk
          obtain ⟨k, rfl⟩ : ∃ m, k = m + 1 := ⟨k - 1, by omega⟩
          have : i = l.length := by omega
          subst this
          rw [spec_VotesOk.l0, if_neg (by omega)]
          simp
        | succ d ih =>
          intro k i hi hk
          have hmul : (d + 1) * (B + 3) = d * (B + 3) + (B + 3) := Nat.succ_mul _ _
          have hil : i < l.length := by omega
          have e : l.getD i [] = l[i] := by simp [List.getD_eq_getElem?_getD, hil]
          have hvi := hv l[i] (List.getElem_mem hil)
          obtain ⟨k, rfl⟩ : ∃ m, k = m + 1 + l[i].length + 1 := ⟨k - l[i].length - 2, by omega⟩
          rw [spec_VotesOk.l0, if_pos (by omega)]
          have S := vote_spec l N i (by omega) hil (by omega) (by rw [e]; omega) (l.getD i []).length k 0 0 (by omega) (Nat.pos_of_ne_zero (by simp))
          rw [e] at S
          have e0 : ((0 : Nat) : Int) = 0 := rfl
          rw [e0] at S
          rw [S, List.drop_eq_getElem_cons hil, List.all_cons]
          have ev : (decide (l[i].length = N) && specW N 0 (l[i].drop 0)) = voteOk N l[i] := by
            rw [List.drop_zero]
            rfl
          rw [ev]
          by_cases c : voteOk N l[i] = true
          · rw [if_pos c, ih k (i + 1) (by omega) (by omega), c, Bool.true_and]
          · rw [if_neg c, Bool.eq_false_iff.2 c, Bool.false_and]
      have hb : l.length * (B + 3) ≤ 15 * (B + 3) := Nat.mul_le_mul_right _ (by omega)
      have := key l.length k 0 (by omega) (by omega)
      simpa using this
    · rw [decide_eq_false h2]
      have h3 : ¬ ((1 ≤ n ∧ n ≤ 6) ∧ 1 ≤ l.length ∧ l.length ≤ 15) := fun h => h2 (by omega)
      rw [decide_eq_false h3]
      simp
  · rw [decide_eq_false h1, if_neg (by simp), spec_VotesOk.j0]
    have h3 : ¬ ((1 ≤ n ∧ n ≤ 6) ∧ 1 ≤ l.length ∧ l.length ≤ 15) := fun h => h1 h.1
    rw [decide_eq_false h3]
    simp
theorem votes_impl (l : List (List Int)) (n : Int) (B k : Nat) (hl : l.length ≤ 1000000000) (hv : ∀ v ∈ l, v.length ≤ B) (hB : B ≤ 1000000000) (hk : 2 * B + 10 < k) : impl_VotesOk.f k l n = some (votesOk l n) := by
  unfold impl_VotesOk.f
  simp only [in_impl, Option.bind_some]
  unfold votesOk
  by_cases h1 : 1 ≤ n ∧ n ≤ 6
  · rw [decide_eq_true h1, if_pos rfl]
    by_cases h2 : (1 : Int) ≤ l.length ∧ (l.length : Int) ≤ 15
    · rw [decide_eq_true h2, if_pos rfl]
      have h3 : (1 ≤ n ∧ n ≤ 6) ∧ 1 ≤ l.length ∧ l.length ≤ 15 := ⟨h1, by omega, by omega⟩
      rw [decide_eq_true h3, Bool.true_and]
      obtain ⟨N, rfl⟩ : ∃ N : Nat, n = N := ⟨n.toNat, by omega⟩
      rw [Int.toNat_natCast]
      have ho : ∀ v ∈ l, impl_isOrder.f k v N = some (voteOk N v) := fun v hv2 => by
        have := hv v hv2
        exact order_ok v N (by omega) k (by omega) (by omega)
      unfold impl_VotesOk.all
      have ha : l.all (fun v => (impl_isOrder.f k v N).isSome) = true := by
        rw [List.all_eq_true]
        intro v hv2
        rw [ho v hv2]
        rfl
      rw [if_pos ha]
      congr 1
      rw [Bool.eq_iff_iff, List.all_eq_true, List.all_eq_true]
      constructor
      · intro h v hv2
        have := of_decide_eq_true (h v hv2)
        rw [ho v hv2] at this
        exact Option.some.inj this
      · intro h v hv2
        rw [ho v hv2, h v hv2]
        simp
    · rw [decide_eq_false h2, if_neg (by simp)]
      have h3 : ¬ ((1 ≤ n ∧ n ≤ 6) ∧ 1 ≤ l.length ∧ l.length ≤ 15) := fun h => h2 (by omega)
      rw [decide_eq_false h3]
      simp
  · rw [decide_eq_false h1, if_neg (by simp)]
    have h3 : ¬ ((1 ≤ n ∧ n ≤ 6) ∧ 1 ≤ l.length ∧ l.length ≤ 15) := fun h => h1 h.1
    rw [decide_eq_false h3]
    simp

end Go.Proofs.Ytekcdkefomkgdaa.Lem
