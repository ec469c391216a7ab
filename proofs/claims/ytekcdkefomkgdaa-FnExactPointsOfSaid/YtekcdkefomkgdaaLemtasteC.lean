/- Plain lemmas on the printed functions: what they compute; conditions stand in each lemma. -/
import Derived.Test.YtekcdkefomkgdaaQx12
import Derived.Test.YtekcdkefomkgdaaQx13
import Derived.Test.YtekcdkefomkgdaaQx14
import Derived.Test.YtekcdkefomkgdaaLembase
import Derived.Test.YtekcdkefomkgdaaLemin
import Derived.Test.YtekcdkefomkgdaaLemints
import Derived.Test.YtekcdkefomkgdaaLemssI
import Derived.Test.YtekcdkefomkgdaaLemtasteA
import Derived.Test.YtekcdkefomkgdaaLemtasteB
namespace Go.Proofs.Ytekcdkefomkgdaa.Lem
open Go.RowKit Go.Proofs.Ytekcdkefomkgdaa.Q Go.Proofs.YtekcdkefomkgdaaW.PrintWords Go.Proofs.YtekcdkefomkgdaaW.PrintLast Go.Proofs.YtekcdkefomkgdaaW.PrintMore Go.Proofs.Ytekcdkefomkgdaa.Lem
set_option linter.unusedVariables false
set_option linter.unusedSimpArgs false
/-- Whether a comes ahead of b. -/
def firstA (a b : Int) : List Int → Bool
  | [] => false
  | x :: xs => if x = a then true else if x = b then false else firstA a b xs
theorem first_idx {a b : Int} (hab : a ≠ b) : ∀ (L : List Int), b ∈ L → firstA a b L = decide (L.idxOf a < L.idxOf b) := by
  intro L
  induction L with
  | nil => intro h; simp at h
  | cons x L ih =>
    intro h
    unfold firstA
    by_cases c1 : x = a
    · have h1 : (x == a) = true := by simp [c1]
      have h2 : (x == b) = false := beq_eq_false_iff_ne.2 (fun e => hab (c1.symm.trans e))
      rw [if_pos c1, List.idxOf_cons, List.idxOf_cons, h1, h2]
      simp
    · have h1 : (x == a) = false := beq_eq_false_iff_ne.2 c1
      by_cases c2 : x = b
      · have h2 : (x == b) = true := by simp [c2]
        rw [if_neg c1, if_pos c2, List.idxOf_cons, List.idxOf_cons, h1, h2]
        simp
      · have h2 : (x == b) = false := beq_eq_false_iff_ne.2 c2
        have hb : b ∈ L := by
          rcases List.mem_cons.1 h with e | e
          · exact absurd e.symm c2
          · exact e
        rw [if_neg c1, if_neg c2, List.idxOf_cons, List.idxOf_cons, h1, h2, ih hb]
        simp
theorem voteOk_mem {n : Nat} (hn : n < 7) {v : List Int} (h : voteOk n v = true) : v.length = n ∧ (∀ x ∈ v, 0 ≤ x ∧ x ≤ (n : Int) - 1) ∧ ∀ x : Int, 0 ≤ x → x < n → x ∈ v := by
  unfold voteOk at h
  rw [Bool.and_eq_true] at h
  obtain ⟨h1, h2⟩ := specW_mem hn v 0 (Nat.pos_of_ne_zero (by simp)) h.2
  refine ⟨of_decide_eq_true h.1, h1, fun x h0 hx => ?_⟩
  rcases h2 x.toNat (by omega) with e | e
  · simp at e
  · have : ((x.toNat : Nat) : Int) = x := by omega
    rw [this] at e
    exact e
def prefC (a b : Int) (l : List (List Int)) : Int := (l.countP (firstA a b) : Int)
theorem scan_spec (l : List (List Int)) (n i : Nat) (a b c : Int) (hi : i < l.length) (hl : l.length ≤ 100) (hlen : (l.getD i []).length = n) (hn : n < 7) (hc : 0 ≤ c ∧ c ≤ 1000) : ∀ (d k j : Nat), j + d = n → d + 1 < k → ∃ k', k - d - 1 ≤ k' ∧ spec_Prefers.l1 k l n a b c i j = spec_Prefers.l0 k' l n a b (c + if firstA a b ((l.getD i []).drop j) = true then 1 else 0) ((i + 1 : Nat) : Int) := by
  have hw : wrap64 ((i : Int) + 1) = ((i + 1 : Nat) : Int) := by rw [w64 (by omega) (by omega)]; omega
  intro d
  induction d with
  | zero =>
    intro k j hj hk
    obtain ⟨k, rfl⟩ : ∃ m, k = m + 1 := ⟨k - 1, by omega⟩
    refine ⟨k, by omega, ?_⟩
    have e : (l.getD i []).drop j = [] := List.drop_eq_nil_iff.2 (by omega)
    rw [spec_Prefers.l1, if_neg (by omega), hw, e]
    simp [firstA]
  | succ d ih =>
    intro k j hj hk
    obtain ⟨k, rfl⟩ : ∃ m, k = m + 1 := ⟨k - 1, by omega⟩
    have hjl : j < (l.getD i []).length := by omega
    have e : (l.getD i []).getD j 0 = (l.getD i [])[j] := by
      rw [List.getD_eq_getElem?_getD, List.getElem?_eq_getElem hjl, Option.getD_some]
    rw [spec_Prefers.l1, if_pos (by omega), if_pos (by omega), if_pos (by omega), if_pos (by omega), rdL1, if_pos (by omega), rd_nat, e, List.drop_eq_getElem_cons hjl, hw]
    unfold firstA
    by_cases c1 : (l.getD i [])[j] = a
    · refine ⟨k, by omega, ?_⟩
      rw [if_pos c1, if_pos c1, if_pos rfl, w64 (by omega) (by omega)]
    · rw [if_neg c1, if_neg c1]
      by_cases c2 : (l.getD i [])[j] = b
      · refine ⟨k, by omega, ?_⟩
        rw [if_pos c2, if_pos c2, if_neg (by simp)]
        simp
      · rw [if_neg c2, if_neg c2, w64 (n := (j : Int) + 1) (by omega) (by omega)]
        have e2 : (j : Int) + 1 = ((j + 1 : Nat) : Int) := by omega
        rw [e2]
        obtain ⟨k', hk', h⟩ := ih k (j + 1) (by omega) (by omega)
        exact ⟨k', by omega, h⟩
theorem prefs_spec (l : List (List Int)) (n : Nat) (a b : Int) (hl : l.length ≤ 15) (hn : n < 7) (hv : ∀ v ∈ l, v.length = n) : ∀ (d k i : Nat) (c : Int), i + d = l.length → d * 12 + 1 < k → 0 ≤ c ∧ c ≤ i → spec_Prefers.l0 k l n a b c i = some (c + prefC a b (l.drop i)) := by
  intro d
  induction d with
  | zero =>
    intro k i c hi hk hc
    obtain ⟨k, rfl⟩ : ∃ m, k = m + 1 := ⟨k - 1, by omega⟩
    have e : l.drop i = [] := List.drop_eq_nil_iff.2 (by omega)
    rw [spec_Prefers.l0, if_neg (by omega), e]
    simp [prefC]
  | succ d ih =>
    intro k i c hi hk hc
    obtain ⟨k, rfl⟩ : ∃ m, k = m + 1 := ⟨k - 1, by omega⟩
    have hil : i < l.length := by omega
    have e : l.getD i [] = l[i] := by simp [List.getD_eq_getElem?_getD, hil]
    rw [spec_Prefers.l0, if_pos (by omega)]
    obtain ⟨k', hk', h⟩ := scan_spec l n i a b c hil (by omega) (by rw [e]; exact hv _ (List.getElem_mem hil)) hn (by omega) n k 0 (by omega) (by omega)
    have e0 : ((0 : Nat) : Int) = 0 := rfl
    rw [e0] at h
    rw [h, List.drop_zero, e]
    have hb : 0 ≤ (if firstA a b l[i] = true then (1 : Int) else 0) ∧ (if firstA a b l[i] = true then (1 : Int) else 0) ≤ 1 := by split <;> omega
    rw [ih k' (i + 1) _ (by omega) (by omega) (by omega), List.drop_eq_getElem_cons hil]
    unfold prefC
    rw [List.countP_cons]
    congr 1
    split <;> omega
theorem prefs_impl (l : List (List Int)) (n : Nat) (a b : Int) (hab : a ≠ b) (hl : l.length ≤ 15) (hn : n < 7) (hv : ∀ v ∈ l, v.length = n ∧ a ∈ v ∧ b ∈ v) (k : Nat) (hk : 60 < k) : impl_prefers.f k l a b = some (prefC a b l) := by
  unfold impl_prefers.f
  have key : ∀ (d k i : Nat) (c : Int), i + d = l.length → d + 10 < k → 0 ≤ c ∧ c ≤ i → impl_prefers.l0 k a b c l l.length i = some (c + prefC a b (l.drop i)) := by
    intro d
    induction d with
    | zero =>
      intro k i c hi hk hc
      obtain ⟨k, rfl⟩ : ∃ m, k = m + 1 := ⟨k - 1, by omega⟩
      have e : l.drop i = [] := List.drop_eq_nil_iff.2 (by omega)
      rw [impl_prefers.l0, if_neg (by omega), e]
      simp [prefC]
    | succ d ih =>
      intro k i c hi hk hc
      obtain ⟨k, rfl⟩ : ∃ m, k = m + 1 := ⟨k - 1, by omega⟩
      have hil : i < l.length := by omega
      have e : l.getD i [] = l[i] := by simp [List.getD_eq_getElem?_getD, hil]
      obtain ⟨h1, h2, h3⟩ := hv l[i] (List.getElem_mem hil)
      rw [impl_prefers.l0, if_pos (by omega), if_pos (by omega), if_pos (by omega), rdL1, e, index_ok _ a k (by omega) (by omega), index_ok _ b k (by omega) (by omega), if_pos h2, if_pos h3]
      simp only [Option.bind_some]
      rw [List.drop_eq_getElem_cons hil]
      have hf := first_idx hab l[i] h3
      unfold prefC
      rw [List.countP_cons, hf, w64 (n := (i : Int) + 1) (by omega) (by omega)]
      have e2 : (i : Int) + 1 = ((i + 1 : Nat) : Int) := by omega
      rw [e2]
      by_cases cc : l[i].idxOf a < l[i].idxOf b
      · rw [if_pos (by omega), w64 (by omega) (by omega), ih k (i + 1) (c + 1) (by omega) (by omega) (by omega), decide_eq_true cc, if_pos rfl]
        unfold prefC
        congr 1
        omega
      · rw [if_neg (by omega), ih k (i + 1) c (by omega) (by omega) (by omega), decide_eq_false cc, if_neg (by simp)]
        unfold prefC
        congr 1
  have := key l.length k 0 0 (by omega) (by omega) (by omega)
  simpa using this
def prefers (l : List (List Int)) (n a b : Int) : Int := if votesOk l n = true ∧ (0 ≤ a ∧ a ≤ n - 1) ∧ (0 ≤ b ∧ b ≤ n - 1) ∧ a ≠ b then prefC a b l else -1
theorem prefers_spec (l : List (List Int)) (n a b : Int) (B k : Nat) (hl : l.length ≤ 1000000000) (hv : ∀ v ∈ l, v.length ≤ B) (hB : B ≤ 1000000000) (hk : 15 * (B + 3) + 500 < k) : spec_Prefers.f k l n a b = some (prefers l n a b) := by
  obtain ⟨k, rfl⟩ : ∃ m, k = m + 1 := ⟨k - 1, by omega⟩
  unfold spec_Prefers.f
  rw [votes_spec l n B (k + 1) hl hv hB (by omega)]
  simp only [in_spec, Option.bind_some]
  unfold prefers
  by_cases h : votesOk l n = true
  · obtain ⟨⟨h1, h2, h3⟩, h4⟩ := votesOk_iff.1 h
    rw [if_pos h, w64 (n := n - 1) (by omega) (by omega)]
    by_cases ha : 0 ≤ a ∧ a ≤ n - 1
    · rw [decide_eq_true ha, if_pos rfl]
      by_cases hb : 0 ≤ b ∧ b ≤ n - 1
      · rw [decide_eq_true hb, if_pos rfl, spec_Prefers.j0]
        by_cases hab : a = b
        · rw [if_pos (by simp [hab]), if_neg (fun hh => hh.2.2.2 hab)]
        · rw [if_neg (by simp [hab]), if_pos ⟨h, ha, hb, hab⟩]
          obtain ⟨N, rfl⟩ : ∃ N : Nat, n = N := ⟨n.toNat, by omega⟩
          have := prefs_spec l N a b h3 (by omega) (fun v hv2 => (voteOk_mem (by omega) (h4 v hv2)).1) l.length k 0 0 (by omega) (by omega) (by omega)
          simpa using this
      · rw [decide_eq_false hb, if_neg (by simp), spec_Prefers.j0, if_pos rfl, if_neg (fun hh => hb hh.2.2.1)]
    · rw [decide_eq_false ha, if_neg (by simp), spec_Prefers.j0, if_pos rfl, if_neg (fun hh => ha hh.2.1)]
  · rw [if_neg h, spec_Prefers.j0, if_pos rfl, if_neg (fun hh => h hh.1)]
theorem prefers_impl (l : List (List Int)) (n a b : Int) (B k : Nat) (hl : l.length ≤ 1000000000) (hv : ∀ v ∈ l, v.length ≤ B) (hB : B ≤ 1000000000) (hk : 15 * (B + 3) + 500 < k) : impl_Prefers.f k l n a b = some (prefers l n a b) := by
  unfold impl_Prefers.f
  rw [votes_impl l n B k hl hv hB (by omega)]
  simp only [in_impl, Option.bind_some]
  unfold prefers
  by_cases h : votesOk l n = true
  · obtain ⟨⟨h1, h2, h3⟩, h4⟩ := votesOk_iff.1 h
    rw [if_pos h, w64 (n := n - 1) (by omega) (by omega)]
    by_cases ha : 0 ≤ a ∧ a ≤ n - 1
    · rw [decide_eq_true ha, if_pos rfl]
      by_cases hb : 0 ≤ b ∧ b ≤ n - 1
      · rw [decide_eq_true hb, if_pos rfl]
        by_cases hab : a = b
        · rw [if_pos hab, if_neg (fun hh => hh.2.2.2 hab)]
        · rw [if_neg hab, if_pos ⟨h, ha, hb, hab⟩]
          obtain ⟨N, rfl⟩ : ∃ N : Nat, n = N := ⟨n.toNat, by omega⟩
          rw [prefs_impl l N a b hab h3 (by omega) (fun v hv2 => by
            obtain ⟨m1, m2, m3⟩ := voteOk_mem (n := (N : Int).toNat) (by omega) (h4 v hv2)
            exact ⟨by rw [m1]; rfl, m3 a ha.1 (by omega), m3 b hb.1 (by omega)⟩) k (by omega)]
          rfl
      · rw [decide_eq_false hb, if_neg (by simp), if_neg (fun hh => hb hh.2.2.1)]
    · rw [decide_eq_false ha, if_neg (by simp), if_neg (fun hh => ha hh.2.1)]
  · rw [if_neg h, if_neg (fun hh => h hh.1)]

end Go.Proofs.Ytekcdkefomkgdaa.Lem
