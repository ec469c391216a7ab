/- Plain lemmas on the printed functions: what they compute; conditions stand in each lemma. -/
import Derived.Test.YtekcdkefomkgdaaQx15
import Derived.Test.YtekcdkefomkgdaaQx16
import Derived.Test.YtekcdkefomkgdaaQx17
import Derived.Test.YtekcdkefomkgdaaLembase
import Derived.Test.YtekcdkefomkgdaaLemin
import Derived.Test.YtekcdkefomkgdaaLemints
import Derived.Test.YtekcdkefomkgdaaLemssI
import Derived.Test.YtekcdkefomkgdaaLemtasteA
import Derived.Test.YtekcdkefomkgdaaLemtasteB
import Derived.Test.YtekcdkefomkgdaaLemtasteC
import Derived.Test.YtekcdkefomkgdaaLemmarks
namespace Go.Proofs.Ytekcdkefomkgdaa.Lem
open Go.RowKit Go.Proofs.Ytekcdkefomkgdaa.Q Go.Proofs.YtekcdkefomkgdaaW.PrintWords Go.Proofs.YtekcdkefomkgdaaW.PrintLast Go.Proofs.YtekcdkefomkgdaaW.PrintMore Go.Proofs.Ytekcdkefomkgdaa.Lem
set_option linter.unusedVariables false
set_option linter.unusedSimpArgs false
/-- A vote's points from place j on, put on. -/
def addFrom (n : Nat) : Nat → List Int → List Int → List Int
  | _, [], out => out
  | j, x :: xs, out => addFrom n (j + 1) xs (out.set x.toNat (out.getD x.toNat 0 + ((n : Int) - 1 - j)))
theorem addFrom_length (n : Nat) : ∀ (v : List Int) (j : Nat) (out : List Int), (addFrom n j v out).length = out.length := by
  intro v
  induction v with
  | nil => intro j out; rfl
  | cons x v ih => intro j out; unfold addFrom; rw [ih, List.length_set]
theorem set_bd {out : List Int} {M y : Int} {i : Nat} (h : ∀ x ∈ out, 0 ≤ x ∧ x ≤ M) (hy : 0 ≤ y ∧ y ≤ M) : ∀ x ∈ out.set i y, 0 ≤ x ∧ x ≤ M := by
  intro x hx
  rcases List.mem_or_eq_of_mem_set hx with e | e
  · exact h x e
  · rw [e]; exact hy
theorem getD_bd {out : List Int} {M : Int} {i : Nat} (h : ∀ x ∈ out, 0 ≤ x ∧ x ≤ M) (hM : 0 ≤ M) : 0 ≤ out.getD i 0 ∧ out.getD i 0 ≤ M := by
  rw [List.getD_eq_getElem?_getD]
  by_cases c : i < out.length
  · rw [List.getElem?_eq_getElem c]
    exact h _ (List.getElem_mem c)
  · rw [List.getElem?_eq_none (by omega)]
    exact ⟨by simp, by simpa using hM⟩
theorem addFrom_bd (n : Nat) (hn : n < 7) : ∀ (v : List Int) (j : Nat) (out : List Int) (M : Int), 0 ≤ M → j + v.length ≤ n → (∀ x ∈ out, 0 ≤ x ∧ x ≤ M) → ∀ x ∈ addFrom n j v out, 0 ≤ x ∧ x ≤ M + 5 * (v.length : Int) := by
  intro v
  induction v with
  | nil => intro j out M _ _ h x hx; have := h x hx; simpa using this
  | cons a v ih =>
    intro j out M hM hj h x hx
    unfold addFrom at hx
    rw [List.length_cons] at hj
    have hg := getD_bd (i := a.toNat) h hM
    have := ih (j + 1) _ (M + 5) (by omega) (by omega) (set_bd (M := M + 5) (fun y hy => by have := h y hy; omega) (by omega)) x hx
    rw [List.length_cons]
    omega
theorem wi1 {i : Int} (h : 0 ≤ i) (h2 : i ≤ 4611686018427387904) : wrap64 (i + 1) = i + 1 := w64 (by omega) (by omega)
theorem add_impl (n : Nat) (hn : n < 7) (L : List (List Int)) (len i : Int) (v : List Int) (hv : ∀ x ∈ v, 0 ≤ x ∧ x ≤ (n : Int) - 1) (hl : v.length = n) : ∀ (d k j : Nat) (out : List Int), j + d = n → d + 1 < k → out.length = n → (∀ x ∈ out, 0 ≤ x ∧ x ≤ 1000 - 5 * (d : Int)) → ∃ k', k - d - 1 ≤ k' ∧ impl_PointsOf.l1 k n out L len i v v.length j = impl_PointsOf.l0 k' n (addFrom n j (v.drop j) out) L len (wrap64 (i + 1)) := by
  intro d
  induction d with
  | zero =>
    intro k j out hj hk ho hb
    obtain ⟨k, rfl⟩ : ∃ m, k = m + 1 := ⟨k - 1, by omega⟩
    refine ⟨k, by omega, ?_⟩
    have e : v.drop j = [] := List.drop_eq_nil_iff.2 (by omega)
    rw [impl_PointsOf.l1, if_neg (by omega), e]
    rfl
  | succ d ih =>
    intro k j out hj hk ho hb
    obtain ⟨k, rfl⟩ : ∃ m, k = m + 1 := ⟨k - 1, by omega⟩
    have hjl : j < v.length := by omega
    have e : v.getD j 0 = v[j] := by rw [List.getD_eq_getElem?_getD, List.getElem?_eq_getElem hjl, Option.getD_some]
    have hx := hv _ (List.getElem_mem hjl)
    have hg := getD_bd (i := v[j].toNat) hb (by omega)
    have hr : rd out v[j] = out.getD v[j].toNat 0 := rfl
    rw [impl_PointsOf.l1, if_pos (by omega), if_pos (by omega), if_pos (by omega), rd_nat, e, if_pos (by omega), if_pos (by omega), hr, w64 (n := (n : Int) - 1) (by omega) (by omega), w64 (n := (n : Int) - 1 - (j : Int)) (by omega) (by omega), w64 (n := out.getD v[j].toNat 0 + ((n : Int) - 1 - (j : Int))) (by omega) (by omega), wi1 (by omega) (by omega), List.drop_eq_getElem_cons hjl]
    unfold addFrom
    have e2 : (j : Int) + 1 = ((j + 1 : Nat) : Int) := by omega
    rw [e2]
    obtain ⟨k', hk', h⟩ := ih k (j + 1) _ (by omega) (by omega) (by rw [List.length_set]; exact ho) (set_bd (M := 1000 - 5 * (d : Int)) (i := v[j].toNat) (y := out.getD v[j].toNat 0 + ((n : Int) - 1 - (j : Int))) (fun y hy => by have := hb y hy; omega) (by omega))
    exact ⟨k', by omega, h⟩
theorem add_spec (n : Nat) (hn : n < 7) (l : List (List Int)) (i : Nat) (hi : i < l.length) (hv : ∀ x ∈ l.getD i [], 0 ≤ x ∧ x ≤ (n : Int) - 1) (hl : (l.getD i []).length = n) : ∀ (d k j : Nat) (out : List Int), j + d = n → d + 1 < k → out.length = n → (∀ x ∈ out, 0 ≤ x ∧ x ≤ 1000 - 5 * (d : Int)) → ∃ k', k - d - 1 ≤ k' ∧ spec_PointsOf.l1 k l n out i j = spec_PointsOf.l0 k' l n (addFrom n j ((l.getD i []).drop j) out) (wrap64 ((i : Int) + 1)) := by
  generalize hV : l.getD i [] = v at hv hl
  intro d
  induction d with
  | zero =>
    intro k j out hj hk ho hb
    obtain ⟨k, rfl⟩ : ∃ m, k = m + 1 := ⟨k - 1, by omega⟩
    refine ⟨k, by omega, ?_⟩
    have e : v.drop j = [] := List.drop_eq_nil_iff.2 (by omega)
    rw [spec_PointsOf.l1, if_neg (by omega), e]
    rfl
  | succ d ih =>
    intro k j out hj hk ho hb
    obtain ⟨k, rfl⟩ : ∃ m, k = m + 1 := ⟨k - 1, by omega⟩
    have hjl : j < v.length := by omega
    have e : v.getD j 0 = v[j] := by rw [List.getD_eq_getElem?_getD, List.getElem?_eq_getElem hjl, Option.getD_some]
    have hx := hv _ (List.getElem_mem hjl)
    have hg := getD_bd (i := v[j].toNat) hb (by omega)
    have hr : rd out v[j] = out.getD v[j].toNat 0 := rfl
    have hq : out.getD v[j].toNat 0 + (n : Int) - 1 - (j : Int) = out.getD v[j].toNat 0 + ((n : Int) - 1 - (j : Int)) := by omega
    rw [spec_PointsOf.l1, if_pos (by omega), if_pos (by omega), if_pos (by omega), if_pos (by omega), rdL1, hV, if_pos (by omega), rd_nat, e, if_pos (by omega), if_pos (by omega), hr, w64 (n := out.getD v[j].toNat 0 + (n : Int)) (by omega) (by omega), w64 (n := out.getD v[j].toNat 0 + (n : Int) - 1) (by omega) (by omega), w64 (n := out.getD v[j].toNat 0 + (n : Int) - 1 - (j : Int)) (by omega) (by omega), wi1 (by omega) (by omega), hq, List.drop_eq_getElem_cons hjl]
    unfold addFrom
    have e2 : (j : Int) + 1 = ((j + 1 : Nat) : Int) := by omega
    rw [e2]
    obtain ⟨k', hk', h⟩ := ih k (j + 1) _ (by omega) (by omega) (by rw [List.length_set]; exact ho) (set_bd (M := 1000 - 5 * (d : Int)) (i := v[j].toNat) (y := out.getD v[j].toNat 0 + ((n : Int) - 1 - (j : Int))) (fun y hy => by have := hb y hy; omega) (by omega))
    exact ⟨k', by omega, h⟩
def pointsL (n : Nat) (l : List (List Int)) : List Int := l.foldl (fun o v => addFrom n 0 v o) (List.replicate n 0)
def points (l : List (List Int)) (n : Int) : List Int := if votesOk l n = true then pointsL n.toNat l else []
theorem pts_impl (l : List (List Int)) (n : Nat) (hn : n < 7) (hl : l.length ≤ 15) (hv : ∀ v ∈ l, v.length = n ∧ ∀ x ∈ v, 0 ≤ x ∧ x ≤ (n : Int) - 1) : ∀ (d k i : Nat) (out : List Int), i + d = l.length → 12 * d + 2 < k → out.length = n → (∀ x ∈ out, 0 ≤ x ∧ x ≤ 900 - 40 * (d : Int)) → impl_PointsOf.l0 k n out l l.length i = some ((l.drop i).foldl (fun o v => addFrom n 0 v o) out) := by
  intro d
  induction d with
  | zero =>
    intro k i out hi hk ho hb
    obtain ⟨k, rfl⟩ : ∃ m, k = m + 1 := ⟨k - 1, by omega⟩
    have e : l.drop i = [] := List.drop_eq_nil_iff.2 (by omega)
    rw [impl_PointsOf.l0, if_neg (by omega), e]
    rfl
  | succ d ih =>
    intro k i out hi hk ho hb
    obtain ⟨k, rfl⟩ : ∃ m, k = m + 1 := ⟨k - 1, by omega⟩
    have hil : i < l.length := by omega
    have e : l.getD i [] = l[i] := by simp [List.getD_eq_getElem?_getD, hil]
    obtain ⟨h1, h2⟩ := hv _ (List.getElem_mem hil)
    rw [impl_PointsOf.l0, if_pos (by omega), if_pos (by omega), if_pos (by omega), rdL1, e]
    obtain ⟨k', hk', h⟩ := add_impl n hn l l.length i l[i] h2 h1 n k 0 out (by omega) (by omega) ho (fun x hx => by have := hb x hx; omega)
    have e0 : ((0 : Nat) : Int) = 0 := rfl
    rw [e0] at h
    rw [h, List.drop_zero, wi1 (by omega) (by omega), List.drop_eq_getElem_cons hil, List.foldl_cons]
    have e2 : (i : Int) + 1 = ((i + 1 : Nat) : Int) := by omega
    rw [e2]
    refine ih k' (i + 1) _ (by omega) (by omega) (by rw [addFrom_length]; exact ho) (fun x hx => ?_)
    have := addFrom_bd n hn l[i] 0 out (900 - 40 * ((d + 1 : Nat) : Int)) (by omega) (by omega) hb x hx
    omega
theorem pts_spec (l : List (List Int)) (n : Nat) (hn : n < 7) (hl : l.length ≤ 15) (hv : ∀ v ∈ l, v.length = n ∧ ∀ x ∈ v, 0 ≤ x ∧ x ≤ (n : Int) - 1) : ∀ (d k i : Nat) (out : List Int), i + d = l.length → 12 * d + 2 < k → out.length = n → (∀ x ∈ out, 0 ≤ x ∧ x ≤ 900 - 40 * (d : Int)) → spec_PointsOf.l0 k l n out i = some ((l.drop i).foldl (fun o v => addFrom n 0 v o) out) := by
  intro d
  induction d with
  | zero =>
    intro k i out hi hk ho hb
    obtain ⟨k, rfl⟩ : ∃ m, k = m + 1 := ⟨k - 1, by omega⟩
    have e : l.drop i = [] := List.drop_eq_nil_iff.2 (by omega)
    rw [spec_PointsOf.l0, if_neg (by omega), e]
    rfl
  | succ d ih =>
    intro k i out hi hk ho hb
    obtain ⟨k, rfl⟩ : ∃ m, k = m + 1 := ⟨k - 1, by omega⟩
    have hil : i < l.length := by omega
    have e : l.getD i [] = l[i] := by simp [List.getD_eq_getElem?_getD, hil]
    obtain ⟨h1, h2⟩ := hv _ (List.getElem_mem hil)
    rw [spec_PointsOf.l0, if_pos (by omega)]
    obtain ⟨k', hk', h⟩ := add_spec n hn l i hil (by rw [e]; exact h2) (by rw [e]; exact h1) n k 0 out (by omega) (by omega) ho (fun x hx => by have := hb x hx; omega)
    have e0 : ((0 : Nat) : Int) = 0 := rfl
    rw [e0] at h
    rw [h, List.drop_zero, e, wi1 (by omega) (by omega), List.drop_eq_getElem_cons hil, List.foldl_cons]
    have e2 : (i : Int) + 1 = ((i + 1 : Nat) : Int) := by omega
    rw [e2]
    refine ih k' (i + 1) _ (by omega) (by omega) (by rw [addFrom_length]; exact ho) (fun x hx => ?_)
    have := addFrom_bd n hn l[i] 0 out (900 - 40 * ((d + 1 : Nat) : Int)) (by omega) (by omega) hb x hx
    omega
theorem votes_each {l : List (List Int)} {n : Nat} (hn : n < 7) (h : ∀ v ∈ l, voteOk n v = true) : ∀ v ∈ l, v.length = n ∧ ∀ x ∈ v, 0 ≤ x ∧ x ≤ (n : Int) - 1 := fun v hv => ⟨(voteOk_mem hn (h v hv)).1, (voteOk_mem hn (h v hv)).2.1⟩
theorem rep_bd (n : Nat) (M : Int) (hM : 0 ≤ M) : ∀ x ∈ List.replicate n (0 : Int), 0 ≤ x ∧ x ≤ M := by
  intro x hx
  rw [(List.mem_replicate.1 hx).2]
  omega
theorem points_impl (l : List (List Int)) (n : Int) (B k : Nat) (hl : l.length ≤ 1000000000) (hv : ∀ v ∈ l, v.length ≤ B) (hB : B ≤ 1000000000) (hk : 15 * (B + 3) + 500 < k) : impl_PointsOf.f k l n = some (points l n) := by
  unfold impl_PointsOf.f
  rw [votes_impl l n B k hl hv hB (by omega)]
  simp only [Option.bind_some]
  unfold points
  by_cases h : votesOk l n = true
  · obtain ⟨⟨h1, h2, h3⟩, h4⟩ := votesOk_iff.1 h
    obtain ⟨N, rfl⟩ : ∃ N : Nat, n = N := ⟨n.toNat, by omega⟩
    rw [if_pos h, if_pos h, if_pos (by omega), if_pos (by omega), Int.toNat_natCast]
    have := pts_impl l N (by omega) h3 (votes_each (by omega) h4) l.length k 0 (List.replicate N 0) (by omega) (by omega) (by simp) (rep_bd _ _ (by omega))
    exact this
  · rw [if_neg h, if_neg h]
theorem points_spec (l : List (List Int)) (n : Int) (B k : Nat) (hl : l.length ≤ 1000000000) (hv : ∀ v ∈ l, v.length ≤ B) (hB : B ≤ 1000000000) (hk : 15 * (B + 3) + 500 < k) : spec_PointsOf.f k l n = some (points l n) := by
  unfold spec_PointsOf.f
  rw [votes_spec l n B k hl hv hB (by omega)]
  simp only [Option.bind_some]
  unfold points
  by_cases h : votesOk l n = true
  · obtain ⟨⟨h1, h2, h3⟩, h4⟩ := votesOk_iff.1 h
    obtain ⟨N, rfl⟩ : ∃ N : Nat, n = N := ⟨n.toNat, by omega⟩
    rw [if_pos h, if_pos h, if_pos (by omega), if_pos (by omega), Int.toNat_natCast]
    have := pts_spec l N (by omega) h3 (votes_each (by omega) h4) l.length k 0 (List.replicate N 0) (by omega) (by omega) (by simp) (rep_bd _ _ (by omega))
    exact this
  · rw [if_neg h, if_neg h]
theorem points_length (l : List (List Int)) (n : Int) : (points l n).length ≤ 6 := by
  unfold points
  split
  · rename_i h
    obtain ⟨⟨h1, h2, h3⟩, h4⟩ := votesOk_iff.1 h
    unfold pointsL
    have key : ∀ (l : List (List Int)) (o : List Int), (l.foldl (fun o v => addFrom n.toNat 0 v o) o).length = o.length := by
      intro l
      induction l with
      | nil => intro o; rfl
      | cons v l ih => intro o; rw [List.foldl_cons, ih, addFrom_length]
    rw [key, List.length_replicate]
    omega
  · simp
theorem markFrom_ok (l : List Int) (x : Int) (k : Nat) (hx : 0 ≤ x ∧ x + l.length ≤ 4611686018427387904) (hk : l.length < k) : ∃ r, laws_markIntS.f k l x = some (x + l.length, r) := by
  unfold laws_markIntS.f
  have key : ∀ (d k i : Nat) (xs : List Int) (y : Int), i + d = l.length → d < k → xs.length = l.length → y = x + i → ∃ r, laws_markIntS.l0 k xs y i = some (x + l.length, r) := by
    intro d
    induction d with
    | zero =>
      intro k i xs y hd hk hx2 hy
      obtain ⟨k, rfl⟩ : ∃ m, k = m + 1 := ⟨k - 1, by omega⟩
      simp only [laws_markIntS.l0]
      rw [if_neg (by omega)]
      have : y = x + l.length := by omega
      rw [this]
      exact ⟨_, rfl⟩
    | succ d ih =>
      intro k i xs y hd hk hx2 hy
      obtain ⟨k, rfl⟩ : ∃ m, k = m + 1 := ⟨k - 1, by omega⟩
      simp only [laws_markIntS.l0]
      rw [if_pos (by omega), if_pos (by omega), w64 (n := y + 1) (by omega) (by omega), w64 (n := (i : Int) + 1) (by omega) (by omega)]
      have e2 : (i : Int) + 1 = ((i + 1 : Nat) : Int) := by omega
      rw [e2]
      exact ih k (i + 1) _ _ (by omega) (by omega) (by rw [List.length_set]; exact hx2) (by omega)
  exact key l.length k 0 l x (by omega) hk rfl (by omega)
theorem markIntSS_ok (l : List (List Int)) (B k : Nat) (hl : l.length ≤ 1000000000) (hv : ∀ v ∈ l, v.length ≤ B) (hB : B ≤ 1000000000) (hk : l.length + B + 2 < k) : ∃ r, laws_markIntSS.f k l 1 = some r ∧ ¬ r < 0 := by
  unfold laws_markIntSS.f
  have key : ∀ (d k i : Nat) (x : Int), i + d = l.length → d + B + 2 < k → 0 ≤ x ∧ x ≤ 1 + (i : Int) * 1000000000 → ∃ r, laws_markIntSS.l0 k l x i = some r ∧ ¬ r < 0 := by
    intro d
    induction d with
    | zero =>
      intro k i x hd hk hx
      obtain ⟨k, rfl⟩ : ∃ m, k = m + 1 := ⟨k - 1, by omega⟩
      rw [laws_markIntSS.l0, if_neg (by omega)]
      exact ⟨x, rfl, by omega⟩
    | succ d ih =>
      intro k i x hd hk hx
      obtain ⟨k, rfl⟩ : ∃ m, k = m + 1 := ⟨k - 1, by omega⟩
      have hil : i < l.length := by omega
      have e : l.getD i [] = l[i] := by simp [List.getD_eq_getElem?_getD, hil]
      have hm := hv _ (List.getElem_mem hil)
      obtain ⟨r, hr⟩ := markFrom_ok l[i] x k (by omega) (by omega)
      rw [laws_markIntSS.l0, if_pos (by omega), if_pos (by omega), rdL1, e, hr]
      simp only [Option.bind_some]
      rw [wi1 (by omega) (by omega)]
      have e2 : (i : Int) + 1 = ((i + 1 : Nat) : Int) := by omega
      rw [e2]
      exact ih k (i + 1) _ (by omega) (by omega) (by omega)
  exact key l.length k 0 1 (by omega) (by omega) (by omega)

end Go.Proofs.Ytekcdkefomkgdaa.Lem
