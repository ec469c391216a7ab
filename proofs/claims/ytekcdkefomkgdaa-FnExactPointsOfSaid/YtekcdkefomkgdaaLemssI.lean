/- Plain lemmas on the printed functions: what they compute; conditions stand in each lemma. -/
import Derived.Test.YtekcdkefomkgdaaQx0
import Derived.Test.YtekcdkefomkgdaaQx1
import Derived.Test.YtekcdkefomkgdaaQx4
import Derived.Test.YtekcdkefomkgdaaQx10
import Derived.Test.YtekcdkefomkgdaaLembase
import Derived.Test.YtekcdkefomkgdaaLemints
namespace Go.Proofs.Ytekcdkefomkgdaa.Lem
open Go.RowKit Go.Proofs.Ytekcdkefomkgdaa.Q Go.Proofs.YtekcdkefomkgdaaW.PrintWords Go.Proofs.YtekcdkefomkgdaaW.PrintLast Go.Proofs.YtekcdkefomkgdaaW.PrintMore Go.Proofs.Ytekcdkefomkgdaa.Lem
set_option linter.unusedVariables false
set_option linter.unusedSimpArgs false
theorem rdL1 (l : List (List Int)) (i : Nat) : rd_L1 l (i : Int) = l.getD i [] := by simp [rd_L1]
theorem szIntSS_ok (l : List (List Int)) (k : Nat) (hl : l.length ≤ 9223372036854775807) (hv : ∀ v ∈ l, v.length ≤ 9223372036854775807) (hk : l.length < k) : ∃ q, laws_szIntSS.f k l 1048576 = some q ∧ (q < 0 ∨ (0 ≤ q ∧ l.length ≤ 1048576 ∧ ∀ v ∈ l, v.length ≤ 1048576)) := by
  unfold laws_szIntSS.f
  rw [w64 (n := 1048576 - (l.length : Int)) (by omega) (by omega)]
  by_cases h : 1048576 - (l.length : Int) < 0
  · rw [if_pos h]
    exact ⟨_, rfl, .inl (by omega)⟩
  · rw [if_neg h]
    have key : ∀ (d k i : Nat) (left : Int), i + d = l.length → d < k → 0 ≤ left → left ≤ 1048576 → (∀ j, j < i → (l.getD j []).length ≤ 1048576) → ∃ q, laws_szIntSS.l0 k l left i = some q ∧ (q < 0 ∨ (0 ≤ q ∧ l.length ≤ 1048576 ∧ ∀ v ∈ l, v.length ≤ 1048576)) := by
      intro d
      induction d with
      | zero =>
        intro k i left hi hk h0 h1 hj
        obtain ⟨k, rfl⟩ : ∃ m, k = m + 1 := ⟨k - 1, by omega⟩
        rw [laws_szIntSS.l0, if_neg (by omega)]
        refine ⟨left, rfl, .inr ⟨h0, by omega, fun v hv => ?_⟩⟩
        obtain ⟨j, hj2, rfl⟩ := List.mem_iff_getElem.1 hv
        have := hj j (by omega)
        simpa [List.getD_eq_getElem?_getD, hj2] using this
      | succ d ih =>
        intro k i left hi hk h0 h1 hj
        obtain ⟨k, rfl⟩ : ∃ m, k = m + 1 := ⟨k - 1, by omega⟩
        have hm := hv (l.getD i []) (by simp [List.getD_eq_getElem?_getD, show i < l.length by omega])
        rw [laws_szIntSS.l0, if_pos (by omega), if_pos (by omega), rdL1]
        unfold laws_szIntS.f
        rw [w64 (n := left - ((l.getD i []).length : Int)) (by omega) (by omega)]
        by_cases c : left - ((l.getD i []).length : Int) < 0
        · rw [if_pos c]
          simp only [Option.bind_some]
          rw [if_pos (by omega)]
          exact ⟨_, rfl, .inl (by omega)⟩
        · rw [if_neg c]
          simp only [Option.bind_some]
          rw [if_neg c, w64 (n := (i : Int) + 1) (by omega) (by omega)]
          exact ih k (i + 1) _ (by omega) (by omega) (by omega) (by omega) (fun j hj2 => by
            by_cases e : j = i
            · subst e
              omega
            · exact hj j (by omega))
    exact key l.length k 0 _ (by omega) hk (by omega) (by omega) (fun j hj => by omega)
theorem toIntSS_ok (l : List (List Int)) (B k : Nat) (hl : l.length ≤ 1000000000) (hv : ∀ v ∈ l, v.length ≤ B) (hB : B ≤ 35184372088832) (hk : l.length + B + 2 < k) : laws_toIntSS.f k l = some l := by
  unfold laws_toIntSS.f
  rw [if_pos (by omega), if_pos (by rw [Int.toNat_natCast]; omega), Int.toNat_natCast]
  have key : ∀ (d k i : Nat) (xs : List (List Int)), i + d = l.length → d + B + 2 < k → xs.length = l.length → (∀ j, j < i → xs[j]? = l[j]?) → laws_toIntSS.l0 k l xs i = some l := by
    intro d
    induction d with
    | zero =>
      intro k i xs hi hk hx hj
      obtain ⟨k, rfl⟩ : ∃ m, k = m + 1 := ⟨k - 1, by omega⟩
      rw [laws_toIntSS.l0, if_neg (by omega)]
      congr 1
      apply List.ext_getElem?
      intro j
      by_cases h : j < l.length
      · exact hj j (by omega)
      · rw [List.getElem?_eq_none (by omega), List.getElem?_eq_none (by omega)]
    | succ d ih =>
      intro k i xs hi hk hx hj
      obtain ⟨k, rfl⟩ : ∃ m, k = m + 1 := ⟨k - 1, by omega⟩
      have hil : i < l.length := by omega
      have hm := hv (l.getD i []) (by simp [List.getD_eq_getElem?_getD, hil])
      rw [laws_toIntSS.l0, if_pos (by omega), if_pos (by omega), rdL1, toIntS_ok _ k (by omega) (by omega)]
      simp only [Option.bind_some]
      rw [if_pos (by omega), Int.toNat_natCast, w64 (n := (i : Int) + 1) (by omega) (by omega)]
      refine ih k (i + 1) _ (by omega) (by omega) (by simp [hx]) (fun j hj2 => ?_)
      rw [List.getElem?_set]
      by_cases e : i = j
      · subst e
        rw [if_pos rfl, if_pos (by omega)]
        simp [List.getD_eq_getElem?_getD, hil]
      · rw [if_neg e]
        exact hj j (by omega)
  exact key l.length k 0 _ (by omega) (by omega) (by simp) (fun j hj => by omega)
theorem eqIntSS_self (l : List (List Int)) (B k : Nat) (hl : l.length ≤ 1000000000) (hv : ∀ v ∈ l, v.length ≤ B) (hB : B ≤ 35184372088832) (hk : l.length + B + 2 < k) : laws_eqIntSS.f k l l = some true := by
  unfold laws_eqIntSS.f
  rw [if_pos rfl]
  have := loop_all (fun k x5 => laws_eqIntSS.l0 k l l x5) l.length B (by omega) (fun _ => true) false (some true)
    (fun k i hB2 hi => by
      have hm := hv (l.getD i []) (by simp [List.getD_eq_getElem?_getD, hi])
      rw [laws_eqIntSS.l0, if_pos (by omega), if_pos (by omega), if_pos (by omega), rdL1, eqIntS_self _ k (by omega) (by omega)]
      simp)
    (fun k _ => by
      rw [laws_eqIntSS.l0, if_neg (by omega)]) k (by omega)
  rw [this]
  simp

end Go.Proofs.Ytekcdkefomkgdaa.Lem
