/- Plain lemmas on the printed functions: what they compute; conditions stand in each lemma. -/
import Derived.Test.YtjabgjlkemfofaaDoorQx0
import Derived.Test.YtjabgjlkemfofaaDoorQx21
import Derived.Test.YtjabgjlkemfofaaDoorQx22
import Derived.Test.YtjabgjlkemfofaaDoorQx23
import Derived.Test.YtjabgjlkemfofaaDoorLembase
namespace Go.Proofs.YtjabgjlkemfofaaDoor.Lem
open Go.RowKit Go.Proofs.YtjabgjlkemfofaaDoor.Q Go.Proofs.YtjabgjlkemfofaaDoorW.PrintWords Go.Proofs.YtjabgjlkemfofaaDoorW.PrintLast Go.Proofs.YtjabgjlkemfofaaDoorW.PrintMore Go.Proofs.YtjabgjlkemfofaaDoor.Lem
set_option linter.unusedVariables false
set_option linter.unusedSimpArgs false
theorem strOfNums_size (xs : List Int) : (strOfNums xs).size = xs.length := by
  unfold strOfNums
  simp [ByteArray.size]
/-- The text that a mark writes. -/
theorem mt_loop : ∀ (m : Nat) (x : Int) (s : ByteArray), 0 ≤ x → x < (10 : Int) ^ m → x ≤ 9223372036854775807 → s.size + m ≤ 100000 → ∃ r, ∀ k, m < k → laws_markText.l0 k x s = some r := by
  intro m
  induction m with
  | zero =>
    intro x s h0 h1 _ hs
    have hx : x = 0 := by simp at h1; omega
    subst hx
    refine ⟨(⟨#[109]⟩ : ByteArray) ++ s, fun k hk => ?_⟩
    obtain ⟨k, rfl⟩ : ∃ m, k = m + 1 := ⟨k - 1, by omega⟩
    rw [laws_markText.l0, if_neg (by decide), if_pos (by omega)]
  | succ m ih =>
    intro x s h0 h1 h2 hs
    by_cases hx : x > 0
    · have hp : (10 : Int) ^ (m + 1) = 10 * (10 : Int) ^ m := by rw [Int.pow_succ, Int.mul_comm]
      rw [hp] at h1
      have hd : Int.tdiv x 10 = x / 10 := Int.tdiv_eq_ediv_of_nonneg h0
      have hsz := strOfNums_size ([(wrap64 (48 + (Int.tmod x 10))) % 256] : List Int)
      simp only [List.length_cons, List.length_nil] at hsz
      obtain ⟨r, hr⟩ := ih (x / 10) ((strOfNums ([(wrap64 (48 + (Int.tmod x 10))) % 256] : List Int)) ++ s) (by omega) (by omega) (by omega) (by rw [ByteArray.size_append]; omega)
      refine ⟨r, fun k hk => ?_⟩
      obtain ⟨k, rfl⟩ : ∃ m, k = m + 1 := ⟨k - 1, by omega⟩
      rw [laws_markText.l0, if_pos hx]
      simp only [Option.bind_some]
      rw [if_pos (by omega), hd, w64 (n := x / 10) (by omega) (by omega)]
      exact hr k (by omega)
    · have hx0 : x = 0 := by omega
      subst hx0
      refine ⟨(⟨#[109]⟩ : ByteArray) ++ s, fun k hk => ?_⟩
      obtain ⟨k, rfl⟩ : ∃ m, k = m + 1 := ⟨k - 1, by omega⟩
      rw [laws_markText.l0, if_neg (by decide), if_pos (by omega)]
theorem mt_ex (x : Int) (h0 : 0 ≤ x) (h1 : x ≤ 1000000000000000000) : ∃ r, ∀ k, 30 < k → laws_markText.f k x = some r := by
  unfold laws_markText.f
  by_cases h : x ≤ 0
  · exact ⟨_, fun k _ => by rw [if_pos h]⟩
  · obtain ⟨r, hr⟩ := mt_loop 30 x (⟨#[]⟩ : ByteArray) h0 (by
      have : (10 : Int) ^ 30 = 1000000000000000000000000000000 := by decide
      omega) (by omega) (by decide)
    exact ⟨r, fun k hk => by rw [if_neg h]; exact hr k hk⟩
def mtT (x : Int) : ByteArray := (laws_markText.f 31 x).getD ByteArray.empty
theorem mtT_ok (x : Int) (h0 : 0 ≤ x) (h1 : x ≤ 1000000000000000000) (k : Nat) (hk : 30 < k) : laws_markText.f k x = some (mtT x) := by
  obtain ⟨r, hr⟩ := mt_ex x h0 h1
  rw [hr k hk]
  unfold mtT
  rw [hr 31 (by omega)]
  rfl
/-- The mark of place i. -/
def mkP (i : Nat) : S26 := ⟨mtT (2 * (i : Int) + 1), 2 * (i : Int) + 2⟩
def marksP (n : Nat) : List S26 := (List.range n).map mkP
theorem eqStringS_self (l : List ByteArray) (k : Nat) (hl : l.length ≤ 1000000000) (hk : l.length < k) : laws_eqStringS.f k l l = some true := by
  unfold laws_eqStringS.f
  rw [if_pos rfl]
  have := run_all (fun k x5 => laws_eqStringS.l0 k l l x5) l.length (by omega) (fun _ => true) false (some true)
    (fun k i hi => by
      simp only [laws_eqStringS.l0]
      rw [if_pos (by omega), if_pos (by omega), if_pos (by omega)]
      first | done | simp)
    (fun k => by
      simp only [laws_eqStringS.l0]
      rw [if_neg (by omega)]) k hk
  rw [this]
  simp
def marksS (n : Nat) : List ByteArray := (List.range n).map fun i : Nat => mtT ((i : Int) + 1)
theorem markStringS_ok (l : List ByteArray) (k : Nat) (hl : l.length ≤ 1000000000) (hk : l.length + 31 < k) : laws_markStringS.f k l 1 = some ((l.length : Int) + 1, marksS l.length) := by
  unfold laws_markStringS.f
  have key : ∀ (d k i : Nat) (xs : List ByteArray), i + d = l.length → d + 31 < k → xs.length = l.length → (∀ j, j < i → xs[j]? = some (mtT ((j : Int) + 1))) → laws_markStringS.l0 k xs ((i : Int) + 1) i = some ((l.length : Int) + 1, marksS l.length) := by
    intro d
    induction d with
    | zero =>
      intro k i xs hd hk hx hj
      obtain ⟨k, rfl⟩ : ∃ m, k = m + 1 := ⟨k - 1, by omega⟩
      simp only [laws_markStringS.l0]
      rw [if_neg (by omega)]
      have : xs = marksS l.length := by
        apply List.ext_getElem?
        intro j
        by_cases h : j < i
        · rw [hj j h]
          have : j < l.length := by omega
          simp [marksS, this]
        · rw [List.getElem?_eq_none (by omega), List.getElem?_eq_none (by simp [marksS]; omega)]
      rw [this]
      congr 2
      omega
    | succ d ih =>
      intro k i xs hd hk hx hj
      obtain ⟨k, rfl⟩ : ∃ m, k = m + 1 := ⟨k - 1, by omega⟩
      simp only [laws_markStringS.l0]
      rw [if_pos (by omega), mtT_ok _ (by omega) (by omega) k (by omega)]
      simp only [Option.bind_some]
      rw [if_pos (by omega), w64 (n := (i : Int) + 1 + 1) (by omega) (by omega), w64 (n := (i : Int) + 1) (by omega) (by omega), Int.toNat_natCast]
      have e2 : (i : Int) + 1 = ((i + 1 : Nat) : Int) := by omega
      rw [e2]
      refine ih k (i + 1) _ (by omega) (by omega) (by simpa using hx) (fun j hj2 => ?_)
      rw [List.getElem?_set]
      by_cases e : i = j
      · subst e
        rw [if_pos rfl, if_pos (by omega)]
        congr 2
      · rw [if_neg e]
        exact hj j (by omega)
  have := key l.length k 0 l (by omega) hk rfl (fun j hj => by omega)
  simpa using this
theorem heldStringS_ok (n : Nat) (k : Nat) (hl : n ≤ 1000000000) (hk : n + 31 < k) : laws_heldStringS.f k (marksS n) 1 = some ((n : Int) + 1) := by
  unfold laws_heldStringS.f
  have hlen : (marksS n).length = n := by simp [marksS]
  have key : ∀ (d k i : Nat), i + d = n → d + 31 < k → laws_heldStringS.l0 k (marksS n) ((i : Int) + 1) i = some ((n : Int) + 1) := by
    intro d
    induction d with
    | zero =>
      intro k i hd hk
      obtain ⟨k, rfl⟩ : ∃ m, k = m + 1 := ⟨k - 1, by omega⟩
      simp only [laws_heldStringS.l0]
      rw [if_neg (by omega)]
      congr 2
      omega
    | succ d ih =>
      intro k i hd hk
      obtain ⟨k, rfl⟩ : ∃ m, k = m + 1 := ⟨k - 1, by omega⟩
      have e : rdOf ByteArray.empty (marksS n) (i : Int) = mtT ((i : Int) + 1) := by
        have : i < n := by omega
        simp [rdOf, marksS, List.getD_eq_getElem?_getD, this]
      simp only [laws_heldStringS.l0]
      rw [if_pos (by omega), if_pos (by omega), mtT_ok _ (by omega) (by omega) k (by omega), e]
      simp only [Option.bind_some]
      rw [if_pos trivial, w64 (n := (i : Int) + 1 + 1) (by omega) (by omega), w64 (n := (i : Int) + 1) (by omega) (by omega)]
      have e4 : (i : Int) + 1 = ((i + 1 : Nat) : Int) := by omega
      rw [e4]
      exact ih k (i + 1) (by omega) (by omega)
  have := key n k 0 (by omega) hk
  simpa using this

end Go.Proofs.YtjabgjlkemfofaaDoor.Lem
