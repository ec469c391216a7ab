/- Plain lemmas on the printed functions: what they compute; conditions stand in each lemma. -/
import Derived.Test.YtjabgjlkemfofaaQx0
import Derived.Test.YtjabgjlkemfofaaQx1
import Derived.Test.YtjabgjlkemfofaaQx4
import Derived.Test.YtjabgjlkemfofaaQx8
import Derived.Test.YtjabgjlkemfofaaQx9
import Derived.Test.YtjabgjlkemfofaaLembase
namespace Go.Proofs.Ytjabgjlkemfofaa.Lem
open Go.RowKit Go.Proofs.Ytjabgjlkemfofaa.Q Go.Proofs.YtjabgjlkemfofaaW.PrintWords Go.Proofs.YtjabgjlkemfofaaW.PrintLast Go.Proofs.YtjabgjlkemfofaaW.PrintMore Go.Proofs.Ytjabgjlkemfofaa.Lem
set_option linter.unusedVariables false
set_option linter.unusedSimpArgs false
def cvPart (x : S39) : S41 := ⟨x.f0, x.f1⟩
theorem toPart_ok (a0 : ByteArray) (a1 : Int) : laws_toPart.f a0 a1 = some (a0, a1) := rfl
theorem eqPart_self (a0 : ByteArray) (a1 : Int) : laws_eqPart.f a0 a1 a0 a1 = some true := by simp [laws_eqPart.f]
theorem rdLPart (l : List S39) (i : Nat) : rd_T39 l (i : Int) = l.getD i z39 := by simp [rd_T39]
theorem rdIPart (l : List S41) (i : Nat) : rd_T41 l (i : Int) = l.getD i z41 := by simp [rd_T41]
theorem toPartS_ok (l : List S39) (k : Nat) (hl : l.length ≤ 1000000000) (hk : l.length < k) : laws_toPartS.f k l = some (l.map cvPart) := by
  unfold laws_toPartS.f
  rw [if_pos (by omega), if_pos (by rw [Int.toNat_natCast]; omega)]
  have := copy_loop (fun k x3 x4 => laws_toPartS.l0 k l x3 x4) l.length (by omega) (fun i => cvPart (l.getD i z39))
    (fun k i xs hi hx => by
      simp only [laws_toPartS.l0, toPart_ok, Option.bind_some, rdLPart]
      rw [if_pos (by omega), if_pos (by omega), if_pos (by omega)]
      simp [cvPart])
    (fun k xs hx => by
      simp only [laws_toPartS.l0]
      rw [if_neg (by omega)]) (List.replicate l.length z41) (by simp) k hk
  rw [map_range_getD] at this
  simpa using this
theorem eqPartS_self (l : List S41) (k : Nat) (hl : l.length ≤ 1000000000) (hk : l.length < k) : laws_eqPartS.f k l l = some true := by
  unfold laws_eqPartS.f
  rw [if_pos rfl]
  have := run_all (fun k x5 => laws_eqPartS.l0 k l l x5) l.length (by omega) (fun _ => true) false (some true)
    (fun k i hi => by
      simp only [laws_eqPartS.l0, eqPart_self, Option.bind_some]
      rw [if_pos (by omega), if_pos (by omega), if_pos (by omega)])
    (fun k => by
      simp only [laws_eqPartS.l0]
      rw [if_neg (by omega)]) k hk
  rw [this]
  simp
theorem szPart_ok (a0 : ByteArray) (a1 r : Int) (ha : a0.size ≤ 9223372036854775807) (h0 : 0 ≤ r) (h1 : r ≤ 1048576) : ∃ q, laws_szPart.f a0 a1 r = some q ∧ (q < 0 ∨ 0 ≤ q ∧ q ≤ 1048576 ∧ a0.size ≤ 1048576) := by
  unfold laws_szPart.f
  rw [w64 (n := r - (a0.size : Int)) (by omega) (by omega)]
  by_cases h : r - (a0.size : Int) < 0
  · rw [if_pos h]
    exact ⟨_, rfl, .inl (by omega)⟩
  · rw [if_neg h]
    exact ⟨_, rfl, .inr ⟨by omega, by omega, by omega⟩⟩
theorem szPartS_ok (l : List S39) (hl : l.length ≤ 9223372036854775807) (hs : ∀ x ∈ l, x.f0.size ≤ 9223372036854775807) (k : Nat) (hk : l.length < k) : ∃ q, laws_szPartS.f k l 1048576 = some q ∧ (q < 0 ∨ l.length ≤ 1048576 ∧ ∀ x ∈ l, x.f0.size ≤ 1048576) := by
  unfold laws_szPartS.f
  rw [w64 (n := 1048576 - (l.length : Int)) (by omega) (by omega)]
  by_cases h : 1048576 - (l.length : Int) < 0
  · rw [if_pos h]
    exact ⟨_, rfl, .inl (by omega)⟩
  · rw [if_neg h]
    have key : ∀ (d k i : Nat) (r : Int), i + d = l.length → d < k → 0 ≤ r → r ≤ 1048576 → (∀ x ∈ l.take i, x.f0.size ≤ 1048576) → ∃ q, laws_szPartS.l0 k l r i = some q ∧ (q < 0 ∨ l.length ≤ 1048576 ∧ ∀ x ∈ l, x.f0.size ≤ 1048576) := by
      intro d
      induction d with
      | zero =>
        intro k i r hi hk r0 r1 ht
        obtain ⟨k, rfl⟩ : ∃ m, k = m + 1 := ⟨k - 1, by omega⟩
        simp only [laws_szPartS.l0]
        rw [if_neg (by omega)]
        have : i = l.length := by omega
        subst this
        rw [List.take_length] at ht
        exact ⟨_, rfl, .inr ⟨by omega, ht⟩⟩
      | succ d ih =>
        intro k i r hi hk r0 r1 ht
        obtain ⟨k, rfl⟩ : ∃ m, k = m + 1 := ⟨k - 1, by omega⟩
        have hi2 : i < l.length := by omega
        simp only [laws_szPartS.l0]
        have er : rd_T39 l (i : Int) = l[i] := by simp [rd_T39, List.getD_eq_getElem?_getD, hi2]
        obtain ⟨q, eq1, hq⟩ := szPart_ok (l[i].f0) (l[i].f1) r (hs _ (List.getElem_mem hi2)) r0 r1
        rw [if_pos (by omega), if_pos (by omega), er, eq1]
        simp only [Option.bind_some]
        by_cases h2 : q < 0
        · rw [if_pos h2]
          exact ⟨_, rfl, .inl (by omega)⟩
        · rw [if_neg h2, w64s (n := l.length) (by omega) (by omega) hl]
          obtain ⟨q0, q1, q2⟩ := hq.resolve_left h2
          exact ih k (i + 1) q (by omega) (by omega) q0 q1 (fun x hx => by
            rw [List.take_succ_eq_append_getElem hi2] at hx
            rcases List.mem_append.1 hx with hx | hx
            · exact ht x hx
            · rw [List.mem_singleton] at hx
              rw [hx]
              exact q2)
    exact key l.length k 0 _ (by omega) hk (by omega) (by omega) (fun x hx => by simp at hx)

end Go.Proofs.Ytjabgjlkemfofaa.Lem
