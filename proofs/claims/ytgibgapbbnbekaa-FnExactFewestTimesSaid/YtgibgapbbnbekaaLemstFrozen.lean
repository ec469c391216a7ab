/- Plain lemmas on the printed functions: what they compute; conditions stand in each lemma. -/
import Derived.Test.YtgibgapbbnbekaaQx0
import Derived.Test.YtgibgapbbnbekaaQx1
import Derived.Test.YtgibgapbbnbekaaQx3
import Derived.Test.YtgibgapbbnbekaaQx6
import Derived.Test.YtgibgapbbnbekaaQx7
import Derived.Test.YtgibgapbbnbekaaQx8
import Derived.Test.YtgibgapbbnbekaaLembase
namespace Go.Proofs.Ytgibgapbbnbekaa.Lem
open Go.RowKit Go.Proofs.Ytgibgapbbnbekaa.Q Go.Proofs.YtgibgapbbnbekaaW.PrintWords Go.Proofs.YtgibgapbbnbekaaW.PrintLast Go.Proofs.YtgibgapbbnbekaaW.PrintMore Go.Proofs.Ytgibgapbbnbekaa.Lem
set_option linter.unusedVariables false
set_option linter.unusedSimpArgs false
def cvFrozen (x : S23) : S25 := ⟨x.f0, x.f1⟩
theorem toFrozen_ok (a0 a1 : Int) : laws_toFrozen.f a0 a1 = some (a0, a1) := rfl
theorem eqFrozen_self (a0 a1 : Int) : laws_eqFrozen.f a0 a1 a0 a1 = some true := by simp [laws_eqFrozen.f]
theorem rdLFrozen (l : List S23) (i : Nat) : rd_T23 l (i : Int) = l.getD i z23 := by simp [rd_T23]
theorem rdIFrozen (l : List S25) (i : Nat) : rd_T25 l (i : Int) = l.getD i z25 := by simp [rd_T25]
theorem toFrozenS_ok (l : List S23) (k : Nat) (hl : l.length ≤ 1000000000) (hk : l.length < k) : laws_toFrozenS.f k l = some (l.map cvFrozen) := by
  unfold laws_toFrozenS.f
  rw [if_pos (by omega), if_pos (by rw [Int.toNat_natCast]; omega)]
  have := copy_loop (fun k x3 x4 => laws_toFrozenS.l0 k l x3 x4) l.length (by omega) (fun i => cvFrozen (l.getD i z23))
    (fun k i xs hi hx => by
      simp only [laws_toFrozenS.l0, toFrozen_ok, Option.bind_some, rdLFrozen]
      rw [if_pos (by omega), if_pos (by omega), if_pos (by omega)]
      simp [cvFrozen])
    (fun k xs hx => by
      simp only [laws_toFrozenS.l0]
      rw [if_neg (by omega)]) (List.replicate l.length z25) (by simp) k hk
  rw [map_range_getD] at this
  simpa using this
theorem eqFrozenS_self (l : List S25) (k : Nat) (hl : l.length ≤ 1000000000) (hk : l.length < k) : laws_eqFrozenS.f k l l = some true := by
  unfold laws_eqFrozenS.f
  rw [if_pos rfl]
  have := run_all (fun k x5 => laws_eqFrozenS.l0 k l l x5) l.length (by omega) (fun _ => true) false (some true)
    (fun k i hi => by
      simp only [laws_eqFrozenS.l0, eqFrozen_self, Option.bind_some]
      rw [if_pos (by omega), if_pos (by omega), if_pos (by omega)])
    (fun k => by
      simp only [laws_eqFrozenS.l0]
      rw [if_neg (by omega)]) k hk
  rw [this]
  simp
theorem szFrozenS_ok (l : List S23) (hl : l.length ≤ 9223372036854775807) : ∃ q, laws_szFrozenS.f l 1048576 = some q ∧ (q < 0 ∨ (0 ≤ q ∧ l.length ≤ 1048576)) := by
  unfold laws_szFrozenS.f
  rw [w64 (n := 1048576 - (l.length : Int)) (by omega) (by omega)]
  by_cases h : 1048576 - (l.length : Int) < 0
  · rw [if_pos h]
    exact ⟨_, rfl, .inl (by omega)⟩
  · rw [if_neg h]
    exact ⟨_, rfl, .inr ⟨by omega, by omega⟩⟩

end Go.Proofs.Ytgibgapbbnbekaa.Lem
