/- Plain lemmas on the printed functions: what they compute; conditions stand in each lemma. -/
import Derived.Test.YtkgpjndlpjjobaaQx0
import Derived.Test.YtkgpjndlpjjobaaQx1
import Derived.Test.YtkgpjndlpjjobaaQx2
import Derived.Test.YtkgpjndlpjjobaaQx4
import Derived.Test.YtkgpjndlpjjobaaQx5
import Derived.Test.YtkgpjndlpjjobaaLembase
namespace Go.Proofs.Ytkgpjndlpjjobaa.Lem
open Go.RowKit Go.Proofs.Ytkgpjndlpjjobaa.Q Go.Proofs.YtkgpjndlpjjobaaW.PrintWords Go.Proofs.YtkgpjndlpjjobaaW.PrintLast Go.Proofs.YtkgpjndlpjjobaaW.PrintMore Go.Proofs.Ytkgpjndlpjjobaa.Lem
set_option linter.unusedVariables false
set_option linter.unusedSimpArgs false
def cvFlour (x : S47) : S42 := ⟨x.f0, x.f1, x.f2⟩
theorem toFlour_ok (a0 a1 a2 : Int) : laws_toFlour.f a0 a1 a2 = some (a0, a1, a2) := rfl
theorem eqFlour_self (a0 a1 a2 : Int) : laws_eqFlour.f a0 a1 a2 a0 a1 a2 = some true := by simp [laws_eqFlour.f]
theorem rdLFlour (l : List S47) (i : Nat) : rd_T47 l (i : Int) = l.getD i z47 := by simp [rd_T47]
theorem rdIFlour (l : List S42) (i : Nat) : rd_T42 l (i : Int) = l.getD i z42 := by simp [rd_T42]
theorem toFlourS_ok (l : List S47) (k : Nat) (hl : l.length ≤ 1000000000) (hk : l.length < k) : laws_toFlourS.f k l = some (l.map cvFlour) := by
  unfold laws_toFlourS.f
  rw [if_pos (by omega), if_pos (by rw [Int.toNat_natCast]; omega)]
  have := copy_loop (fun k x3 x4 => laws_toFlourS.l0 k l x3 x4) l.length (by omega) (fun i => cvFlour (l.getD i z47))
    (fun k i xs hi hx => by
      simp only [laws_toFlourS.l0, toFlour_ok, Option.bind_some, rdLFlour]
      rw [if_pos (by omega), if_pos (by omega), if_pos (by omega)]
      simp [cvFlour])
    (fun k xs hx => by
      simp only [laws_toFlourS.l0]
      rw [if_neg (by omega)]) (List.replicate l.length z42) (by simp) k hk
  rw [map_range_getD] at this
  simpa using this
theorem eqFlourS_self (l : List S42) (k : Nat) (hl : l.length ≤ 1000000000) (hk : l.length < k) : laws_eqFlourS.f k l l = some true := by
  unfold laws_eqFlourS.f
  rw [if_pos rfl]
  have := run_all (fun k x5 => laws_eqFlourS.l0 k l l x5) l.length (by omega) (fun _ => true) false (some true)
    (fun k i hi => by
      simp only [laws_eqFlourS.l0, eqFlour_self, Option.bind_some]
      rw [if_pos (by omega), if_pos (by omega), if_pos (by omega)])
    (fun k => by
      simp only [laws_eqFlourS.l0]
      rw [if_neg (by omega)]) k hk
  rw [this]
  simp
theorem szFlourS_ok (l : List S47) (hl : l.length ≤ 9223372036854775807) : ∃ q, laws_szFlourS.f l 1048576 = some q ∧ (q < 0 ∨ (0 ≤ q ∧ l.length ≤ 1048576)) := by
  unfold laws_szFlourS.f
  rw [w64 (n := 1048576 - (l.length : Int)) (by omega) (by omega)]
  by_cases h : 1048576 - (l.length : Int) < 0
  · rw [if_pos h]
    exact ⟨_, rfl, .inl (by omega)⟩
  · rw [if_neg h]
    exact ⟨_, rfl, .inr ⟨by omega, by omega⟩⟩

end Go.Proofs.Ytkgpjndlpjjobaa.Lem
