/- Plain lemmas on the printed functions: what they compute; conditions stand in each lemma. -/
import Derived.Test.YtcjbdbbnbhobbaaQx0
import Derived.Test.YtcjbdbbnbhobbaaQx14
import Derived.Test.YtcjbdbbnbhobbaaQx28
import Derived.Test.YtcjbdbbnbhobbaaLembase
import Derived.Test.YtcjbdbbnbhobbaaLemin
import Derived.Test.YtcjbdbbnbhobbaaLemints
import Derived.Test.YtcjbdbbnbhobbaaLemsheetsA
import Derived.Test.YtcjbdbbnbhobbaaLemfewC
namespace Go.Proofs.Ytcjbdbbnbhobbaa.Lem
open Go.RowKit Go.Proofs.Ytcjbdbbnbhobbaa.Q Go.Proofs.YtcjbdbbnbhobbaaW.PrintWords Go.Proofs.YtcjbdbbnbhobbaaW.PrintLast Go.Proofs.YtcjbdbbnbhobbaaW.PrintMore Go.Proofs.Ytcjbdbbnbhobbaa.Lem
set_option linter.unusedVariables false
set_option linter.unusedSimpArgs false
theorem fits_ok {l : List Int} {a : Int} (h : lensOk l a = true) : Fits l a := by
  obtain ⟨⟨h1, h2⟩, h3⟩ := lensOk_iff.mp h
  refine ⟨h2, by omega, fun i => ?_⟩
  simp only [List.getD_eq_getElem?_getD]
  by_cases hi : i < l.length
  · rw [List.getElem?_eq_getElem hi]
    have := h3 _ (List.getElem_mem hi)
    simp only [Option.getD_some]; omega
  · rw [List.getElem?_eq_none (by omega)]; simp only [Option.getD_none]; omega
theorem spec_f_ok {l : List Int} {a : Int} (h : lensOk l a = true) (k : Nat) (hk : l.length < k) : spec_FewestStrips.f k l a = spec_FewestStrips.l0 k l a l.length (List.replicate (2 ^ l.length) 0) (List.replicate (2 ^ l.length) 0) 1 := by
  have hn := (fits_ok h).1
  have hp := pow_small hn
  have hpp := Nat.two_pow_pos l.length
  unfold spec_FewestStrips.f
  rw [lens_spec l a k (by omega) hk, h, shl_pow hn]
  simp only [Option.bind_some, if_true, Int.toNat_natCast]
  rw [if_pos (by omega), if_pos (by omega)]
theorem impl_f_ok {l : List Int} {a : Int} (h : lensOk l a = true) (k : Nat) : impl_FewestStrips.f k l a = impl_FewestStrips.l0 k l a l.length (List.replicate (2 ^ l.length) z46) 1 := by
  have hn := (fits_ok h).1
  have hp := pow_small hn
  have hpp := Nat.two_pow_pos l.length
  unfold impl_FewestStrips.f
  rw [lens_impl l a, h, shl_pow hn]
  simp only [Option.bind_some, if_true, Int.toNat_natCast]
  rw [if_pos (by omega), if_pos (by omega)]

end Go.Proofs.Ytcjbdbbnbhobbaa.Lem
