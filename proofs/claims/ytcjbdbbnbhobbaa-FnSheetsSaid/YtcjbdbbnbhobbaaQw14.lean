/- Helpers of a printed text: a region's steps with their usual proofs, and rows of marks. -/
import Derived.Test.YtcjbdbbnbhobbaaQx0
import Derived.Test.YtcjbdbbnbhobbaaQx4
namespace Go.Proofs.Ytcjbdbbnbhobbaa.Q
open Go.RowKit Go.Proofs.YtcjbdbbnbhobbaaW.PrintWords Go.Proofs.YtcjbdbbnbhobbaaW.PrintLast Go.Proofs.YtcjbdbbnbhobbaaW.PrintMore
attribute [local go_sem] max2_int min2_int max_two min_two max_three min_three max_four min_four   -- for this text's walks alone
set_option linter.unusedVariables false
set_option linter.unusedSimpArgs false

/-- A step of a region that draws, that yields a value; its usual proofs. -/
theorem pz_ {P : Program} {ops : Array Oper} {Q : Exit → Act → World → Prop} {md : Region.Mode} {S : World → Prop} {ds : List Nat} {i : Nat} {N : Option Tmp} {oi : Oper} {v : Value} {fuel : Nat} {l : Array Bool} {a : Act} {w : World} (l' : Array Bool) (hi : ops[i]? = some oi) (hN : oi.dst = N) (hc : anyB md ops l l' i = true) {a' : Act} (h : wpAnyLast P md ops Q S ds fuel l' a' w)
    (hy : Yields P ops oi v a := by exact Or.inl ⟨by rfl, by (intro w'; go_simp; with_reducible rfl)⟩) (ha : a.put N v = a' := by (simp only [Act.put, List.setIfInBounds_toArray, List.set_cons_zero, List.set_cons_succ, i64_w, i32_w]; rfl)) (hQ : ∀ c a w, Q (.panic c) (a.put oi.dst v) w → Q (.panic c) a w := by exact fun _ _ _ h => h) : wpAnyLast P md ops Q S ds (fuel + 1) l a w := pure_ l' hi hN hc hQ hy ha h
/-- The same of a step that is not wanted. -/
theorem pu_ {P : Program} {ops : Array Oper} {Q : Exit → Act → World → Prop} {md : Region.Mode} {S : World → Prop} {ds : List Nat} {i : Nat} {N : Option Tmp} {oi : Oper} {fuel : Nat} {l : Array Bool} {a : Act} {w : World} (l' : Array Bool) (hi : ops[i]? = some oi) (hN : oi.dst = N) (hc : anyB md ops l l' i = true) {a' : Act} (h : wpAnyLast P md ops Q S ds fuel l' a' w)
    (hy : Yields P ops oi undef a := by exact Or.inr ⟨by rfl, rfl⟩) (ha : a.put N undef = a' := by (simp only [Act.put, List.setIfInBounds_toArray, List.set_cons_zero, List.set_cons_succ, i64_w, i32_w]; rfl)) (hQ : ∀ c a w, Q (.panic c) (a.put oi.dst undef) w → Q (.panic c) a w := by exact fun _ _ _ h => h) : wpAnyLast P md ops Q S ds (fuel + 1) l a w := pure_ l' hi hN hc hQ hy ha h
abbrev W0_ : Array Bool := #[false, false, false, false, false, false, false, false, false, false, false, false, false, false]
abbrev W1_ : Array Bool := #[true, false, false, false, false, false, false, false, false, false, false, false, false, false]
abbrev W2_ : Array Bool := #[true, true, false, false, false, false, false, false, false, false, false, false, false, false]
abbrev W3_ : Array Bool := #[true, true, true, false, false, false, false, false, false, false, false, false, false, false]
abbrev W4_ : Array Bool := #[true, true, true, true, false, false, false, false, false, false, false, false, false, false]
abbrev W5_ : Array Bool := #[true, true, true, true, true, false, false, false, false, false, false, false, false, false]
abbrev W6_ : Array Bool := #[true, true, true, true, true, false, true, false, false, false, false, false, false, false]
abbrev W7_ : Array Bool := #[true, true, true, true, true, false, true, true, false, false, false, false, false, false]
abbrev W8_ : Array Bool := #[true, true, true, true, true, false, true, true, true, false, false, false, false, false]
abbrev W9_ : Array Bool := #[true, true, true, true, true, false, true, true, true, false, false, true, false, false]
abbrev W10_ : Array Bool := #[true, true, true, true, true, true, true, true, true, false, false, true, false, false]
abbrev W11_ : Array Bool := #[true, true, true, true, true, true, true, true, true, true, false, true, false, false]
abbrev W12_ : Array Bool := #[true, true, true, true, true, true, true, true, true, true, true, true, false, false]
abbrev W13_ : Array Bool := #[true, true, true, true, true, true, true, true, true, true, true, true, true, false]
abbrev W14_ : Array Bool := #[true, true, true, true, true, true, true, true, true, true, true, true, true, true]
abbrev W15_ : Array Bool := #[true, true, true, true, true, true, false, false, false, false, false, false, false, false]
abbrev W16_ : Array Bool := #[true, true, true, true, true, true, true, false, false, false, false, false, false, false]
abbrev W17_ : Array Bool := #[true, true, true, true, true, true, true, true, false, false, false, false, false, false]
abbrev W18_ : Array Bool := #[true, true, true, true, true, true, true, true, true, false, false, false, false, false]
abbrev W19_ : Array Bool := #[true, true, true, true, true, true, true, true, true, true, false, false, false, false]
abbrev W20_ : Array Bool := #[true, true, true, true, true, true, true, true, true, true, true, false, false, false]
abbrev W21_ : Array Bool := #[false, false, false, false, false, false, false, false, false]
abbrev W22_ : Array Bool := #[true, false, false, false, false, false, false, false, false]
abbrev W23_ : Array Bool := #[true, false, true, false, false, false, false, false, false]
abbrev W24_ : Array Bool := #[true, false, true, true, false, false, false, false, false]
abbrev W25_ : Array Bool := #[true, false, true, true, true, false, false, false, false]
abbrev W26_ : Array Bool := #[true, true, true, true, true, false, false, false, false]
abbrev W27_ : Array Bool := #[true, true, true, true, true, true, false, false, false]
abbrev W28_ : Array Bool := #[true, true, true, true, true, true, true, false, false]
abbrev W29_ : Array Bool := #[true, true, true, true, true, true, true, true, false]
abbrev W30_ : Array Bool := #[true, true, true, true, true, true, true, true, true]
abbrev W31_ : Array Bool := #[false, false, false, false, false, false, false, false, false, false, false, false, false, false, false, false, false, false, false, false, false, false, false, false, false, false, false, false]
abbrev W32_ : Array Bool := #[true, false, false, false, false, false, false, false, false, false, false, false, false, false, false, false, false, false, false, false, false, false, false, false, false, false, false, false]
abbrev W33_ : Array Bool := #[true, false, true, false, false, false, false, false, false, false, false, false, false, false, false, false, false, false, false, false, false, false, false, false, false, false, false, false]
abbrev W34_ : Array Bool := #[true, false, true, true, false, false, false, false, false, false, false, false, false, false, false, false, false, false, false, false, false, false, false, false, false, false, false, false]
abbrev W35_ : Array Bool := #[true, false, true, true, true, false, false, false, false, false, false, false, false, false, false, false, false, false, false, false, false, false, false, false, false, false, false, false]
abbrev W36_ : Array Bool := #[true, false, true, true, true, true, false, false, false, false, false, false, false, false, false, false, false, false, false, false, false, false, false, false, false, false, false, false]
abbrev W37_ : Array Bool := #[true, true, true, true, true, true, false, false, false, false, false, false, false, false, false, false, false, false, false, false, false, false, false, false, false, false, false, false]
abbrev W38_ : Array Bool := #[true, true, true, true, true, true, true, false, false, false, false, false, false, false, false, false, false, false, false, false, false, false, false, false, false, false, false, false]
abbrev W39_ : Array Bool := #[true, true, true, true, true, true, true, true, false, false, false, false, false, false, false, false, false, false, false, false, false, false, false, false, false, false, false, false]
abbrev W40_ : Array Bool := #[true, true, true, true, true, true, true, true, true, false, false, false, false, false, false, false, false, false, false, false, false, false, false, false, false, false, false, false]
abbrev W41_ : Array Bool := #[true, true, true, true, true, true, true, true, true, true, false, false, false, false, false, false, false, false, false, false, false, false, false, false, false, false, false, false]
abbrev W42_ : Array Bool := #[true, true, true, true, true, true, true, true, true, true, true, false, false, false, false, false, false, false, false, false, false, false, false, false, false, false, false, false]
abbrev W43_ : Array Bool := #[true, true, true, true, true, true, true, true, true, true, true, true, false, false, false, false, false, false, false, false, false, false, false, false, false, false, false, false]
abbrev W44_ : Array Bool := #[true, true, true, true, true, true, true, true, true, true, true, true, true, false, false, false, false, false, false, false, false, false, false, false, false, false, false, false]
abbrev W45_ : Array Bool := #[true, true, true, true, true, true, true, true, true, true, true, true, true, true, false, false, false, false, false, false, false, false, false, false, false, false, false, false]
abbrev W46_ : Array Bool := #[true, true, true, true, true, true, true, true, true, true, true, true, true, true, true, false, false, false, false, false, false, false, false, false, false, false, false, false]
abbrev W47_ : Array Bool := #[true, true, true, true, true, true, true, true, true, true, true, true, true, true, true, true, false, false, false, false, false, false, false, false, false, false, false, false]
abbrev W48_ : Array Bool := #[true, true, true, true, true, true, true, true, true, true, true, true, true, true, true, true, true, false, false, false, false, false, false, false, false, false, false, false]
abbrev W49_ : Array Bool := #[true, true, true, true, true, true, true, true, true, true, true, true, true, true, true, true, true, true, false, false, false, false, false, false, false, false, false, false]
abbrev W50_ : Array Bool := #[true, true, true, true, true, true, true, true, true, true, true, true, true, true, true, true, true, true, true, false, false, false, false, false, false, false, false, false]
abbrev W51_ : Array Bool := #[true, true, true, true, true, true, true, true, true, true, true, true, true, true, true, true, true, true, true, true, false, false, false, false, false, false, false, false]
abbrev W52_ : Array Bool := #[true, true, true, true, true, true, true, true, true, true, true, true, true, true, true, true, true, true, true, true, true, false, false, false, false, false, false, false]
abbrev W53_ : Array Bool := #[true, true, true, true, true, true, true, true, true, true, true, true, true, true, true, true, true, true, true, true, true, true, false, false, false, false, false, false]
abbrev W54_ : Array Bool := #[true, true, true, true, true, true, true, true, true, true, true, true, true, true, true, true, true, true, true, true, true, true, true, false, false, false, false, false]
abbrev W55_ : Array Bool := #[true, true, true, true, true, true, true, true, true, true, true, true, true, true, true, true, true, true, true, true, true, true, true, true, false, false, false, false]
abbrev W56_ : Array Bool := #[true, true, true, true, true, true, true, true, true, true, true, true, true, true, true, true, true, true, true, true, true, true, true, true, true, false, false, false]
abbrev W57_ : Array Bool := #[true, true, true, true, true, true, true, true, true, true, true, true, true, true, true, true, true, true, true, true, true, true, true, true, true, true, false, false]
abbrev W58_ : Array Bool := #[true, true, true, true, true, true, true, true, true, true, true, true, true, true, true, true, true, true, true, true, true, true, true, true, true, true, true, false]
abbrev W59_ : Array Bool := #[true, true, true, true, true, true, true, true, true, true, true, true, true, true, true, true, true, true, true, true, true, true, true, true, true, true, true, true]
abbrev W60_ : Array Bool := #[true, true, true, true, true, true, true, true, true, true, false, true, false, false, false, false, false, false, false, false, false, false, false, false, false, false, false, false]
abbrev W61_ : Array Bool := #[true, true, true, true, true, true, true, true, true, true, false, true, true, false, false, false, false, false, false, false, false, false, false, false, false, false, false, false]
abbrev W62_ : Array Bool := #[true, true, true, true, true, true, true, true, true, true, false, true, true, true, false, false, false, false, false, false, false, false, false, false, false, false, false, false]
abbrev W63_ : Array Bool := #[true, true, true, true, true, true, true, true, true, true, false, true, true, true, true, false, false, false, false, false, false, false, false, false, false, false, false, false]
abbrev W64_ : Array Bool := #[true, true, true, true, true, true, true, true, true, true, true, true, true, true, true, true, true, true, true, false, true, false, false, false, false, false, false, false]
abbrev W65_ : Array Bool := #[true, true, true, true, true, true, true, true, true, true, true, true, true, true, true, true, true, true, true, false, true, true, false, false, false, false, false, false]
abbrev W66_ : Array Bool := #[true, true, true, true, true, true, true, true, true, true, true, true, true, true, true, true, true, true, true, false, true, true, true, false, false, false, false, false]
abbrev W67_ : Array Bool := #[true, true, true, true, true, true, true, true, true, true, true, true, true, true, true, true, true, true, true, false, true, true, true, true, false, false, false, false]
abbrev W68_ : Array Bool := #[true, false, false, true, false, false, false, false, false]
abbrev W69_ : Array Bool := #[true, false, false, true, true, false, false, false, false]
abbrev W70_ : Array Bool := #[true, false, false, true, true, true, false, false, false]
abbrev W71_ : Array Bool := #[true, true, false, true, true, true, false, false, false]

end Go.Proofs.Ytcjbdbbnbhobbaa.Q
