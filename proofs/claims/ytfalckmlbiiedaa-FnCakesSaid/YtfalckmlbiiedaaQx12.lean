/- The functions that the seat's statements reach, as plain Lean functions, and that the program's calls answer what they say; no condition beyond the values read. Written by a program of this session's over the kit's print. -/
import Derived.Test.YtfalckmlbiiedaaQx0
import Derived.Test.YtfalckmlbiiedaaQx1
import Derived.Test.YtfalckmlbiiedaaQx3
import Derived.Test.YtfalckmlbiiedaaQx4
import Derived.Test.YtfalckmlbiiedaaQx6
import Derived.Test.YtfalckmlbiiedaaQx7
import Derived.Test.YtfalckmlbiiedaaQx8
import Derived.Test.YtfalckmlbiiedaaQx10
import Derived.Test.YtfalckmlbiiedaaQx11
namespace Go.Proofs.Ytfalckmlbiiedaa.Q
open Go.RowKit Go.Proofs.YtfalckmlbiiedaaW.PrintWords Go.Proofs.YtfalckmlbiiedaaW.PrintLast Go.Proofs.YtfalckmlbiiedaaW.PrintMore
attribute [local go_sem] max2_int min2_int max_two min_two max_three min_three max_four min_four   -- for this text's walks alone
set_option linter.unusedVariables false
set_option linter.unusedSimpArgs false

/-! ### laws_FnCakes: function 3 -/
mutual
def laws_FnCakes.l0 : Nat → List Int → List Int → List Int → Int → Int → Int → Int → Int → Int → Int → Int → Int → Option (Bool)
  | 0, _, _, _, _, _, _, _, _, _, _, _, _ => none
  | k + 1, x0, x3, x4, x5, x6, x7, x8, x9, x10, x11, x12, x13 => if x13 < x5 then (if 0 ≤ x13 then (if x13 < (x3.length : Int) then (if x13 < (x4.length : Int) then (if x13 < x6 then (laws_FnCakes.l0 k x0 x3 x4 x5 x6 x7 x8 x9 (wrap64 (x10 + (rd x3 x13))) (wrap64 (x11 + (rd x4 x13))) (wrap64 (x12 + (rd x3 x13))) (wrap64 (x13 + 1))) else (laws_FnCakes.l0 k x0 x3 x4 x5 x6 x7 x8 x9 (wrap64 (x10 + (rd x3 x13))) (wrap64 (x11 + (rd x4 x13))) x12 (wrap64 (x13 + 1)))) else (none)) else (none)) else (none)) else (if x6 < 0 then (laws_FnCakes.j1 k x0 x3 x5 x7 x10 true) else (if x6 > x5 then (laws_FnCakes.j1 k x0 x3 x5 x7 x10 true) else (if x7 = (mn x12 (wrap64 (x10 - x12))) then (if x8 < x7 then (laws_FnCakes.j1 k x0 x3 x5 x7 x10 true) else (if (wrap64 (2 * x9)) < x11 then (laws_FnCakes.j1 k x0 x3 x5 x7 x10 true) else (laws_FnCakes.j1 k x0 x3 x5 x7 x10 (decide (x8 > x10))))) else (laws_FnCakes.j1 k x0 x3 x5 x7 x10 true))))
def laws_FnCakes.j1 : Nat → List Int → List Int → Int → Int → Int → Bool → Option (Bool)
  | 0, _, _, _, _, _, _ => none
  | k + 1, x0, x3, x5, x7, x10, x102 => if x102 = true then (some false) else (laws_FnCakes.l1 k x0 x3 x5 x7 x10 0 0)
def laws_FnCakes.l1 : Nat → List Int → List Int → Int → Int → Int → Int → Int → Option (Bool)
  | 0, _, _, _, _, _, _, _ => none
  | k + 1, x0, x3, x5, x7, x10, x14, x15 => if x15 < x5 then (if 0 ≤ x15 then (if x15 < (x3.length : Int) then (if (mn (wrap64 (x14 + (rd x3 x15))) (wrap64 (x10 - (wrap64 (x14 + (rd x3 x15)))))) > x7 then (some false) else (laws_FnCakes.l1 k x0 x3 x5 x7 x10 (wrap64 (x14 + (rd x3 x15))) (wrap64 (x15 + 1)))) else (none)) else (none)) else ((laws_at.f x0 0).bind fun t245 => ((impl_Shares.f k x3 (wrap64 (1 + (Int.tmod t245 4)))).bind fun bt246 => ((impl_BestShares.f k x3 (wrap64 (1 + (Int.tmod t245 4)))).bind fun t250 => (if ((t250 == (-1)) != (decide (x5 < (wrap64 (1 + (Int.tmod t245 4)))))) = true then (laws_FnCakes.j3 k x3 x5 x10 (wrap64 (1 + (Int.tmod t245 4))) bt246.1 bt246.2 t250 true) else (if t250 ≥ 0 then (laws_FnCakes.j3 k x3 x5 x10 (wrap64 (1 + (Int.tmod t245 4))) bt246.1 bt246.2 t250 (bt246.2 != (decide ((wrap64 (t250 * (wrap64 (1 + (Int.tmod t245 4))))) ≥ x10)))) else (laws_FnCakes.j3 k x3 x5 x10 (wrap64 (1 + (Int.tmod t245 4))) bt246.1 bt246.2 t250 (bt246.2 != false)))))))
def laws_FnCakes.j3 : Nat → List Int → Int → Int → Int → List Int → Bool → Int → Bool → Option (Bool)
  | 0, _, _, _, _, _, _, _, _ => none
  | k + 1, x3, x5, x10, x16, x17, x18, x19, x152 => if x152 = true then (some false) else (if x18 = true then (if (x17.length : Int) = (wrap64 (x16 - 1)) then (laws_FnCakes.l2 k x3 x5 x10 x16 x17 x19 0 0) else (some false)) else ((impl_CakeOk.f x3).bind fun t255 => (if t255 = true then ((impl_BestShares.f k x3 1).bind fun t256 => (if t256 = x10 then (some (decide ((wrap64 (x19 * x16)) ≤ x10))) else (some false))) else (some false))))
def laws_FnCakes.l2 : Nat → List Int → Int → Int → Int → List Int → Int → Int → Int → Option (Bool)
  | 0, _, _, _, _, _, _, _, _ => none
  | k + 1, x3, x5, x10, x16, x17, x19, x20, x21 => if x21 < x16 then (if x21 < (wrap64 (x16 - 1)) then (if 0 ≤ x21 then (if x21 < (x17.length : Int) then (laws_FnCakes.j5 k x3 x5 x10 x16 x17 x19 x20 x21 (rd x17 x21)) else (none)) else (none)) else (laws_FnCakes.j5 k x3 x5 x10 x16 x17 x19 x20 x21 x5)) else ((impl_CakeOk.f x3).bind fun t251 => (if t251 = true then ((impl_BestShares.f k x3 1).bind fun t252 => (if t252 = x10 then (some (decide ((wrap64 (x19 * x16)) ≤ x10))) else (some false))) else (some false)))
def laws_FnCakes.j5 : Nat → List Int → Int → Int → Int → List Int → Int → Int → Int → Int → Option (Bool)
  | 0, _, _, _, _, _, _, _, _, _ => none
  | k + 1, x3, x5, x10, x16, x17, x19, x20, x21, x22 => laws_FnCakes.l3 k x3 x5 x10 x16 x17 x19 x20 x21 x22 0 (mx 0 x20)
def laws_FnCakes.l3 : Nat → List Int → Int → Int → Int → List Int → Int → Int → Int → Int → Int → Int → Option (Bool)
  | 0, _, _, _, _, _, _, _, _, _, _, _ => none
  | k + 1, x3, x5, x10, x16, x17, x19, x20, x21, x22, x23, x24 => if x24 < x22 then (if x24 < x5 then (if 0 ≤ x24 then (if x24 < (x3.length : Int) then (laws_FnCakes.l3 k x3 x5 x10 x16 x17 x19 x20 x21 x22 (wrap64 (x23 + (rd x3 x24))) (wrap64 (x24 + 1))) else (none)) else (none)) else (if x22 ≤ x20 then (some false) else (if (wrap64 (x23 * x16)) < x10 then (some false) else (laws_FnCakes.l2 k x3 x5 x10 x16 x17 x19 x22 (wrap64 (x21 + 1)))))) else (if x22 ≤ x20 then (some false) else (if (wrap64 (x23 * x16)) < x10 then (some false) else (laws_FnCakes.l2 k x3 x5 x10 x16 x17 x19 x22 (wrap64 (x21 + 1)))))
end
def laws_FnCakes.f (k : Nat) (l0 : List Int) : Option (Bool) := (laws_big.f l0).bind fun t230 => (if t230 = true then (some true) else ((spec_DrawCakes.f k l0).bind fun bt231 => ((impl_HalfCut.f k bt231.1).bind fun bt237 => ((impl_Chooser.f k bt231.1 bt231.2).bind fun bt239 => (laws_FnCakes.l0 k l0 bt231.1 bt231.2 (bt231.1.length : Int) bt237.1 bt237.2 bt239.1 bt239.2 0 0 0 0)))))
theorem laws_FnCakes.mono_l : ∀ k, (∀ y0 y1 y2 y3 y4 y5 y6 y7 y8 y9 y10 y11, LeO (laws_FnCakes.l0 k y0 y1 y2 y3 y4 y5 y6 y7 y8 y9 y10 y11) (laws_FnCakes.l0 (k + 1) y0 y1 y2 y3 y4 y5 y6 y7 y8 y9 y10 y11)) ∧ (∀ y0 y1 y2 y3 y4 y5, LeO (laws_FnCakes.j1 k y0 y1 y2 y3 y4 y5) (laws_FnCakes.j1 (k + 1) y0 y1 y2 y3 y4 y5)) ∧ (∀ y0 y1 y2 y3 y4 y5 y6, LeO (laws_FnCakes.l1 k y0 y1 y2 y3 y4 y5 y6) (laws_FnCakes.l1 (k + 1) y0 y1 y2 y3 y4 y5 y6)) ∧ (∀ y0 y1 y2 y3 y4 y5 y6 y7, LeO (laws_FnCakes.j3 k y0 y1 y2 y3 y4 y5 y6 y7) (laws_FnCakes.j3 (k + 1) y0 y1 y2 y3 y4 y5 y6 y7)) ∧ (∀ y0 y1 y2 y3 y4 y5 y6 y7, LeO (laws_FnCakes.l2 k y0 y1 y2 y3 y4 y5 y6 y7) (laws_FnCakes.l2 (k + 1) y0 y1 y2 y3 y4 y5 y6 y7)) ∧ (∀ y0 y1 y2 y3 y4 y5 y6 y7 y8, LeO (laws_FnCakes.j5 k y0 y1 y2 y3 y4 y5 y6 y7 y8) (laws_FnCakes.j5 (k + 1) y0 y1 y2 y3 y4 y5 y6 y7 y8)) ∧ (∀ y0 y1 y2 y3 y4 y5 y6 y7 y8 y9 y10, LeO (laws_FnCakes.l3 k y0 y1 y2 y3 y4 y5 y6 y7 y8 y9 y10) (laws_FnCakes.l3 (k + 1) y0 y1 y2 y3 y4 y5 y6 y7 y8 y9 y10))
  | 0 => ⟨fun _ _ _ _ _ _ _ _ _ _ _ _ r h => by simp [laws_FnCakes.l0] at h, fun _ _ _ _ _ _ r h => by simp [laws_FnCakes.j1] at h, fun _ _ _ _ _ _ _ r h => by simp [laws_FnCakes.l1] at h, fun _ _ _ _ _ _ _ _ r h => by simp [laws_FnCakes.j3] at h, fun _ _ _ _ _ _ _ _ r h => by simp [laws_FnCakes.l2] at h, fun _ _ _ _ _ _ _ _ _ r h => by simp [laws_FnCakes.j5] at h, fun _ _ _ _ _ _ _ _ _ _ _ r h => by simp [laws_FnCakes.l3] at h⟩
  | k + 1 => by
    obtain ⟨ih0, ih1, ih2, ih3, ih4, ih5, ih6⟩ := laws_FnCakes.mono_l k
    refine ⟨?_, ?_, ?_, ?_, ?_, ?_, ?_⟩
    · intro y0 y1 y2 y3 y4 y5 y6 y7 y8 y9 y10 y11
      unfold laws_FnCakes.l0
      repeat' first
      | (with_reducible exact ih0 _ _ _ _ _ _ _ _ _ _ _ _)
      | (with_reducible exact ih1 _ _ _ _ _ _)
      | (with_reducible exact ih2 _ _ _ _ _ _ _)
      | (with_reducible exact ih3 _ _ _ _ _ _ _ _)
      | (with_reducible exact ih4 _ _ _ _ _ _ _ _)
      | (with_reducible exact ih5 _ _ _ _ _ _ _ _ _)
      | (with_reducible exact ih6 _ _ _ _ _ _ _ _ _ _ _)
      | (with_reducible exact impl_BestShares.mono _ _ _)
      | (with_reducible exact impl_Chooser.mono _ _ _)
      | (with_reducible exact impl_HalfCut.mono _ _)
      | (with_reducible exact impl_Shares.mono _ _ _)
      | (with_reducible exact spec_DrawCakes.mono _ _)
      | (with_reducible exact LeO.refl _)
      | (with_reducible exact LeO.none _)
      | (with_reducible refine LeO.ite ?_ ?_)
      | (with_reducible refine LeO.bind ?_ (fun _ => ?_))
      | exact ih0 _ _ _ _ _ _ _ _ _ _ _ _
      | exact ih1 _ _ _ _ _ _
      | exact ih2 _ _ _ _ _ _ _
      | exact ih3 _ _ _ _ _ _ _ _
      | exact ih4 _ _ _ _ _ _ _ _
      | exact ih5 _ _ _ _ _ _ _ _ _
      | exact ih6 _ _ _ _ _ _ _ _ _ _ _
      | exact impl_BestShares.mono _ _ _
      | exact impl_Chooser.mono _ _ _
      | exact impl_HalfCut.mono _ _
      | exact impl_Shares.mono _ _ _
      | exact spec_DrawCakes.mono _ _
      | exact LeO.none _
      | refine LeO.ite ?_ ?_
      | refine LeO.bind ?_ (fun _ => ?_)
    · intro y0 y1 y2 y3 y4 y5
      unfold laws_FnCakes.j1
      repeat' first
      | (with_reducible exact ih0 _ _ _ _ _ _ _ _ _ _ _ _)
      | (with_reducible exact ih1 _ _ _ _ _ _)
      | (with_reducible exact ih2 _ _ _ _ _ _ _)
      | (with_reducible exact ih3 _ _ _ _ _ _ _ _)
      | (with_reducible exact ih4 _ _ _ _ _ _ _ _)
      | (with_reducible exact ih5 _ _ _ _ _ _ _ _ _)
      | (with_reducible exact ih6 _ _ _ _ _ _ _ _ _ _ _)
      | (with_reducible exact impl_BestShares.mono _ _ _)
      | (with_reducible exact impl_Chooser.mono _ _ _)
      | (with_reducible exact impl_HalfCut.mono _ _)
      | (with_reducible exact impl_Shares.mono _ _ _)
      | (with_reducible exact spec_DrawCakes.mono _ _)
      | (with_reducible exact LeO.refl _)
      | (with_reducible exact LeO.none _)
      | (with_reducible refine LeO.ite ?_ ?_)
      | (with_reducible refine LeO.bind ?_ (fun _ => ?_))
      | exact ih0 _ _ _ _ _ _ _ _ _ _ _ _
      | exact ih1 _ _ _ _ _ _
      | exact ih2 _ _ _ _ _ _ _
      | exact ih3 _ _ _ _ _ _ _ _
      | exact ih4 _ _ _ _ _ _ _ _
      | exact ih5 _ _ _ _ _ _ _ _ _
      | exact ih6 _ _ _ _ _ _ _ _ _ _ _
      | exact impl_BestShares.mono _ _ _
      | exact impl_Chooser.mono _ _ _
      | exact impl_HalfCut.mono _ _
      | exact impl_Shares.mono _ _ _
      | exact spec_DrawCakes.mono _ _
      | exact LeO.none _
      | refine LeO.ite ?_ ?_
      | refine LeO.bind ?_ (fun _ => ?_)
    · intro y0 y1 y2 y3 y4 y5 y6
      unfold laws_FnCakes.l1
      repeat' first
      | (with_reducible exact ih0 _ _ _ _ _ _ _ _ _ _ _ _)
      | (with_reducible exact ih1 _ _ _ _ _ _)
      | (with_reducible exact ih2 _ _ _ _ _ _ _)
      | (with_reducible exact ih3 _ _ _ _ _ _ _ _)
      | (with_reducible exact ih4 _ _ _ _ _ _ _ _)
      | (with_reducible exact ih5 _ _ _ _ _ _ _ _ _)
      | (with_reducible exact ih6 _ _ _ _ _ _ _ _ _ _ _)
      | (with_reducible exact impl_BestShares.mono _ _ _)
      | (with_reducible exact impl_Chooser.mono _ _ _)
      | (with_reducible exact impl_HalfCut.mono _ _)
      | (with_reducible exact impl_Shares.mono _ _ _)
      | (with_reducible exact spec_DrawCakes.mono _ _)
      | (with_reducible exact LeO.refl _)
      | (with_reducible exact LeO.none _)
      | (with_reducible refine LeO.ite ?_ ?_)
      | (with_reducible refine LeO.bind ?_ (fun _ => ?_))
      | exact ih0 _ _ _ _ _ _ _ _ _ _ _ _
      | exact ih1 _ _ _ _ _ _
      | exact ih2 _ _ _ _ _ _ _
      | exact ih3 _ _ _ _ _ _ _ _
      | exact ih4 _ _ _ _ _ _ _ _
      | exact ih5 _ _ _ _ _ _ _ _ _
      | exact ih6 _ _ _ _ _ _ _ _ _ _ _
      | exact impl_BestShares.mono _ _ _
      | exact impl_Chooser.mono _ _ _
      | exact impl_HalfCut.mono _ _
      | exact impl_Shares.mono _ _ _
      | exact spec_DrawCakes.mono _ _
      | exact LeO.none _
      | refine LeO.ite ?_ ?_
      | refine LeO.bind ?_ (fun _ => ?_)
    · intro y0 y1 y2 y3 y4 y5 y6 y7
      unfold laws_FnCakes.j3
      repeat' first
      | (with_reducible exact ih0 _ _ _ _ _ _ _ _ _ _ _ _)
      | (with_reducible exact ih1 _ _ _ _ _ _)
      | (with_reducible exact ih2 _ _ _ _ _ _ _)
      | (with_reducible exact ih3 _ _ _ _ _ _ _ _)
      | (with_reducible exact ih4 _ _ _ _ _ _ _ _)
      | (with_reducible exact ih5 _ _ _ _ _ _ _ _ _)
      | (with_reducible exact ih6 _ _ _ _ _ _ _ _ _ _ _)
      | (with_reducible exact impl_BestShares.mono _ _ _)
      | (with_reducible exact impl_Chooser.mono _ _ _)
      | (with_reducible exact impl_HalfCut.mono _ _)
      | (with_reducible exact impl_Shares.mono _ _ _)
      | (with_reducible exact spec_DrawCakes.mono _ _)
      | (with_reducible exact LeO.refl _)
      | (with_reducible exact LeO.none _)
      | (with_reducible refine LeO.ite ?_ ?_)
      | (with_reducible refine LeO.bind ?_ (fun _ => ?_))
      | exact ih0 _ _ _ _ _ _ _ _ _ _ _ _
      | exact ih1 _ _ _ _ _ _
      | exact ih2 _ _ _ _ _ _ _
      | exact ih3 _ _ _ _ _ _ _ _
      | exact ih4 _ _ _ _ _ _ _ _
      | exact ih5 _ _ _ _ _ _ _ _ _
      | exact ih6 _ _ _ _ _ _ _ _ _ _ _
      | exact impl_BestShares.mono _ _ _
      | exact impl_Chooser.mono _ _ _
      | exact impl_HalfCut.mono _ _
      | exact impl_Shares.mono _ _ _
      | exact spec_DrawCakes.mono _ _
      | exact LeO.none _
      | refine LeO.ite ?_ ?_
      | refine LeO.bind ?_ (fun _ => ?_)
    · intro y0 y1 y2 y3 y4 y5 y6 y7
      unfold laws_FnCakes.l2
      repeat' first
      | (with_reducible exact ih0 _ _ _ _ _ _ _ _ _ _ _ _)
      | (with_reducible exact ih1 _ _ _ _ _ _)
      | (with_reducible exact ih2 _ _ _ _ _ _ _)
      | (with_reducible exact ih3 _ _ _ _ _ _ _ _)
      | (with_reducible exact ih4 _ _ _ _ _ _ _ _)
      | (with_reducible exact ih5 _ _ _ _ _ _ _ _ _)
      | (with_reducible exact ih6 _ _ _ _ _ _ _ _ _ _ _)
      | (with_reducible exact impl_BestShares.mono _ _ _)
      | (with_reducible exact impl_Chooser.mono _ _ _)
      | (with_reducible exact impl_HalfCut.mono _ _)
      | (with_reducible exact impl_Shares.mono _ _ _)
      | (with_reducible exact spec_DrawCakes.mono _ _)
      | (with_reducible exact LeO.refl _)
      | (with_reducible exact LeO.none _)
      | (with_reducible refine LeO.ite ?_ ?_)
      | (with_reducible refine LeO.bind ?_ (fun _ => ?_))
      | exact ih0 _ _ _ _ _ _ _ _ _ _ _ _
      | exact ih1 _ _ _ _ _ _
      | exact ih2 _ _ _ _ _ _ _
      | exact ih3 _ _ _ _ _ _ _ _
      | exact ih4 _ _ _ _ _ _ _ _
      | exact ih5 _ _ _ _ _ _ _ _ _
      | exact ih6 _ _ _ _ _ _ _ _ _ _ _
      | exact impl_BestShares.mono _ _ _
      | exact impl_Chooser.mono _ _ _
      | exact impl_HalfCut.mono _ _
      | exact impl_Shares.mono _ _ _
      | exact spec_DrawCakes.mono _ _
      | exact LeO.none _
      | refine LeO.ite ?_ ?_
      | refine LeO.bind ?_ (fun _ => ?_)
    · intro y0 y1 y2 y3 y4 y5 y6 y7 y8
      unfold laws_FnCakes.j5
      repeat' first
      | (with_reducible exact ih0 _ _ _ _ _ _ _ _ _ _ _ _)
      | (with_reducible exact ih1 _ _ _ _ _ _)
      | (with_reducible exact ih2 _ _ _ _ _ _ _)
      | (with_reducible exact ih3 _ _ _ _ _ _ _ _)
      | (with_reducible exact ih4 _ _ _ _ _ _ _ _)
      | (with_reducible exact ih5 _ _ _ _ _ _ _ _ _)
      | (with_reducible exact ih6 _ _ _ _ _ _ _ _ _ _ _)
      | (with_reducible exact impl_BestShares.mono _ _ _)
      | (with_reducible exact impl_Chooser.mono _ _ _)
      | (with_reducible exact impl_HalfCut.mono _ _)
      | (with_reducible exact impl_Shares.mono _ _ _)
      | (with_reducible exact spec_DrawCakes.mono _ _)
      | (with_reducible exact LeO.refl _)
      | (with_reducible exact LeO.none _)
      | (with_reducible refine LeO.ite ?_ ?_)
      | (with_reducible refine LeO.bind ?_ (fun _ => ?_))
      | exact ih0 _ _ _ _ _ _ _ _ _ _ _ _
      | exact ih1 _ _ _ _ _ _
      | exact ih2 _ _ _ _ _ _ _
      | exact ih3 _ _ _ _ _ _ _ _
      | exact ih4 _ _ _ _ _ _ _ _
      | exact ih5 _ _ _ _ _ _ _ _ _
      | exact ih6 _ _ _ _ _ _ _ _ _ _ _
      | exact impl_BestShares.mono _ _ _
      | exact impl_Chooser.mono _ _ _
      | exact impl_HalfCut.mono _ _
      | exact impl_Shares.mono _ _ _
      | exact spec_DrawCakes.mono _ _
      | exact LeO.none _
      | refine LeO.ite ?_ ?_
      | refine LeO.bind ?_ (fun _ => ?_)
    · intro y0 y1 y2 y3 y4 y5 y6 y7 y8 y9 y10
      unfold laws_FnCakes.l3
      repeat' first
      | (with_reducible exact ih0 _ _ _ _ _ _ _ _ _ _ _ _)
      | (with_reducible exact ih1 _ _ _ _ _ _)
      | (with_reducible exact ih2 _ _ _ _ _ _ _)
      | (with_reducible exact ih3 _ _ _ _ _ _ _ _)
      | (with_reducible exact ih4 _ _ _ _ _ _ _ _)
      | (with_reducible exact ih5 _ _ _ _ _ _ _ _ _)
      | (with_reducible exact ih6 _ _ _ _ _ _ _ _ _ _ _)
      | (with_reducible exact impl_BestShares.mono _ _ _)
      | (with_reducible exact impl_Chooser.mono _ _ _)
      | (with_reducible exact impl_HalfCut.mono _ _)
      | (with_reducible exact impl_Shares.mono _ _ _)
      | (with_reducible exact spec_DrawCakes.mono _ _)
      | (with_reducible exact LeO.refl _)
      | (with_reducible exact LeO.none _)
      | (with_reducible refine LeO.ite ?_ ?_)
      | (with_reducible refine LeO.bind ?_ (fun _ => ?_))
      | exact ih0 _ _ _ _ _ _ _ _ _ _ _ _
      | exact ih1 _ _ _ _ _ _
      | exact ih2 _ _ _ _ _ _ _
      | exact ih3 _ _ _ _ _ _ _ _
      | exact ih4 _ _ _ _ _ _ _ _
      | exact ih5 _ _ _ _ _ _ _ _ _
      | exact ih6 _ _ _ _ _ _ _ _ _ _ _
      | exact impl_BestShares.mono _ _ _
      | exact impl_Chooser.mono _ _ _
      | exact impl_HalfCut.mono _ _
      | exact impl_Shares.mono _ _ _
      | exact spec_DrawCakes.mono _ _
      | exact LeO.none _
      | refine LeO.ite ?_ ?_
      | refine LeO.bind ?_ (fun _ => ?_)
theorem laws_FnCakes.mono : ∀ a0 k, LeO (laws_FnCakes.f k a0) (laws_FnCakes.f (k + 1) a0) := by
  intro a0 k
  obtain ⟨ih0, ih1, ih2, ih3, ih4, ih5, ih6⟩ := laws_FnCakes.mono_l k
  unfold laws_FnCakes.f
  repeat' first
      | (with_reducible exact ih0 _ _ _ _ _ _ _ _ _ _ _ _)
      | (with_reducible exact ih1 _ _ _ _ _ _)
      | (with_reducible exact ih2 _ _ _ _ _ _ _)
      | (with_reducible exact ih3 _ _ _ _ _ _ _ _)
      | (with_reducible exact ih4 _ _ _ _ _ _ _ _)
      | (with_reducible exact ih5 _ _ _ _ _ _ _ _ _)
      | (with_reducible exact ih6 _ _ _ _ _ _ _ _ _ _ _)
      | (with_reducible exact impl_BestShares.mono _ _ _)
      | (with_reducible exact impl_Chooser.mono _ _ _)
      | (with_reducible exact impl_HalfCut.mono _ _)
      | (with_reducible exact impl_Shares.mono _ _ _)
      | (with_reducible exact spec_DrawCakes.mono _ _)
      | (with_reducible exact LeO.refl _)
      | (with_reducible exact LeO.none _)
      | (with_reducible refine LeO.ite ?_ ?_)
      | (with_reducible refine LeO.bind ?_ (fun _ => ?_))
      | exact ih0 _ _ _ _ _ _ _ _ _ _ _ _
      | exact ih1 _ _ _ _ _ _
      | exact ih2 _ _ _ _ _ _ _
      | exact ih3 _ _ _ _ _ _ _ _
      | exact ih4 _ _ _ _ _ _ _ _
      | exact ih5 _ _ _ _ _ _ _ _ _
      | exact ih6 _ _ _ _ _ _ _ _ _ _ _
      | exact impl_BestShares.mono _ _ _
      | exact impl_Chooser.mono _ _ _
      | exact impl_HalfCut.mono _ _
      | exact impl_Shares.mono _ _ _
      | exact spec_DrawCakes.mono _ _
      | exact LeO.none _
      | refine LeO.ite ?_ ?_
      | refine LeO.bind ?_ (fun _ => ?_)
set_option maxHeartbeats 8000000 in
set_option maxRecDepth 100000 in
theorem laws_FnCakes.calls (k : Nat) (A0 : Option Addr) (c0 : Nat) (l0 : List Int) (r : Bool) (w : World) (hr0 : Kd.C (Kd.int .u8) w A0 l0.length l0) (hc0 : l0.length ≤ c0) (hr_ : r = true) (h : laws_FnCakes.f k l0 = some r) :
    Calls Try.prog 3 #[.slice A0 l0.length c0] w fun e w' => e = .returned (.bool r) ∧ Below w.heap.size w w' := by
  have HR_ := Aside0.mk hr_
  clear hr_
  have HR0 := Aside0.mk hr0
  have HC0 := Aside0.mk hc0
  clear hr0 hc0
  have HB := Aside0.mk (Below.refl w.heap.size w)
  have H : ((laws_big.f l0).bind fun t230 => (if t230 = true then (some true) else ((spec_DrawCakes.f k l0).bind fun bt231 => ((impl_HalfCut.f k bt231.1).bind fun bt237 => ((impl_Chooser.f k bt231.1 bt231.2).bind fun bt239 => (laws_FnCakes.l0 k l0 bt231.1 bt231.2 (bt231.1.length : Int) bt237.1 bt237.2 bt239.1 bt239.2 0 0 0 0)))))) = some r := h
  clear h
  replace H := Option.bind_eq_some_iff.mp H
  obtain ⟨t230, A20, H⟩ := H
  replace H : (if t230 = true then (some true) else ((spec_DrawCakes.f k l0).bind fun bt231 => ((impl_HalfCut.f k bt231.1).bind fun bt237 => ((impl_Chooser.f k bt231.1 bt231.2).bind fun bt239 => (laws_FnCakes.l0 k l0 bt231.1 bt231.2 (bt231.1.length : Int) bt237.1 bt237.2 bt239.1 bt239.2 0 0 0 0))))) = some r := H
  have A2 := Aside0.mk A20
  clear A20
  by_cases c3 : t230 = true
  · subst c3
    have H1 : (some true) = some r := by rw [if_pos rfl] at H; exact H
    clear H
    have H := H1
    clear H1
    obtain rfl := Option.some.inj H
    go_enter Try.func3, Try.ntmps3
    go_wp2_with (first | ((with_reducible refine gate_callee (f := 9) rfl ?_); refine goesL_ (some 26) rfl rfl Try.func9 (by kernel_rfl) rfl #[.slice A0 l0.length c0] rfl (by (try simp only [List.map_toArray, List.map_cons, List.map_nil]); first | done | rfl | (simp only [List.length_drop, List.length_take]; rfl)) ?_; (with_reducible refine (laws_big.calls _ _ l0 true _ ?side1 ?side2 A2.out).mono ?_); (case side1 => repeat (first | exact HR0.out | (with_reducible refine Kd.C_alloc ?_ _) | (with_reducible refine Kd.C_drewN ?_ _) | (with_reducible refine Kd.C_drew ?_))); (case side2 => exact HC0.out); rintro e w' ⟨rfl, ⟨nd, rfl⟩⟩; refine ⟨_, rfl, ?_⟩))
    go_ret
    exact ⟨by first | rfl | (simp [errW_none, errW_some] <;> rfl) | (simp [*, errW_none, errW_some] <;> rfl), by repeat (first | (with_reducible first | exact HB.out | apply below_alloc | apply pw_below_drewN | apply below_drew1) | exact HB.out)⟩
  · replace c3 := Bool.eq_false_iff.mpr c3
    subst c3
    have H1 : ((spec_DrawCakes.f k l0).bind fun bt231 => ((impl_HalfCut.f k bt231.1).bind fun bt237 => ((impl_Chooser.f k bt231.1 bt231.2).bind fun bt239 => (laws_FnCakes.l0 k l0 bt231.1 bt231.2 (bt231.1.length : Int) bt237.1 bt237.2 bt239.1 bt239.2 0 0 0 0)))) = some r := by rw [if_neg (show ¬ (false = true) by decide)] at H; exact H
    clear H
    have H := H1
    clear H1
    replace H := Option.bind_eq_some_iff.mp H
    obtain ⟨⟨t231, t232⟩, A40, H⟩ := H
    replace H : ((impl_HalfCut.f k t231).bind fun bt237 => ((impl_Chooser.f k t231 t232).bind fun bt239 => (laws_FnCakes.l0 k l0 t231 t232 (t231.length : Int) bt237.1 bt237.2 bt239.1 bt239.2 0 0 0 0))) = some r := H
    have A4 := Aside0.mk A40
    clear A40
    replace H := Option.bind_eq_some_iff.mp H
    obtain ⟨⟨t237, t238⟩, A50, H⟩ := H
    replace H : ((impl_Chooser.f k t231 t232).bind fun bt239 => (laws_FnCakes.l0 k l0 t231 t232 (t231.length : Int) t237 t238 bt239.1 bt239.2 0 0 0 0)) = some r := H
    have A5 := Aside0.mk A50
    clear A50
    replace H := Option.bind_eq_some_iff.mp H
    obtain ⟨⟨t239, t240⟩, A60, H⟩ := H
    replace H : (laws_FnCakes.l0 k l0 t231 t232 (t231.length : Int) t237 t238 t239 t240 0 0 0 0) = some r := H
    have A6 := Aside0.mk A60
    clear A60
    have H' := Aside0.mk H
    clear H
    go_enter Try.func3, Try.ntmps3
    go_wp2_with (first | ((with_reducible refine gate_callee (f := 9) rfl ?_); refine goesL_ (some 26) rfl rfl Try.func9 (by kernel_rfl) rfl #[.slice A0 l0.length c0] rfl (by (try simp only [List.map_toArray, List.map_cons, List.map_nil]); first | done | rfl | (simp only [List.length_drop, List.length_take]; rfl)) ?_; (with_reducible refine (laws_big.calls _ _ l0 false _ ?side1 ?side2 A2.out).mono ?_); (case side1 => repeat (first | exact HR0.out | (with_reducible refine Kd.C_alloc ?_ _) | (with_reducible refine Kd.C_drewN ?_ _) | (with_reducible refine Kd.C_drew ?_))); (case side2 => exact HC0.out); rintro e w' ⟨rfl, ⟨nd, rfl⟩⟩; refine ⟨_, rfl, ?_⟩) | ((with_reducible refine gate_callee (f := 10) rfl ?_); refine goesL_ (some 29) rfl rfl Try.func10 (by kernel_rfl) rfl #[.slice A0 l0.length c0] rfl (by (try simp only [List.map_toArray, List.map_cons, List.map_nil]); first | done | rfl | (simp only [List.length_drop, List.length_take]; rfl)) ?_; (with_reducible refine (spec_DrawCakes.calls k _ _ l0 t231 t232 _ ?side1 ?side2 A4.out).mono ?_); (case side1 => repeat (first | exact HR0.out | (with_reducible refine Kd.C_alloc ?_ _) | (with_reducible refine Kd.C_drewN ?_ _) | (with_reducible refine Kd.C_drew ?_))); (case side2 => exact HC0.out); rintro e w7 ⟨v233, v235, rfl, ho0, ho1, hb⟩; refine ⟨_, rfl, ?_⟩; have n0_ := Aside0.mk (Kd.R_lower ho0 (below_size (by repeat (first | (with_reducible first | exact HB.out | apply below_alloc | apply pw_below_drewN | apply below_drew1) | exact HB.out)))); have n1_ := Aside0.mk (Kd.R_lower ho1 (below_size (by repeat (first | (with_reducible first | exact HB.out | apply below_alloc | apply pw_below_drewN | apply below_drew1) | exact HB.out)))); have n2_ := Aside0.mk (below_step (by repeat (first | (with_reducible first | exact HB.out | apply below_alloc | apply pw_below_drewN | apply below_drew1) | exact HB.out)) hb); clear HB; have HO234 := n0_; have HO236 := n1_; have HB := n2_; clear n0_ n1_ n2_; (try clear hb); (try clear hb2); (try clear hk); (try clear hi); (try clear ho0); (try clear ho1); obtain ⟨Ao8, co8, eo8⟩ := Kd.R_slice HO234.out; subst eo8) | ((with_reducible refine gate_callee (f := 11) rfl ?_); refine goesL_ (some 36) rfl rfl Try.func11 (by kernel_rfl) rfl #[.slice Ao8 t231.length co8] rfl (by (try simp only [List.map_toArray, List.map_cons, List.map_nil]); first | done | rfl | (simp only [List.length_drop, List.length_take]; rfl)) ?_; (with_reducible refine (impl_HalfCut.calls k _ _ t231 t237 t238 _ ?side1 ?side2 A5.out).mono ?_); (case side1 => repeat (first | exact (Kd.R_reads' HO234.out).2.2 | (with_reducible refine Kd.C_alloc ?_ _) | (with_reducible refine Kd.C_drewN ?_ _) | (with_reducible refine Kd.C_drew ?_))); (case side2 => exact (Kd.R_reads' HO234.out).2.1); rintro e w9 ⟨rfl, hb⟩; refine ⟨_, rfl, ?_⟩; have n0_ := Aside0.mk (Kd.R_below (by (with_reducible repeat (first | apply Kd.R_alloc | apply Kd.R_drewN | apply Kd.R_drew)); exact HO234.out) hb); have n1_ := Aside0.mk (Kd.R_below (by (with_reducible repeat (first | apply Kd.R_alloc | apply Kd.R_drewN | apply Kd.R_drew)); exact HO236.out) hb); have n2_ := Aside0.mk (below_step (by repeat (first | (with_reducible first | exact HB.out | apply below_alloc | apply pw_below_drewN | apply below_drew1) | exact HB.out)) hb); clear HO234; clear HO236; clear HB; have HO234 := n0_; have HO236 := n1_; have HB := n2_; clear n0_ n1_ n2_; (try clear hb); (try clear hb2); (try clear hk); (try clear hi); obtain ⟨Ao10, co10, eo10⟩ := Kd.R_slice HO236.out; subst eo10) | ((with_reducible refine gate_callee (f := 12) rfl ?_); refine goesL_ (some 42) rfl rfl Try.func12 (by kernel_rfl) rfl #[.slice Ao8 t231.length co8, .slice Ao10 t232.length co10] rfl (by (try simp only [List.map_toArray, List.map_cons, List.map_nil]); first | done | rfl | (simp only [List.length_drop, List.length_take]; rfl)) ?_; (with_reducible refine (impl_Chooser.calls k _ _ t231 _ _ t232 t239 t240 _ ?side1 ?side2 ?side3 ?side4 A6.out).mono ?_); (case side1 => repeat (first | exact (Kd.R_reads' HO234.out).2.2 | (with_reducible refine Kd.C_alloc ?_ _) | (with_reducible refine Kd.C_drewN ?_ _) | (with_reducible refine Kd.C_drew ?_))); (case side2 => exact (Kd.R_reads' HO234.out).2.1); (case side3 => repeat (first | exact (Kd.R_reads' HO236.out).2.2 | (with_reducible refine Kd.C_alloc ?_ _) | (with_reducible refine Kd.C_drewN ?_ _) | (with_reducible refine Kd.C_drew ?_))); (case side4 => exact (Kd.R_reads' HO236.out).2.1); rintro e w11 ⟨rfl, hb⟩; refine ⟨_, rfl, ?_⟩; have n0_ := Aside0.mk (Kd.R_below (by (with_reducible repeat (first | apply Kd.R_alloc | apply Kd.R_drewN | apply Kd.R_drew)); exact HO234.out) hb); have n1_ := Aside0.mk (Kd.R_below (by (with_reducible repeat (first | apply Kd.R_alloc | apply Kd.R_drewN | apply Kd.R_drew)); exact HO236.out) hb); have n2_ := Aside0.mk (below_step (by repeat (first | (with_reducible first | exact HB.out | apply below_alloc | apply pw_below_drewN | apply below_drew1) | exact HB.out)) hb); clear HO234; clear HO236; clear HB; have HO234 := n0_; have HO236 := n1_; have HB := n2_; clear n0_ n1_ n2_; (try clear hb); (try clear hb2); (try clear hk); (try clear hi)))
    go_loopg [10, 11, 12, 13] k (fun kq v10 v11 v12 v13 w' => ∃ (x10_1 : Int) (x11_1 : Int) (x12_1 : Int) (x13_1 : Int), v10 = .int .i64 x10_1 ∧ v11 = .int .i64 x11_1 ∧ v12 = .int .i64 x12_1 ∧ v13 = .int .i64 x13_1 ∧ Aside0 (laws_FnCakes.l0 kq l0 t231 t232 (t231.length : Int) t237 t238 t239 t240 x10_1 x11_1 x12_1 x13_1 = some r) ∧ Aside0 (kq ≤ k) ∧ Aside0 (Kd.R (Kd.int .i64) 3 w' w.heap.size (fun k_ => some k_ ≠ ((.slice Ao10 t232.length co10) : Value).ownBlock) (.slice Ao8 t231.length co8) t231) ∧ Aside0 (Kd.R (Kd.int .i64) 3 w' w.heap.size (fun k_ => some k_ ≠ ((.slice Ao8 t231.length co8) : Value).ownBlock) (.slice Ao10 t232.length co10) t232) ∧ Aside0 (Below w.heap.size w w'))
    case atStart => exact ⟨(0), (0), (0), (0), (by first | rfl | (simp; done) | (simp [*]; done)), (by first | rfl | (simp; done) | (simp [*]; done)), (by first | rfl | (simp; done) | (simp [*]; done)), (by first | rfl | (simp; done) | (simp [*]; done)), H', ⟨Nat.le_refl _⟩, ⟨by (with_reducible repeat (first | apply Kd.R_alloc | apply Kd.R_drewN | apply Kd.R_drew)); exact HO234.out⟩, ⟨by (with_reducible repeat (first | apply Kd.R_alloc | apply Kd.R_drewN | apply Kd.R_drew)); exact HO236.out⟩, ⟨by repeat (first | (with_reducible first | exact HB.out | apply below_alloc | apply pw_below_drewN | apply below_drew1) | exact HB.out)⟩⟩
    case round =>
      clear H'
      try clear c1
      try clear p2
      try clear c3
      try clear c9
      try clear c10
      try clear c11
      obtain ⟨x10_1, x11_1, x12_1, x13_1, rfl, rfl, rfl, rfl, HA, HK1, HO_3, HO_4, HB⟩ := hrel
      cases gk with
      | zero => exact absurd HA.out (by simp [laws_FnCakes.l0])
      | succ k1 =>
        have H := HA.out
        clear HA
        simp only [laws_FnCakes.l0] at H
        by_cases c12 : x13_1 < (t231.length : Int)
        · rw [if_pos c12] at H
          have c12b0 : decide (x13_1 < (t231.length : Int)) = true := decide_eq_true c12
          clear c12
          by_cases c13 : 0 ≤ x13_1
          · rw [if_pos c13] at H
            have c13b0 : decide (0 ≤ x13_1) = true := decide_eq_true c13
            clear c13
            by_cases c14 : x13_1 < (t231.length : Int)
            · rw [if_pos c14] at H
              have c14b0 : decide (x13_1 < (t231.length : Int)) = true := decide_eq_true c14
              clear c14
              by_cases c15 : x13_1 < (t232.length : Int)
              · rw [if_pos c15] at H
                have c15b0 : decide (x13_1 < (t232.length : Int)) = true := decide_eq_true c15
                clear c15
                by_cases c16 : x13_1 < t237
                · rw [if_pos c16] at H
                  have c16b0 : decide (x13_1 < t237) = true := decide_eq_true c16
                  clear c16
                  have H' := Aside0.mk H
                  clear H
                  have p241 : 0 ≤ (x13_1 : Int) := of_decide_eq_true (by first | (with_reducible assumption) | assumption)
                  have q241 : x13_1 < (t231.length : Int) := of_decide_eq_true (by first | (with_reducible assumption) | assumption)
                  obtain ⟨ad241, e241, hx241_0⟩ := Kd.at_int (Kd.R_reads' HO_3.out).2.2 x13_1 p241 q241
                  cases e241
                  replace p241 := eq_true p241
                  replace q241 := eq_true q241
                  have p242 : 0 ≤ (x13_1 : Int) := of_decide_eq_true (by first | (with_reducible assumption) | assumption)
                  have q242 : x13_1 < (t232.length : Int) := of_decide_eq_true (by first | (with_reducible assumption) | assumption)
                  obtain ⟨ad242, e242, hx242_0⟩ := Kd.at_int (Kd.R_reads' HO_4.out).2.2 x13_1 p242 q242
                  cases e242
                  replace p242 := eq_true p242
                  replace q242 := eq_true q242
                  have p243 : 0 ≤ (x13_1 : Int) := of_decide_eq_true (by first | (with_reducible assumption) | assumption)
                  have q243 : x13_1 < (t231.length : Int) := of_decide_eq_true (by first | (with_reducible assumption) | assumption)
                  obtain ⟨ad243, e243, hx243_0⟩ := Kd.at_int (Kd.R_reads' HO_3.out).2.2 x13_1 p243 q243
                  obtain rfl : ad241 = ad243 := (by injection e243)
                  replace p243 := eq_true p243
                  replace q243 := eq_true q243
                  go_wp2
                  go_roundg k1
                  case measure => have := HK1.out; omega
                  case rel => exact ⟨(wrap64 (x10_1 + (rd t231 x13_1))), (wrap64 (x11_1 + (rd t232 x13_1))), (wrap64 (x12_1 + (rd t231 x13_1))), (wrap64 (x13_1 + 1)), (by first | rfl | (simp; done) | (simp [*]; done)), (by first | rfl | (simp; done) | (simp [*]; done)), (by first | rfl | (simp; done) | (simp [*]; done)), (by first | rfl | (simp; done) | (simp [*]; done)), H', ⟨by have := HK1.out; omega⟩, ⟨by (with_reducible repeat (first | apply Kd.R_alloc | apply Kd.R_drewN | apply Kd.R_drew)); exact HO_3.out⟩, ⟨by (with_reducible repeat (first | apply Kd.R_alloc | apply Kd.R_drewN | apply Kd.R_drew)); exact HO_4.out⟩, ⟨by repeat (first | (with_reducible first | exact HB.out | apply below_alloc | apply pw_below_drewN | apply below_drew1) | exact HB.out)⟩⟩
                · rw [if_neg c16] at H
                  have c16b0 : decide (x13_1 < t237) = false := decide_eq_false c16
                  clear c16
                  have H' := Aside0.mk H
                  clear H
                  have p241 : 0 ≤ (x13_1 : Int) := of_decide_eq_true (by first | (with_reducible assumption) | assumption)
                  have q241 : x13_1 < (t231.length : Int) := of_decide_eq_true (by first | (with_reducible assumption) | assumption)
                  obtain ⟨ad241, e241, hx241_0⟩ := Kd.at_int (Kd.R_reads' HO_3.out).2.2 x13_1 p241 q241
                  cases e241
                  replace p241 := eq_true p241
                  replace q241 := eq_true q241
                  have p242 : 0 ≤ (x13_1 : Int) := of_decide_eq_true (by first | (with_reducible assumption) | assumption)
                  have q242 : x13_1 < (t232.length : Int) := of_decide_eq_true (by first | (with_reducible assumption) | assumption)
                  obtain ⟨ad242, e242, hx242_0⟩ := Kd.at_int (Kd.R_reads' HO_4.out).2.2 x13_1 p242 q242
                  cases e242
                  replace p242 := eq_true p242
                  replace q242 := eq_true q242
                  go_wp2
                  go_roundg k1
                  case measure => have := HK1.out; omega
                  case rel => exact ⟨(wrap64 (x10_1 + (rd t231 x13_1))), (wrap64 (x11_1 + (rd t232 x13_1))), (x12_1), (wrap64 (x13_1 + 1)), (by first | rfl | (simp; done) | (simp [*]; done)), (by first | rfl | (simp; done) | (simp [*]; done)), (by first | rfl | (simp; done) | (simp [*]; done)), (by first | rfl | (simp; done) | (simp [*]; done)), H', ⟨by have := HK1.out; omega⟩, ⟨by (with_reducible repeat (first | apply Kd.R_alloc | apply Kd.R_drewN | apply Kd.R_drew)); exact HO_3.out⟩, ⟨by (with_reducible repeat (first | apply Kd.R_alloc | apply Kd.R_drewN | apply Kd.R_drew)); exact HO_4.out⟩, ⟨by repeat (first | (with_reducible first | exact HB.out | apply below_alloc | apply pw_below_drewN | apply below_drew1) | exact HB.out)⟩⟩
              · rw [if_neg c15] at H
                exact absurd H (by simp)
            · rw [if_neg c14] at H
              exact absurd H (by simp)
          · rw [if_neg c13] at H
            exact absurd H (by simp)
        · rw [if_neg c12] at H
          have c12b0 : decide (x13_1 < (t231.length : Int)) = false := decide_eq_false c12
          clear c12
          have HC17 := Aside0.mk H
          clear H
          go_upto_region 17 with (fail)
          go_cut [102] (fun v102 wc => ∃ (kq : Nat) (x102_16 : Bool), v102 = .bool x102_16 ∧ Aside0 (laws_FnCakes.j1 kq l0 t231 (t231.length : Int) t238 x10_1 x102_16 = some r) ∧ Aside0 (kq ≤ k1) ∧ Aside0 (Kd.R (Kd.int .i64) 3 wc w.heap.size (fun _ => True) (.slice Ao8 t231.length co8) t231) ∧ Aside0 (Below w.heap.size w wc))
          case first =>
            have H := HC17.out
            clear HC17
            by_cases c18 : t237 < 0
            · rw [if_pos c18] at H
              have c18b0 : decide (t237 < 0) = true := decide_eq_true c18
              clear c18
              (first | rw [c18b0] | (simp only [i64_w, i32_w]; rw [c18b0]) | skip)
              have H' := Aside0.mk H
              clear H
              go_wp2
              go_meet
              case rel => exact ⟨_, (true), (by first | rfl | (simp; done) | (simp [*]; done)), H', ⟨by have := HK1.out; first | omega | exact Nat.le_refl _⟩, ⟨by (with_reducible repeat (first | apply Kd.R_alloc | apply Kd.R_drewN | apply Kd.R_drew)); exact Kd.R_mono HO_3.out (fun _ hk => trivial)⟩, ⟨by repeat (first | (with_reducible first | exact HB.out | apply below_alloc | apply pw_below_drewN | apply below_drew1) | exact HB.out)⟩⟩
            · rw [if_neg c18] at H
              have c18b0 : decide (t237 < 0) = false := decide_eq_false c18
              clear c18
              (first | rw [c18b0] | (simp only [i64_w, i32_w]; rw [c18b0]) | skip)
              by_cases c19 : t237 > (t231.length : Int)
              · rw [if_pos c19] at H
                have c19b0 : decide ((t231.length : Int) < t237) = true := decide_eq_true c19
                clear c19
                have H' := Aside0.mk H
                clear H
                go_wp2
                go_meet
                case rel => exact ⟨_, (true), (by first | rfl | (simp; done) | (simp [*]; done)), H', ⟨by have := HK1.out; first | omega | exact Nat.le_refl _⟩, ⟨by (with_reducible repeat (first | apply Kd.R_alloc | apply Kd.R_drewN | apply Kd.R_drew)); exact Kd.R_mono HO_3.out (fun _ hk => trivial)⟩, ⟨by repeat (first | (with_reducible first | exact HB.out | apply below_alloc | apply pw_below_drewN | apply below_drew1) | exact HB.out)⟩⟩
              · rw [if_neg c19] at H
                have c19b0 : decide ((t231.length : Int) < t237) = false := decide_eq_false c19
                clear c19
                obtain ⟨ji20, hji20⟩ : ∃ j_ : Int, (mn x12_1 (wrap64 (x10_1 - x12_1))) = j_ := ⟨_, rfl⟩
                replace H : (if t238 = (ji20) then (if t239 < t238 then (laws_FnCakes.j1 k1 l0 t231 (t231.length : Int) t238 x10_1 true) else (if (wrap64 (2 * t240)) < x11_1 then (laws_FnCakes.j1 k1 l0 t231 (t231.length : Int) t238 x10_1 true) else (laws_FnCakes.j1 k1 l0 t231 (t231.length : Int) t238 x10_1 (decide (t239 > x10_1))))) else (laws_FnCakes.j1 k1 l0 t231 (t231.length : Int) t238 x10_1 true)) = some r := by first | (rw [hji20] at H; exact H) | (simp only [hji20] at H ⊢; exact H)
                have hji20_ : (if (wrap64 (x10_1 - x12_1)) < x12_1 then (wrap64 (x10_1 - x12_1)) else x12_1) = ji20 := hji20
                by_cases c21 : t238 = (ji20)
                · rw [if_pos c21] at H
                  have c21b0 : (t238 == (ji20)) = true := beq_iff_eq.mpr c21
                  have c21b1 : (t238 != (ji20)) = false := bne_eq_false_iff_eq.mpr c21
                  clear c21
                  by_cases c22 : t239 < t238
                  · rw [if_pos c22] at H
                    have c22b0 : decide (t239 < t238) = true := decide_eq_true c22
                    clear c22
                    have H' := Aside0.mk H
                    clear H
                    go_wp2
                    go_meet
                    case rel => exact ⟨_, (true), (by first | rfl | (simp; done) | (simp [*]; done)), H', ⟨by have := HK1.out; first | omega | exact Nat.le_refl _⟩, ⟨by (with_reducible repeat (first | apply Kd.R_alloc | apply Kd.R_drewN | apply Kd.R_drew)); exact Kd.R_mono HO_3.out (fun _ hk => trivial)⟩, ⟨by repeat (first | (with_reducible first | exact HB.out | apply below_alloc | apply pw_below_drewN | apply below_drew1) | exact HB.out)⟩⟩
                  · rw [if_neg c22] at H
                    have c22b0 : decide (t239 < t238) = false := decide_eq_false c22
                    clear c22
                    by_cases c23 : (wrap64 (2 * t240)) < x11_1
                    · rw [if_pos c23] at H
                      have c23b0 : decide ((wrap64 (2 * t240)) < x11_1) = true := decide_eq_true c23
                      clear c23
                      have H' := Aside0.mk H
                      clear H
                      go_wp2
                      go_meet
                      case rel => exact ⟨_, (true), (by first | rfl | (simp; done) | (simp [*]; done)), H', ⟨by have := HK1.out; first | omega | exact Nat.le_refl _⟩, ⟨by (with_reducible repeat (first | apply Kd.R_alloc | apply Kd.R_drewN | apply Kd.R_drew)); exact Kd.R_mono HO_3.out (fun _ hk => trivial)⟩, ⟨by repeat (first | (with_reducible first | exact HB.out | apply below_alloc | apply pw_below_drewN | apply below_drew1) | exact HB.out)⟩⟩
                    · rw [if_neg c23] at H
                      have c23b0 : decide ((wrap64 (2 * t240)) < x11_1) = false := decide_eq_false c23
                      clear c23
                      have H' := Aside0.mk H
                      clear H
                      go_wp2
                      go_meet
                      case rel => exact ⟨_, (decide (t239 > x10_1)), (by first | rfl | (simp; done) | (simp [*]; done)), H', ⟨by have := HK1.out; first | omega | exact Nat.le_refl _⟩, ⟨by (with_reducible repeat (first | apply Kd.R_alloc | apply Kd.R_drewN | apply Kd.R_drew)); exact Kd.R_mono HO_3.out (fun _ hk => trivial)⟩, ⟨by repeat (first | (with_reducible first | exact HB.out | apply below_alloc | apply pw_below_drewN | apply below_drew1) | exact HB.out)⟩⟩
                · rw [if_neg c21] at H
                  have c21b0 : (t238 == (ji20)) = false := beq_eq_false_iff_ne.mpr c21
                  have c21b1 : (t238 != (ji20)) = true := bne_iff_ne.mpr c21
                  have H' := Aside0.mk H
                  clear H
                  go_wp2
                  go_meet
                  case rel => exact ⟨_, (true), (by first | rfl | (simp; done) | (simp [*]; done)), H', ⟨by have := HK1.out; first | omega | exact Nat.le_refl _⟩, ⟨by (with_reducible repeat (first | apply Kd.R_alloc | apply Kd.R_drewN | apply Kd.R_drew)); exact Kd.R_mono HO_3.out (fun _ hk => trivial)⟩, ⟨by repeat (first | (with_reducible first | exact HB.out | apply below_alloc | apply pw_below_drewN | apply below_drew1) | exact HB.out)⟩⟩
          case rest =>
            clear HC17
            try clear c1
            try clear c2
            try clear p2
            try clear q2
            try clear hx2
            try clear c3
            try clear p6
            try clear c9
            try clear c10
            try clear c11
            try clear c12
            try clear c12b0
            try clear c13
            try clear c13b0
            try clear c14
            try clear c14b0
            try clear c15
            try clear c15b0
            try clear c16
            try clear c16b0
            try clear c18
            try clear c18b0
            try clear c19
            try clear c19b0
            try clear c21
            try clear c21b0
            try clear c21b1
            try clear c22
            try clear c22b0
            try clear c23
            try clear c23b0
            try clear hx241_0
            try clear hx242_0
            try clear hx243_0
            try clear p2
            try clear p241
            try clear p242
            try clear p243
            try clear q241
            try clear q242
            try clear q243
            obtain ⟨kq, x102_16, rfl, HA, HJ16, HO_3, HB⟩ := hcut
            cases kq with
            | zero => exact absurd HA.out (by simp [laws_FnCakes.j1])
            | succ kj16 =>
              have H := HA.out
              clear HA
              simp only [laws_FnCakes.j1] at H
              by_cases c24 : x102_16 = true
              · subst c24
                have H1 : (some false) = some r := by rw [if_pos rfl] at H; exact H
                clear H
                have H := H1
                clear H1
                exact absurd ((Option.some.inj H).trans HR_.out) (by decide)
              · replace c24 := Bool.eq_false_iff.mpr c24
                subst c24
                have H1 : (laws_FnCakes.l1 kj16 l0 t231 (t231.length : Int) t238 x10_1 0 0) = some r := by rw [if_neg (show ¬ (false = true) by decide)] at H; exact H
                clear H
                have H := H1
                clear H1
                have H' := Aside0.mk H
                clear H
                go_wp2
                go_loopg [14, 15] kj16 (fun kq v14 v15 w' => ∃ (x14_3 : Int) (x15_3 : Int), v14 = .int .i64 x14_3 ∧ v15 = .int .i64 x15_3 ∧ Aside0 (laws_FnCakes.l1 kq l0 t231 (t231.length : Int) t238 x10_1 x14_3 x15_3 = some r) ∧ Aside0 (kq ≤ kj16) ∧ Aside0 (Kd.R (Kd.int .i64) 3 w' w.heap.size (fun _ => True) (.slice Ao8 t231.length co8) t231) ∧ Aside0 (Below w.heap.size w w'))
                case atStart => exact ⟨(0), (0), (by first | rfl | (simp; done) | (simp [*]; done)), (by first | rfl | (simp; done) | (simp [*]; done)), H', ⟨Nat.le_refl _⟩, ⟨by (with_reducible repeat (first | apply Kd.R_alloc | apply Kd.R_drewN | apply Kd.R_drew)); exact HO_3.out⟩, ⟨by repeat (first | (with_reducible first | exact HB.out | apply below_alloc | apply pw_below_drewN | apply below_drew1) | exact HB.out)⟩⟩
                case round =>
                  clear H'
                  try clear c1
                  try clear c2
                  try clear p2
                  try clear q2
                  try clear hx2
                  try clear c3
                  try clear p6
                  try clear c9
                  try clear c10
                  try clear c11
                  try clear c12
                  try clear c12b0
                  try clear c13
                  try clear c13b0
                  try clear c14
                  try clear c14b0
                  try clear c15
                  try clear c15b0
                  try clear c16
                  try clear c16b0
                  try clear c18
                  try clear c18b0
                  try clear c19
                  try clear c19b0
                  try clear c21
                  try clear c21b0
                  try clear c21b1
                  try clear c22
                  try clear c22b0
                  try clear c23
                  try clear c23b0
                  try clear c24
                  try clear p24
                  try clear q24
                  try clear hx24
                  try clear hx241_0
                  try clear hx242_0
                  try clear hx243_0
                  try clear p2
                  try clear p241
                  try clear p242
                  try clear p243
                  try clear p6
                  try clear q2
                  try clear q241
                  try clear q242
                  try clear q243
                  obtain ⟨x14_3, x15_3, rfl, rfl, HA, HK3, HO_3, HB⟩ := hrel
                  cases gk with
                  | zero => exact absurd HA.out (by simp [laws_FnCakes.l1])
                  | succ k3 =>
                    have H := HA.out
                    clear HA
                    simp only [laws_FnCakes.l1] at H
                    by_cases c25 : x15_3 < (t231.length : Int)
                    · rw [if_pos c25] at H
                      have c25b0 : decide (x15_3 < (t231.length : Int)) = true := decide_eq_true c25
                      clear c25
                      by_cases c26 : 0 ≤ x15_3
                      · rw [if_pos c26] at H
                        have c26b0 : decide (0 ≤ x15_3) = true := decide_eq_true c26
                        clear c26
                        by_cases c27 : x15_3 < (t231.length : Int)
                        · rw [if_pos c27] at H
                          have c27b0 : decide (x15_3 < (t231.length : Int)) = true := decide_eq_true c27
                          clear c27
                          obtain ⟨ji28, hji28⟩ : ∃ j_ : Int, (mn (wrap64 (x14_3 + (rd t231 x15_3))) (wrap64 (x10_1 - (wrap64 (x14_3 + (rd t231 x15_3)))))) = j_ := ⟨_, rfl⟩
                          replace H : (if (ji28) > t238 then (some false) else (laws_FnCakes.l1 k3 l0 t231 (t231.length : Int) t238 x10_1 (wrap64 (x14_3 + (rd t231 x15_3))) (wrap64 (x15_3 + 1)))) = some r := by first | (rw [hji28] at H; exact H) | (simp only [hji28] at H ⊢; exact H)
                          have hji28_ : (if (wrap64 (x10_1 - (wrap64 (x14_3 + (rd t231 x15_3))))) < (wrap64 (x14_3 + (rd t231 x15_3))) then (wrap64 (x10_1 - (wrap64 (x14_3 + (rd t231 x15_3))))) else (wrap64 (x14_3 + (rd t231 x15_3)))) = ji28 := hji28
                          by_cases c29 : (ji28) > t238
                          · rw [if_pos c29] at H
                            have c29b0 : decide (t238 < (ji28)) = true := decide_eq_true c29
                            clear c29
                            exact absurd ((Option.some.inj H).trans HR_.out) (by decide)
                          · rw [if_neg c29] at H
                            have c29b0 : decide (t238 < (ji28)) = false := decide_eq_false c29
                            clear c29
                            have H' := Aside0.mk H
                            clear H
                            have p244 : 0 ≤ (x15_3 : Int) := of_decide_eq_true (by first | (with_reducible assumption) | assumption)
                            have q244 : x15_3 < (t231.length : Int) := of_decide_eq_true (by first | (with_reducible assumption) | assumption)
                            obtain ⟨ad244, e244, hx244_0⟩ := Kd.at_int (Kd.R_reads' HO_3.out).2.2 x15_3 p244 q244
                            cases e244
                            replace p244 := eq_true p244
                            replace q244 := eq_true q244
                            go_wp2
                            go_roundg k3
                            case measure => have := HK1.out; have := HJ16.out; have := HK3.out; omega
                            case rel => exact ⟨(wrap64 (x14_3 + (rd t231 x15_3))), (wrap64 (x15_3 + 1)), (by first | rfl | (simp; done) | (simp [*]; done)), (by first | rfl | (simp; done) | (simp [*]; done)), H', ⟨by have := HK1.out; have := HJ16.out; have := HK3.out; omega⟩, ⟨by (with_reducible repeat (first | apply Kd.R_alloc | apply Kd.R_drewN | apply Kd.R_drew)); exact HO_3.out⟩, ⟨by repeat (first | (with_reducible first | exact HB.out | apply below_alloc | apply pw_below_drewN | apply below_drew1) | exact HB.out)⟩⟩
                        · rw [if_neg c27] at H
                          exact absurd H (by simp)
                      · rw [if_neg c26] at H
                        exact absurd H (by simp)
                    · rw [if_neg c25] at H
                      have c25b0 : decide (x15_3 < (t231.length : Int)) = false := decide_eq_false c25
                      clear c25
                      replace H := Option.bind_eq_some_iff.mp H
                      obtain ⟨t245, A300, H⟩ := H
                      replace H : ((impl_Shares.f k3 t231 (wrap64 (1 + (Int.tmod t245 4)))).bind fun bt246 => ((impl_BestShares.f k3 t231 (wrap64 (1 + (Int.tmod t245 4)))).bind fun t250 => (if ((t250 == (-1)) != (decide ((t231.length : Int) < (wrap64 (1 + (Int.tmod t245 4)))))) = true then (laws_FnCakes.j3 k3 t231 (t231.length : Int) x10_1 (wrap64 (1 + (Int.tmod t245 4))) bt246.1 bt246.2 t250 true) else (if t250 ≥ 0 then (laws_FnCakes.j3 k3 t231 (t231.length : Int) x10_1 (wrap64 (1 + (Int.tmod t245 4))) bt246.1 bt246.2 t250 (bt246.2 != (decide ((wrap64 (t250 * (wrap64 (1 + (Int.tmod t245 4))))) ≥ x10_1)))) else (laws_FnCakes.j3 k3 t231 (t231.length : Int) x10_1 (wrap64 (1 + (Int.tmod t245 4))) bt246.1 bt246.2 t250 (bt246.2 != false)))))) = some r := H
                      have A30 := Aside0.mk A300
                      clear A300
                      replace H := Option.bind_eq_some_iff.mp H
                      obtain ⟨⟨t246, t247⟩, A310, H⟩ := H
                      replace H : ((impl_BestShares.f k3 t231 (wrap64 (1 + (Int.tmod t245 4)))).bind fun t250 => (if ((t250 == (-1)) != (decide ((t231.length : Int) < (wrap64 (1 + (Int.tmod t245 4)))))) = true then (laws_FnCakes.j3 k3 t231 (t231.length : Int) x10_1 (wrap64 (1 + (Int.tmod t245 4))) t246 t247 t250 true) else (if t250 ≥ 0 then (laws_FnCakes.j3 k3 t231 (t231.length : Int) x10_1 (wrap64 (1 + (Int.tmod t245 4))) t246 t247 t250 (t247 != (decide ((wrap64 (t250 * (wrap64 (1 + (Int.tmod t245 4))))) ≥ x10_1)))) else (laws_FnCakes.j3 k3 t231 (t231.length : Int) x10_1 (wrap64 (1 + (Int.tmod t245 4))) t246 t247 t250 (t247 != false))))) = some r := H
                      have A31 := Aside0.mk A310
                      clear A310
                      replace H := Option.bind_eq_some_iff.mp H
                      obtain ⟨t250, A320, H⟩ := H
                      replace H : (if ((t250 == (-1)) != (decide ((t231.length : Int) < (wrap64 (1 + (Int.tmod t245 4)))))) = true then (laws_FnCakes.j3 k3 t231 (t231.length : Int) x10_1 (wrap64 (1 + (Int.tmod t245 4))) t246 t247 t250 true) else (if t250 ≥ 0 then (laws_FnCakes.j3 k3 t231 (t231.length : Int) x10_1 (wrap64 (1 + (Int.tmod t245 4))) t246 t247 t250 (t247 != (decide ((wrap64 (t250 * (wrap64 (1 + (Int.tmod t245 4))))) ≥ x10_1)))) else (laws_FnCakes.j3 k3 t231 (t231.length : Int) x10_1 (wrap64 (1 + (Int.tmod t245 4))) t246 t247 t250 (t247 != false)))) = some r := H
                      have A32 := Aside0.mk A320
                      clear A320
                      have HC33 := Aside0.mk H
                      clear H
                      go_upto_region 29 with (first | ((with_reducible refine gate_callee (f := 13) rfl ?_); refine goesL_ (some 122) rfl rfl Try.func13 (by kernel_rfl) rfl #[.slice A0 l0.length c0, .int .i64 0] rfl (by (try simp only [List.map_toArray, List.map_cons, List.map_nil]); first | done | rfl | (simp only [List.length_drop, List.length_take]; rfl)) ?_; (with_reducible refine (laws_at.calls _ _ l0 0 t245 _ ?side1 ?side2 A30.out).mono ?_); (case side1 => repeat (first | exact (Kd.C_below HR0.out HB.out) | (with_reducible refine Kd.C_alloc ?_ _) | (with_reducible refine Kd.C_drewN ?_ _) | (with_reducible refine Kd.C_drew ?_))); (case side2 => exact HC0.out); rintro e w' ⟨rfl, ⟨nd, rfl⟩⟩; refine ⟨_, rfl, ?_⟩) | ((with_reducible refine gate_callee (f := 14) rfl ?_); refine goesL_ (some 128) rfl rfl Try.func14 (by kernel_rfl) rfl #[.slice Ao8 t231.length co8, .int .i64 (wrap64 (1 + (Int.tmod t245 4)))] rfl (by (try simp only [List.map_toArray, List.map_cons, List.map_nil]); first | done | rfl | (simp only [List.length_drop, List.length_take]; rfl)) ?_; (with_reducible refine (impl_Shares.calls k3 _ _ t231 (wrap64 (1 + (Int.tmod t245 4))) t246 t247 _ ?side1 ?side2 A31.out).mono ?_); (case side1 => repeat (first | exact (Kd.R_reads' HO_3.out).2.2 | (with_reducible refine Kd.C_alloc ?_ _) | (with_reducible refine Kd.C_drewN ?_ _) | (with_reducible refine Kd.C_drew ?_))); (case side2 => exact (Kd.R_reads' HO_3.out).2.1); rintro e w34 ⟨v248, rfl, ho0, hb⟩; refine ⟨_, rfl, ?_⟩; have n0_ := Aside0.mk (Kd.R_elder' (by (with_reducible repeat (first | apply Kd.R_alloc | apply Kd.R_drewN | apply Kd.R_drew)); exact HO_3.out) (Kd.R_base ho0) hb); have n1_ := Aside0.mk (Kd.R_lower (Kd.R_new' ho0 (Kd.R_lt (by (with_reducible repeat (first | apply Kd.R_alloc | apply Kd.R_drewN | apply Kd.R_drew)); exact HO_3.out))) (below_size (by repeat (first | (with_reducible first | exact HB.out | apply below_alloc | apply pw_below_drewN | apply below_drew1) | exact HB.out)))); have n2_ := Aside0.mk (below_step (by repeat (first | (with_reducible first | exact HB.out | apply below_alloc | apply pw_below_drewN | apply below_drew1) | exact HB.out)) hb); clear HO_3; clear HB; have HO_3 := n0_; have HO249 := n1_; have HB := n2_; clear n0_ n1_ n2_; (try clear hb); (try clear hb2); (try clear hk); (try clear hi); (try clear ho0)) | ((with_reducible refine gate_callee (f := 15) rfl ?_); refine goesL_ (some 133) rfl rfl Try.func15 (by kernel_rfl) rfl #[.slice Ao8 t231.length co8, .int .i64 (wrap64 (1 + (Int.tmod t245 4)))] rfl (by (try simp only [List.map_toArray, List.map_cons, List.map_nil]); first | done | rfl | (simp only [List.length_drop, List.length_take]; rfl)) ?_; (with_reducible refine (impl_BestShares.calls k3 _ _ t231 (wrap64 (1 + (Int.tmod t245 4))) t250 _ ?side1 ?side2 A32.out).mono ?_); (case side1 => repeat (first | exact (Kd.R_reads' HO_3.out).2.2 | (with_reducible refine Kd.C_alloc ?_ _) | (with_reducible refine Kd.C_drewN ?_ _) | (with_reducible refine Kd.C_drew ?_))); (case side2 => exact (Kd.R_reads' HO_3.out).2.1); rintro e w35 ⟨rfl, hb⟩; refine ⟨_, rfl, ?_⟩; have n0_ := Aside0.mk (Kd.R_below (by (with_reducible repeat (first | apply Kd.R_alloc | apply Kd.R_drewN | apply Kd.R_drew)); exact HO_3.out) hb); have n1_ := Aside0.mk (Kd.R_below (by (with_reducible repeat (first | apply Kd.R_alloc | apply Kd.R_drewN | apply Kd.R_drew)); exact HO249.out) hb); have n2_ := Aside0.mk (below_step (by repeat (first | (with_reducible first | exact HB.out | apply below_alloc | apply pw_below_drewN | apply below_drew1) | exact HB.out)) hb); clear HO_3; clear HO249; clear HB; have HO_3 := n0_; have HO249 := n1_; have HB := n2_; clear n0_ n1_ n2_; (try clear hb); (try clear hb2); (try clear hk); (try clear hi)))
                      (try simp only [Act.put, List.setIfInBounds_toArray, List.set_cons_zero, List.set_cons_succ])
                      go_cut [152] (fun v152 wc => ∃ (kq : Nat) (x152_32 : Bool), v152 = .bool x152_32 ∧ Aside0 (laws_FnCakes.j3 kq t231 (t231.length : Int) x10_1 (wrap64 (1 + (Int.tmod t245 4))) t246 t247 t250 x152_32 = some r) ∧ Aside0 (kq ≤ k3) ∧ Aside0 (Kd.R (Kd.int .i64) 3 wc w.heap.size (fun k_ => some k_ ≠ (v248 : Value).ownBlock) (.slice Ao8 t231.length co8) t231) ∧ Aside0 (Kd.R (Kd.int .i64) 3 wc w.heap.size (fun k_ => some k_ ≠ ((.slice Ao8 t231.length co8) : Value).ownBlock) v248 t246) ∧ Aside0 (Below w.heap.size w wc))
                      case first =>
                        have H := HC33.out
                        clear HC33
                        by_cases c36 : ((t250 == (-1)) != (decide ((t231.length : Int) < (wrap64 (1 + (Int.tmod t245 4)))))) = true
                        · rw [if_pos c36] at H
                          have c36b0 : ((t250 == (-1)) != (decide ((t231.length : Int) < (wrap64 (1 + (Int.tmod t245 4)))))) = true := c36
                          (try (have c36b1 : decide ((t250 == (-1)) = (decide ((t231.length : Int) < (wrap64 (1 + (Int.tmod t245 4)))))) = false := by simpa using c36))
                          (try (have c36b2 : ((t250 == (-1)) == (decide ((t231.length : Int) < (wrap64 (1 + (Int.tmod t245 4)))))) = false := by simpa using c36))
                          (try (have c36b3 : ¬ ((t250 == (-1)) = (decide ((t231.length : Int) < (wrap64 (1 + (Int.tmod t245 4)))))) := by simpa using c36))
                          clear c36
                          (first | rw [c36b0] | (simp only [i64_w, i32_w]; rw [c36b0]) | skip)
                          have H' := Aside0.mk H
                          clear H
                          go_wp2
                          go_meet
                          case rel => exact ⟨_, (true), (by first | rfl | (simp; done) | (simp [*]; done)), H', ⟨by have := HK1.out; have := HJ16.out; have := HK3.out; first | omega | exact Nat.le_refl _⟩, ⟨by (with_reducible repeat (first | apply Kd.R_alloc | apply Kd.R_drewN | apply Kd.R_drew)); exact Kd.R_mono HO_3.out (fun _ hk => hk.2)⟩, ⟨by (with_reducible repeat (first | apply Kd.R_alloc | apply Kd.R_drewN | apply Kd.R_drew)); exact Kd.R_mono HO249.out (fun _ hk => hk.2)⟩, ⟨by repeat (first | (with_reducible first | exact HB.out | apply below_alloc | apply pw_below_drewN | apply below_drew1) | exact HB.out)⟩⟩
                        · rw [if_neg c36] at H
                          have c36b0 : ((t250 == (-1)) != (decide ((t231.length : Int) < (wrap64 (1 + (Int.tmod t245 4)))))) = false := by simpa using c36
                          (try (have c36b1 : decide ((t250 == (-1)) = (decide ((t231.length : Int) < (wrap64 (1 + (Int.tmod t245 4)))))) = true := by simpa using c36))
                          (try (have c36b2 : ((t250 == (-1)) == (decide ((t231.length : Int) < (wrap64 (1 + (Int.tmod t245 4)))))) = true := by simpa using c36))
                          clear c36
                          (first | rw [c36b0] | (simp only [i64_w, i32_w]; rw [c36b0]) | skip)
                          by_cases c37 : t250 ≥ 0
                          · rw [if_pos c37] at H
                            have c37b0 : decide (0 ≤ t250) = true := decide_eq_true c37
                            clear c37
                            have H' := Aside0.mk H
                            clear H
                            go_wp2
                            go_meet
                            case rel => exact ⟨_, ((t247 != (decide ((wrap64 (t250 * (wrap64 (1 + (Int.tmod t245 4))))) ≥ x10_1)))), (by first | rfl | (simp; done) | (simp [*]; done)), H', ⟨by have := HK1.out; have := HJ16.out; have := HK3.out; first | omega | exact Nat.le_refl _⟩, ⟨by (with_reducible repeat (first | apply Kd.R_alloc | apply Kd.R_drewN | apply Kd.R_drew)); exact Kd.R_mono HO_3.out (fun _ hk => hk.2)⟩, ⟨by (with_reducible repeat (first | apply Kd.R_alloc | apply Kd.R_drewN | apply Kd.R_drew)); exact Kd.R_mono HO249.out (fun _ hk => hk.2)⟩, ⟨by repeat (first | (with_reducible first | exact HB.out | apply below_alloc | apply pw_below_drewN | apply below_drew1) | exact HB.out)⟩⟩
                          · rw [if_neg c37] at H
                            have c37b0 : decide (0 ≤ t250) = false := decide_eq_false c37
                            clear c37
                            have H' := Aside0.mk H
                            clear H
                            go_wp2
                            go_meet
                            case rel => exact ⟨_, ((t247 != false)), (by first | rfl | (simp; done) | (simp [*]; done)), H', ⟨by have := HK1.out; have := HJ16.out; have := HK3.out; first | omega | exact Nat.le_refl _⟩, ⟨by (with_reducible repeat (first | apply Kd.R_alloc | apply Kd.R_drewN | apply Kd.R_drew)); exact Kd.R_mono HO_3.out (fun _ hk => hk.2)⟩, ⟨by (with_reducible repeat (first | apply Kd.R_alloc | apply Kd.R_drewN | apply Kd.R_drew)); exact Kd.R_mono HO249.out (fun _ hk => hk.2)⟩, ⟨by repeat (first | (with_reducible first | exact HB.out | apply below_alloc | apply pw_below_drewN | apply below_drew1) | exact HB.out)⟩⟩
                      case rest =>
                        clear HC33
                        try clear c1
                        try clear c2
                        try clear p2
                        try clear q2
                        try clear hx2
                        try clear c3
                        try clear p6
                        try clear c9
                        try clear c10
                        try clear c11
                        try clear c12
                        try clear c12b0
                        try clear c13
                        try clear c13b0
                        try clear c14
                        try clear c14b0
                        try clear c15
                        try clear c15b0
                        try clear c16
                        try clear c16b0
                        try clear c18
                        try clear c18b0
                        try clear c19
                        try clear c19b0
                        try clear c21
                        try clear c21b0
                        try clear c21b1
                        try clear c22
                        try clear c22b0
                        try clear c23
                        try clear c23b0
                        try clear c24
                        try clear p24
                        try clear q24
                        try clear hx24
                        try clear c25
                        try clear c25b0
                        try clear c26
                        try clear c26b0
                        try clear c27
                        try clear c27b0
                        try clear c29
                        try clear c29b0
                        try clear c36
                        try clear c36b0
                        try clear c36b1
                        try clear c36b2
                        try clear c37
                        try clear c37b0
                        try clear hx241_0
                        try clear hx242_0
                        try clear hx243_0
                        try clear hx244_0
                        try clear p2
                        try clear p24
                        try clear p241
                        try clear p242
                        try clear p243
                        try clear p244
                        try clear p6
                        try clear q2
                        try clear q24
                        try clear q241
                        try clear q242
                        try clear q243
                        try clear q244
                        obtain ⟨kq, x152_32, rfl, HA, HJ32, HO_3, HO_17, HB⟩ := hcut
                        cases kq with
                        | zero => exact absurd HA.out (by simp [laws_FnCakes.j3])
                        | succ kj32 =>
                          have H := HA.out
                          clear HA
                          simp only [laws_FnCakes.j3] at H
                          by_cases c38 : x152_32 = true
                          · subst c38
                            have H1 : (some false) = some r := by rw [if_pos rfl] at H; exact H
                            clear H
                            have H := H1
                            clear H1
                            exact absurd ((Option.some.inj H).trans HR_.out) (by decide)
                          · replace c38 := Bool.eq_false_iff.mpr c38
                            subst c38
                            have H1 : (if t247 = true then (if (t246.length : Int) = (wrap64 ((wrap64 (1 + (Int.tmod t245 4))) - 1)) then (laws_FnCakes.l2 kj32 t231 (t231.length : Int) x10_1 (wrap64 (1 + (Int.tmod t245 4))) t246 t250 0 0) else (some false)) else ((impl_CakeOk.f t231).bind fun t255 => (if t255 = true then ((impl_BestShares.f kj32 t231 1).bind fun t256 => (if t256 = x10_1 then (some (decide ((wrap64 (t250 * (wrap64 (1 + (Int.tmod t245 4))))) ≤ x10_1))) else (some false))) else (some false)))) = some r := by rw [if_neg (show ¬ (false = true) by decide)] at H; exact H
                            clear H
                            have H := H1
                            clear H1
                            by_cases c39 : t247 = true
                            · subst c39
                              have H1 : (if (t246.length : Int) = (wrap64 ((wrap64 (1 + (Int.tmod t245 4))) - 1)) then (laws_FnCakes.l2 kj32 t231 (t231.length : Int) x10_1 (wrap64 (1 + (Int.tmod t245 4))) t246 t250 0 0) else (some false)) = some r := by rw [if_pos rfl] at H; exact H
                              clear H
                              have H := H1
                              clear H1
                              by_cases c40 : (t246.length : Int) = (wrap64 ((wrap64 (1 + (Int.tmod t245 4))) - 1))
                              · rw [if_pos c40] at H
                                have c40b0 : ((t246.length : Int) == (wrap64 ((wrap64 (1 + (Int.tmod t245 4))) - 1))) = true := beq_iff_eq.mpr c40
                                have c40b1 : ((t246.length : Int) != (wrap64 ((wrap64 (1 + (Int.tmod t245 4))) - 1))) = false := bne_eq_false_iff_eq.mpr c40
                                clear c40
                                have H' := Aside0.mk H
                                clear H
                                obtain ⟨Ao41, co41, eo41⟩ := Kd.R_slice HO_17.out
                                subst eo41
                                go_wp2
                                go_loopg [20, 21] kj32 (fun kq v20 v21 w' => ∃ (x20_5 : Int) (x21_5 : Int), v20 = .int .i64 x20_5 ∧ v21 = .int .i64 x21_5 ∧ Aside0 (laws_FnCakes.l2 kq t231 (t231.length : Int) x10_1 (wrap64 (1 + (Int.tmod t245 4))) t246 t250 x20_5 x21_5 = some r) ∧ Aside0 (kq ≤ kj32) ∧ Aside0 (Kd.R (Kd.int .i64) 3 w' w.heap.size (fun k_ => some k_ ≠ ((.slice Ao41 t246.length co41) : Value).ownBlock) (.slice Ao8 t231.length co8) t231) ∧ Aside0 (Kd.R (Kd.int .i64) 3 w' w.heap.size (fun k_ => some k_ ≠ ((.slice Ao8 t231.length co8) : Value).ownBlock) (.slice Ao41 t246.length co41) t246) ∧ Aside0 (Below w.heap.size w w'))
                                case atStart => exact ⟨(0), (0), (by first | rfl | (simp; done) | (simp [*]; done)), (by first | rfl | (simp; done) | (simp [*]; done)), H', ⟨Nat.le_refl _⟩, ⟨by (with_reducible repeat (first | apply Kd.R_alloc | apply Kd.R_drewN | apply Kd.R_drew)); exact HO_3.out⟩, ⟨by (with_reducible repeat (first | apply Kd.R_alloc | apply Kd.R_drewN | apply Kd.R_drew)); exact HO_17.out⟩, ⟨by repeat (first | (with_reducible first | exact HB.out | apply below_alloc | apply pw_below_drewN | apply below_drew1) | exact HB.out)⟩⟩
                                case round =>
                                  clear H'
                                  try clear c1
                                  try clear c2
                                  try clear p2
                                  try clear q2
                                  try clear hx2
                                  try clear c3
                                  try clear c4
                                  try clear p6
                                  try clear c9
                                  try clear c10
                                  try clear c11
                                  try clear c12
                                  try clear c12b0
                                  try clear c13
                                  try clear c13b0
                                  try clear c14
                                  try clear c14b0
                                  try clear c15
                                  try clear c15b0
                                  try clear c16
                                  try clear c16b0
                                  try clear c18
                                  try clear c18b0
                                  try clear c19
                                  try clear c19b0
                                  try clear c21
                                  try clear c21b0
                                  try clear c21b1
                                  try clear c22
                                  try clear c22b0
                                  try clear c23
                                  try clear c23b0
                                  try clear c24
                                  try clear p24
                                  try clear q24
                                  try clear hx24
                                  try clear c25
                                  try clear c25b0
                                  try clear c26
                                  try clear c26b0
                                  try clear c27
                                  try clear c27b0
                                  try clear c29
                                  try clear c29b0
                                  try clear c36
                                  try clear c36b0
                                  try clear c36b1
                                  try clear c36b2
                                  try clear c37
                                  try clear c37b0
                                  try clear c38
                                  try clear c39
                                  try clear c40
                                  try clear c40b0
                                  try clear c40b1
                                  try clear hx241_0
                                  try clear hx242_0
                                  try clear hx243_0
                                  try clear hx244_0
                                  try clear p2
                                  try clear p24
                                  try clear p241
                                  try clear p242
                                  try clear p243
                                  try clear p244
                                  try clear p6
                                  try clear q2
                                  try clear q24
                                  try clear q241
                                  try clear q242
                                  try clear q243
                                  try clear q244
                                  obtain ⟨x20_5, x21_5, rfl, rfl, HA, HK5, HO_3, HO_17, HB⟩ := hrel
                                  cases gk with
                                  | zero => exact absurd HA.out (by simp [laws_FnCakes.l2])
                                  | succ k5 =>
                                    have H := HA.out
                                    clear HA
                                    simp only [laws_FnCakes.l2] at H
                                    by_cases c42 : x21_5 < (wrap64 (1 + (Int.tmod t245 4)))
                                    · rw [if_pos c42] at H
                                      have c42b0 : decide (x21_5 < (wrap64 (1 + (Int.tmod t245 4)))) = true := decide_eq_true c42
                                      clear c42
                                      have HC43 := Aside0.mk H
                                      clear H
                                      go_upto_if 168 with (fail)
                                      go_cut [22] (fun v22 wc => ∃ (kq : Nat) (x22_42 : Int), v22 = .int .i64 x22_42 ∧ Aside0 (laws_FnCakes.j5 kq t231 (t231.length : Int) x10_1 (wrap64 (1 + (Int.tmod t245 4))) t246 t250 x20_5 x21_5 x22_42 = some r) ∧ Aside0 (kq ≤ k5) ∧ Aside0 (Kd.R (Kd.int .i64) 3 wc w.heap.size (fun k_ => some k_ ≠ ((.slice Ao41 t246.length co41) : Value).ownBlock) (.slice Ao8 t231.length co8) t231) ∧ Aside0 (Kd.R (Kd.int .i64) 3 wc w.heap.size (fun k_ => some k_ ≠ ((.slice Ao8 t231.length co8) : Value).ownBlock) (.slice Ao41 t246.length co41) t246) ∧ Aside0 (Below w.heap.size w wc))
                                      case first =>
                                        have H := HC43.out
                                        clear HC43
                                        by_cases c44 : x21_5 < (wrap64 ((wrap64 (1 + (Int.tmod t245 4))) - 1))
                                        · rw [if_pos c44] at H
                                          have c44b0 : decide (x21_5 < (wrap64 ((wrap64 (1 + (Int.tmod t245 4))) - 1))) = true := decide_eq_true c44
                                          clear c44
                                          (first | rw [c44b0] | (simp only [i64_w, i32_w]; rw [c44b0]) | skip)
                                          by_cases c45 : 0 ≤ x21_5
                                          · rw [if_pos c45] at H
                                            have c45b0 : decide (0 ≤ x21_5) = true := decide_eq_true c45
                                            clear c45
                                            by_cases c46 : x21_5 < (t246.length : Int)
                                            · rw [if_pos c46] at H
                                              have c46b0 : decide (x21_5 < (t246.length : Int)) = true := decide_eq_true c46
                                              clear c46
                                              have H' := Aside0.mk H
                                              clear H
                                              have p253 : 0 ≤ (x21_5 : Int) := of_decide_eq_true (by first | (with_reducible assumption) | assumption)
                                              have q253 : x21_5 < (t246.length : Int) := of_decide_eq_true (by first | (with_reducible assumption) | assumption)
                                              obtain ⟨ad253, e253, hx253_0⟩ := Kd.at_int (Kd.R_reads' HO_17.out).2.2 x21_5 p253 q253
                                              cases e253
                                              replace p253 := eq_true p253
                                              replace q253 := eq_true q253
                                              go_wp2
                                              go_meet
                                              case rel => exact ⟨_, (rd t246 x21_5), (by first | rfl | (simp; done) | (simp [*]; done)), H', ⟨by have := HK1.out; have := HJ16.out; have := HK3.out; have := HJ32.out; have := HK5.out; first | omega | exact Nat.le_refl _⟩, ⟨by (with_reducible repeat (first | apply Kd.R_alloc | apply Kd.R_drewN | apply Kd.R_drew)); exact HO_3.out⟩, ⟨by (with_reducible repeat (first | apply Kd.R_alloc | apply Kd.R_drewN | apply Kd.R_drew)); exact HO_17.out⟩, ⟨by repeat (first | (with_reducible first | exact HB.out | apply below_alloc | apply pw_below_drewN | apply below_drew1) | exact HB.out)⟩⟩
                                            · rw [if_neg c46] at H
                                              exact absurd H (by simp)
                                          · rw [if_neg c45] at H
                                            exact absurd H (by simp)
                                        · rw [if_neg c44] at H
                                          have c44b0 : decide (x21_5 < (wrap64 ((wrap64 (1 + (Int.tmod t245 4))) - 1))) = false := decide_eq_false c44
                                          clear c44
                                          (first | rw [c44b0] | (simp only [i64_w, i32_w]; rw [c44b0]) | skip)
                                          have H' := Aside0.mk H
                                          clear H
                                          go_wp2
                                          go_meet
                                          case rel => exact ⟨_, ((t231.length : Int)), (by first | rfl | (simp; done) | (simp [*]; done)), H', ⟨by have := HK1.out; have := HJ16.out; have := HK3.out; have := HJ32.out; have := HK5.out; first | omega | exact Nat.le_refl _⟩, ⟨by (with_reducible repeat (first | apply Kd.R_alloc | apply Kd.R_drewN | apply Kd.R_drew)); exact HO_3.out⟩, ⟨by (with_reducible repeat (first | apply Kd.R_alloc | apply Kd.R_drewN | apply Kd.R_drew)); exact HO_17.out⟩, ⟨by repeat (first | (with_reducible first | exact HB.out | apply below_alloc | apply pw_below_drewN | apply below_drew1) | exact HB.out)⟩⟩
                                      case rest =>
                                        clear HC43
                                        try clear c1
                                        try clear c2
                                        try clear p2
                                        try clear q2
                                        try clear hx2
                                        try clear c3
                                        try clear c4
                                        try clear p6
                                        try clear c9
                                        try clear c10
                                        try clear c11
                                        try clear c12
                                        try clear c12b0
                                        try clear c13
                                        try clear c13b0
                                        try clear c14
                                        try clear c14b0
                                        try clear c15
                                        try clear c15b0
                                        try clear c16
                                        try clear c16b0
                                        try clear c18
                                        try clear c18b0
                                        try clear c19
                                        try clear c19b0
                                        try clear c21
                                        try clear c21b0
                                        try clear c21b1
                                        try clear c22
                                        try clear c22b0
                                        try clear c23
                                        try clear c23b0
                                        try clear c24
                                        try clear p24
                                        try clear q24
                                        try clear hx24
                                        try clear c25
                                        try clear c25b0
                                        try clear p25
                                        try clear q25
                                        try clear hx25
                                        try clear c26
                                        try clear c26b0
                                        try clear c27
                                        try clear c27b0
                                        try clear c29
                                        try clear c29b0
                                        try clear c36
                                        try clear c36b0
                                        try clear c36b1
                                        try clear c36b2
                                        try clear c37
                                        try clear c37b0
                                        try clear c38
                                        try clear c39
                                        try clear c40
                                        try clear c40b0
                                        try clear c40b1
                                        try clear c42
                                        try clear c42b0
                                        try clear c44
                                        try clear c44b0
                                        try clear c45
                                        try clear c45b0
                                        try clear c46
                                        try clear c46b0
                                        try clear hx241_0
                                        try clear hx242_0
                                        try clear hx243_0
                                        try clear hx244_0
                                        try clear hx253_0
                                        try clear p2
                                        try clear p24
                                        try clear p241
                                        try clear p242
                                        try clear p243
                                        try clear p244
                                        try clear p253
                                        try clear p6
                                        try clear q2
                                        try clear q24
                                        try clear q241
                                        try clear q242
                                        try clear q243
                                        try clear q244
                                        try clear q253
                                        obtain ⟨kq, x22_42, rfl, HA, HJ42, HO_3, HO_17, HB⟩ := hcut
                                        cases kq with
                                        | zero => exact absurd HA.out (by simp [laws_FnCakes.j5])
                                        | succ kj42 =>
                                          have H := HA.out
                                          clear HA
                                          simp only [laws_FnCakes.j5] at H
                                          obtain ⟨ji47, hji47⟩ : ∃ j_ : Int, (mx 0 x20_5) = j_ := ⟨_, rfl⟩
                                          replace H : (laws_FnCakes.l3 kj42 t231 (t231.length : Int) x10_1 (wrap64 (1 + (Int.tmod t245 4))) t246 t250 x20_5 x21_5 x22_42 0 ji47) = some r := by first | (rw [hji47] at H; exact H) | (simp only [hji47] at H ⊢; exact H)
                                          have hji47_ : (if 0 < x20_5 then x20_5 else 0) = ji47 := hji47
                                          have H' := Aside0.mk H
                                          clear H
                                          go_wp2
                                          go_loopg [23, 24] kj42 (fun kq v23 v24 w' => ∃ (x23_7 : Int) (x24_7 : Int), v23 = .int .i64 x23_7 ∧ v24 = .int .i64 x24_7 ∧ Aside0 (laws_FnCakes.l3 kq t231 (t231.length : Int) x10_1 (wrap64 (1 + (Int.tmod t245 4))) t246 t250 x20_5 x21_5 x22_42 x23_7 x24_7 = some r) ∧ Aside0 (kq ≤ kj42) ∧ Aside0 (Kd.R (Kd.int .i64) 3 w' w.heap.size (fun k_ => some k_ ≠ ((.slice Ao41 t246.length co41) : Value).ownBlock) (.slice Ao8 t231.length co8) t231) ∧ Aside0 (Kd.R (Kd.int .i64) 3 w' w.heap.size (fun k_ => some k_ ≠ ((.slice Ao8 t231.length co8) : Value).ownBlock) (.slice Ao41 t246.length co41) t246) ∧ Aside0 (Below w.heap.size w w'))
                                          case atStart => exact ⟨(0), (ji47), (by first | rfl | (simp; done) | (simp [*]; done)), (by first | rfl | (simp; done) | (simp only [← hji47] <;> (first | rfl | simp)) | (simp [*]; done)), H', ⟨Nat.le_refl _⟩, ⟨by (with_reducible repeat (first | apply Kd.R_alloc | apply Kd.R_drewN | apply Kd.R_drew)); exact HO_3.out⟩, ⟨by (with_reducible repeat (first | apply Kd.R_alloc | apply Kd.R_drewN | apply Kd.R_drew)); exact HO_17.out⟩, ⟨by repeat (first | (with_reducible first | exact HB.out | apply below_alloc | apply pw_below_drewN | apply below_drew1) | exact HB.out)⟩⟩
                                          case round =>
                                            clear H'
                                            try clear c1
                                            try clear c2
                                            try clear p2
                                            try clear q2
                                            try clear hx2
                                            try clear c3
                                            try clear c4
                                            try clear p6
                                            try clear c9
                                            try clear c10
                                            try clear c11
                                            try clear c12
                                            try clear c12b0
                                            try clear c13
                                            try clear c13b0
                                            try clear c14
                                            try clear c14b0
                                            try clear c15
                                            try clear c15b0
                                            try clear c16
                                            try clear c16b0
                                            try clear c18
                                            try clear c18b0
                                            try clear c19
                                            try clear c19b0
                                            try clear c21
                                            try clear c21b0
                                            try clear c21b1
                                            try clear c22
                                            try clear c22b0
                                            try clear c23
                                            try clear c23b0
                                            try clear c24
                                            try clear p24
                                            try clear q24
                                            try clear hx24
                                            try clear c25
                                            try clear c25b0
                                            try clear p25
                                            try clear q25
                                            try clear hx25
                                            try clear c26
                                            try clear c26b0
                                            try clear c27
                                            try clear c27b0
                                            try clear c29
                                            try clear c29b0
                                            try clear c36
                                            try clear c36b0
                                            try clear c36b1
                                            try clear c36b2
                                            try clear c37
                                            try clear c37b0
                                            try clear c38
                                            try clear c39
                                            try clear c40
                                            try clear c40b0
                                            try clear c40b1
                                            try clear c42
                                            try clear c42b0
                                            try clear c44
                                            try clear c44b0
                                            try clear c45
                                            try clear c45b0
                                            try clear c46
                                            try clear c46b0
                                            try clear hx241_0
                                            try clear hx242_0
                                            try clear hx243_0
                                            try clear hx244_0
                                            try clear hx253_0
                                            try clear p2
                                            try clear p24
                                            try clear p241
                                            try clear p242
                                            try clear p243
                                            try clear p244
                                            try clear p25
                                            try clear p253
                                            try clear p6
                                            try clear q2
                                            try clear q24
                                            try clear q241
                                            try clear q242
                                            try clear q243
                                            try clear q244
                                            try clear q25
                                            try clear q253
                                            obtain ⟨x23_7, x24_7, rfl, rfl, HA, HK7, HO_3, HO_17, HB⟩ := hrel
                                            cases gk with
                                            | zero => exact absurd HA.out (by simp [laws_FnCakes.l3])
                                            | succ k7 =>
                                              have H := HA.out
                                              clear HA
                                              simp only [laws_FnCakes.l3] at H
                                              by_cases c48 : x24_7 < x22_42
                                              · rw [if_pos c48] at H
                                                have c48b0 : decide (x24_7 < x22_42) = true := decide_eq_true c48
                                                clear c48
                                                by_cases c49 : x24_7 < (t231.length : Int)
                                                · rw [if_pos c49] at H
                                                  have c49b0 : decide (x24_7 < (t231.length : Int)) = true := decide_eq_true c49
                                                  clear c49
                                                  by_cases c50 : 0 ≤ x24_7
                                                  · rw [if_pos c50] at H
                                                    have c50b0 : decide (0 ≤ x24_7) = true := decide_eq_true c50
                                                    clear c50
                                                    by_cases c51 : x24_7 < (t231.length : Int)
                                                    · rw [if_pos c51] at H
                                                      have c51b0 : decide (x24_7 < (t231.length : Int)) = true := decide_eq_true c51
                                                      clear c51
                                                      have H' := Aside0.mk H
                                                      clear H
                                                      have p254 : 0 ≤ (x24_7 : Int) := of_decide_eq_true (by first | (with_reducible assumption) | assumption)
                                                      have q254 : x24_7 < (t231.length : Int) := of_decide_eq_true (by first | (with_reducible assumption) | assumption)
                                                      obtain ⟨ad254, e254, hx254_0⟩ := Kd.at_int (Kd.R_reads' HO_3.out).2.2 x24_7 p254 q254
                                                      cases e254
                                                      replace p254 := eq_true p254
                                                      replace q254 := eq_true q254
                                                      go_wp2
                                                      go_roundg k7
                                                      case measure => have := HK1.out; have := HJ16.out; have := HK3.out; have := HJ32.out; have := HK5.out; have := HJ42.out; have := HK7.out; omega
                                                      case rel => exact ⟨(wrap64 (x23_7 + (rd t231 x24_7))), (wrap64 (x24_7 + 1)), (by first | rfl | (simp; done) | (simp [*]; done)), (by first | rfl | (simp; done) | (simp [*]; done)), H', ⟨by have := HK1.out; have := HJ16.out; have := HK3.out; have := HJ32.out; have := HK5.out; have := HJ42.out; have := HK7.out; omega⟩, ⟨by (with_reducible repeat (first | apply Kd.R_alloc | apply Kd.R_drewN | apply Kd.R_drew)); exact HO_3.out⟩, ⟨by (with_reducible repeat (first | apply Kd.R_alloc | apply Kd.R_drewN | apply Kd.R_drew)); exact HO_17.out⟩, ⟨by repeat (first | (with_reducible first | exact HB.out | apply below_alloc | apply pw_below_drewN | apply below_drew1) | exact HB.out)⟩⟩
                                                    · rw [if_neg c51] at H
                                                      exact absurd H (by simp)
                                                  · rw [if_neg c50] at H
                                                    exact absurd H (by simp)
                                                · rw [if_neg c49] at H
                                                  have c49b0 : decide (x24_7 < (t231.length : Int)) = false := decide_eq_false c49
                                                  clear c49
                                                  by_cases c52 : x22_42 ≤ x20_5
                                                  · rw [if_pos c52] at H
                                                    have c52b0 : decide (x22_42 ≤ x20_5) = true := decide_eq_true c52
                                                    clear c52
                                                    exact absurd ((Option.some.inj H).trans HR_.out) (by decide)
                                                  · rw [if_neg c52] at H
                                                    have c52b0 : decide (x22_42 ≤ x20_5) = false := decide_eq_false c52
                                                    clear c52
                                                    by_cases c53 : (wrap64 (x23_7 * (wrap64 (1 + (Int.tmod t245 4))))) < x10_1
                                                    · rw [if_pos c53] at H
                                                      have c53b0 : decide ((wrap64 (x23_7 * (wrap64 (1 + (Int.tmod t245 4))))) < x10_1) = true := decide_eq_true c53
                                                      clear c53
                                                      exact absurd ((Option.some.inj H).trans HR_.out) (by decide)
                                                    · rw [if_neg c53] at H
                                                      have c53b0 : decide ((wrap64 (x23_7 * (wrap64 (1 + (Int.tmod t245 4))))) < x10_1) = false := decide_eq_false c53
                                                      clear c53
                                                      have H' := Aside0.mk H
                                                      clear H
                                                      go_wp2
                                                      go_roundg k7
                                                      case measure => have := HK1.out; have := HJ16.out; have := HK3.out; have := HJ32.out; have := HK5.out; have := HJ42.out; have := HK7.out; omega
                                                      case rel => exact ⟨(x22_42), (wrap64 (x21_5 + 1)), (by first | rfl | (simp; done) | (simp [*]; done)), (by first | rfl | (simp; done) | (simp [*]; done)), H', ⟨by have := HK1.out; have := HJ16.out; have := HK3.out; have := HJ32.out; have := HK5.out; have := HJ42.out; have := HK7.out; omega⟩, ⟨by (with_reducible repeat (first | apply Kd.R_alloc | apply Kd.R_drewN | apply Kd.R_drew)); exact HO_3.out⟩, ⟨by (with_reducible repeat (first | apply Kd.R_alloc | apply Kd.R_drewN | apply Kd.R_drew)); exact HO_17.out⟩, ⟨by repeat (first | (with_reducible first | exact HB.out | apply below_alloc | apply pw_below_drewN | apply below_drew1) | exact HB.out)⟩⟩
                                              · rw [if_neg c48] at H
                                                have c48b0 : decide (x24_7 < x22_42) = false := decide_eq_false c48
                                                clear c48
                                                by_cases c54 : x22_42 ≤ x20_5
                                                · rw [if_pos c54] at H
                                                  have c54b0 : decide (x22_42 ≤ x20_5) = true := decide_eq_true c54
                                                  clear c54
                                                  exact absurd ((Option.some.inj H).trans HR_.out) (by decide)
                                                · rw [if_neg c54] at H
                                                  have c54b0 : decide (x22_42 ≤ x20_5) = false := decide_eq_false c54
                                                  clear c54
                                                  by_cases c55 : (wrap64 (x23_7 * (wrap64 (1 + (Int.tmod t245 4))))) < x10_1
                                                  · rw [if_pos c55] at H
                                                    have c55b0 : decide ((wrap64 (x23_7 * (wrap64 (1 + (Int.tmod t245 4))))) < x10_1) = true := decide_eq_true c55
                                                    clear c55
                                                    exact absurd ((Option.some.inj H).trans HR_.out) (by decide)
                                                  · rw [if_neg c55] at H
                                                    have c55b0 : decide ((wrap64 (x23_7 * (wrap64 (1 + (Int.tmod t245 4))))) < x10_1) = false := decide_eq_false c55
                                                    clear c55
                                                    have H' := Aside0.mk H
                                                    clear H
                                                    go_wp2
                                                    go_roundg k7
                                                    case measure => have := HK1.out; have := HJ16.out; have := HK3.out; have := HJ32.out; have := HK5.out; have := HJ42.out; have := HK7.out; omega
                                                    case rel => exact ⟨(x22_42), (wrap64 (x21_5 + 1)), (by first | rfl | (simp; done) | (simp [*]; done)), (by first | rfl | (simp; done) | (simp [*]; done)), H', ⟨by have := HK1.out; have := HJ16.out; have := HK3.out; have := HJ32.out; have := HK5.out; have := HJ42.out; have := HK7.out; omega⟩, ⟨by (with_reducible repeat (first | apply Kd.R_alloc | apply Kd.R_drewN | apply Kd.R_drew)); exact HO_3.out⟩, ⟨by (with_reducible repeat (first | apply Kd.R_alloc | apply Kd.R_drewN | apply Kd.R_drew)); exact HO_17.out⟩, ⟨by repeat (first | (with_reducible first | exact HB.out | apply below_alloc | apply pw_below_drewN | apply below_drew1) | exact HB.out)⟩⟩
                                    · rw [if_neg c42] at H
                                      have c42b0 : decide (x21_5 < (wrap64 (1 + (Int.tmod t245 4)))) = false := decide_eq_false c42
                                      clear c42
                                      replace H := Option.bind_eq_some_iff.mp H
                                      obtain ⟨t251, A560, H⟩ := H
                                      replace H : (if t251 = true then ((impl_BestShares.f k5 t231 1).bind fun t252 => (if t252 = x10_1 then (some (decide ((wrap64 (t250 * (wrap64 (1 + (Int.tmod t245 4))))) ≤ x10_1))) else (some false))) else (some false)) = some r := H
                                      have A56 := Aside0.mk A560
                                      clear A560
                                      by_cases c57 : t251 = true
                                      · subst c57
                                        have H1 : ((impl_BestShares.f k5 t231 1).bind fun t252 => (if t252 = x10_1 then (some (decide ((wrap64 (t250 * (wrap64 (1 + (Int.tmod t245 4))))) ≤ x10_1))) else (some false))) = some r := by rw [if_pos rfl] at H; exact H
                                        clear H
                                        have H := H1
                                        clear H1
                                        replace H := Option.bind_eq_some_iff.mp H
                                        obtain ⟨t252, A580, H⟩ := H
                                        replace H : (if t252 = x10_1 then (some (decide ((wrap64 (t250 * (wrap64 (1 + (Int.tmod t245 4))))) ≤ x10_1))) else (some false)) = some r := H
                                        have A58 := Aside0.mk A580
                                        clear A580
                                        by_cases c59 : t252 = x10_1
                                        · rw [if_pos c59] at H
                                          have c59b0 : (t252 == x10_1) = true := beq_iff_eq.mpr c59
                                          have c59b1 : (t252 != x10_1) = false := bne_eq_false_iff_eq.mpr c59
                                          clear c59
                                          obtain rfl := Option.some.inj H
                                          go_wp2_with (first | ((with_reducible refine gate_callee (f := 16) rfl ?_); refine goesL_ (some 203) rfl rfl Try.func16 (by kernel_rfl) rfl #[.slice Ao8 t231.length co8] rfl (by (try simp only [List.map_toArray, List.map_cons, List.map_nil]); first | done | rfl | (simp only [List.length_drop, List.length_take]; rfl)) ?_; (with_reducible refine (impl_CakeOk.calls _ _ t231 true _ ?side1 ?side2 A56.out).mono ?_); (case side1 => repeat (first | exact (Kd.R_reads' HO_3.out).2.2 | (with_reducible refine Kd.C_alloc ?_ _) | (with_reducible refine Kd.C_drewN ?_ _) | (with_reducible refine Kd.C_drew ?_))); (case side2 => exact (Kd.R_reads' HO_3.out).2.1); rintro e w60 ⟨rfl, hb⟩; refine ⟨_, rfl, ?_⟩; have n0_ := Aside0.mk (Kd.R_below (by (with_reducible repeat (first | apply Kd.R_alloc | apply Kd.R_drewN | apply Kd.R_drew)); exact HO_3.out) hb); have n1_ := Aside0.mk (Kd.R_below (by (with_reducible repeat (first | apply Kd.R_alloc | apply Kd.R_drewN | apply Kd.R_drew)); exact HO_17.out) hb); have n2_ := Aside0.mk (below_step (by repeat (first | (with_reducible first | exact HB.out | apply below_alloc | apply pw_below_drewN | apply below_drew1) | exact HB.out)) hb); clear HO_3; clear HO_17; clear HB; have HO_3 := n0_; have HO_17 := n1_; have HB := n2_; clear n0_ n1_ n2_; (try clear hb); (try clear hb2); (try clear hk); (try clear hi)) | (go_at_call 15; (with_reducible refine (impl_BestShares.calls k5 _ _ t231 1 t252 _ ?side1 ?side2 A58.out).mono ?_); (case side1 => repeat (first | exact (Kd.R_reads' HO_3.out).2.2 | (with_reducible refine Kd.C_alloc ?_ _) | (with_reducible refine Kd.C_drewN ?_ _) | (with_reducible refine Kd.C_drew ?_))); (case side2 => exact (Kd.R_reads' HO_3.out).2.1); rintro e w61 ⟨rfl, hb⟩; have n0_ := Aside0.mk (Kd.R_below (by (with_reducible repeat (first | apply Kd.R_alloc | apply Kd.R_drewN | apply Kd.R_drew)); exact HO_3.out) hb); have n1_ := Aside0.mk (Kd.R_below (by (with_reducible repeat (first | apply Kd.R_alloc | apply Kd.R_drewN | apply Kd.R_drew)); exact HO_17.out) hb); have n2_ := Aside0.mk (below_step (by repeat (first | (with_reducible first | exact HB.out | apply below_alloc | apply pw_below_drewN | apply below_drew1) | exact HB.out)) hb); clear HO_3; clear HO_17; clear HB; have HO_3 := n0_; have HO_17 := n1_; have HB := n2_; clear n0_ n1_ n2_; (try clear hb); (try clear hb2); (try clear hk); (try clear hi)))
                                          go_ret
                                          exact ⟨by first | rfl | (simp [errW_none, errW_some] <;> rfl) | (simp [*, errW_none, errW_some] <;> rfl), by repeat (first | (with_reducible first | exact HB.out | apply below_alloc | apply pw_below_drewN | apply below_drew1) | exact HB.out)⟩
                                        · rw [if_neg c59] at H
                                          have c59b0 : (t252 == x10_1) = false := beq_eq_false_iff_ne.mpr c59
                                          have c59b1 : (t252 != x10_1) = true := bne_iff_ne.mpr c59
                                          exact absurd ((Option.some.inj H).trans HR_.out) (by decide)
                                      · replace c57 := Bool.eq_false_iff.mpr c57
                                        subst c57
                                        have H1 : (some false) = some r := by rw [if_neg (show ¬ (false = true) by decide)] at H; exact H
                                        clear H
                                        have H := H1
                                        clear H1
                                        exact absurd ((Option.some.inj H).trans HR_.out) (by decide)
                              · rw [if_neg c40] at H
                                have c40b0 : ((t246.length : Int) == (wrap64 ((wrap64 (1 + (Int.tmod t245 4))) - 1))) = false := beq_eq_false_iff_ne.mpr c40
                                have c40b1 : ((t246.length : Int) != (wrap64 ((wrap64 (1 + (Int.tmod t245 4))) - 1))) = true := bne_iff_ne.mpr c40
                                exact absurd ((Option.some.inj H).trans HR_.out) (by decide)
                            · replace c39 := Bool.eq_false_iff.mpr c39
                              subst c39
                              have H1 : ((impl_CakeOk.f t231).bind fun t255 => (if t255 = true then ((impl_BestShares.f kj32 t231 1).bind fun t256 => (if t256 = x10_1 then (some (decide ((wrap64 (t250 * (wrap64 (1 + (Int.tmod t245 4))))) ≤ x10_1))) else (some false))) else (some false))) = some r := by rw [if_neg (show ¬ (false = true) by decide)] at H; exact H
                              clear H
                              have H := H1
                              clear H1
                              replace H := Option.bind_eq_some_iff.mp H
                              obtain ⟨t255, A620, H⟩ := H
                              replace H : (if t255 = true then ((impl_BestShares.f kj32 t231 1).bind fun t256 => (if t256 = x10_1 then (some (decide ((wrap64 (t250 * (wrap64 (1 + (Int.tmod t245 4))))) ≤ x10_1))) else (some false))) else (some false)) = some r := H
                              have A62 := Aside0.mk A620
                              clear A620
                              by_cases c63 : t255 = true
                              · subst c63
                                have H1 : ((impl_BestShares.f kj32 t231 1).bind fun t256 => (if t256 = x10_1 then (some (decide ((wrap64 (t250 * (wrap64 (1 + (Int.tmod t245 4))))) ≤ x10_1))) else (some false))) = some r := by rw [if_pos rfl] at H; exact H
                                clear H
                                have H := H1
                                clear H1
                                replace H := Option.bind_eq_some_iff.mp H
                                obtain ⟨t256, A640, H⟩ := H
                                replace H : (if t256 = x10_1 then (some (decide ((wrap64 (t250 * (wrap64 (1 + (Int.tmod t245 4))))) ≤ x10_1))) else (some false)) = some r := H
                                have A64 := Aside0.mk A640
                                clear A640
                                by_cases c65 : t256 = x10_1
                                · rw [if_pos c65] at H
                                  have c65b0 : (t256 == x10_1) = true := beq_iff_eq.mpr c65
                                  have c65b1 : (t256 != x10_1) = false := bne_eq_false_iff_eq.mpr c65
                                  clear c65
                                  obtain rfl := Option.some.inj H
                                  go_wp2_with (first | ((with_reducible refine gate_callee (f := 16) rfl ?_); refine goesL_ (some 203) rfl rfl Try.func16 (by kernel_rfl) rfl #[.slice Ao8 t231.length co8] rfl (by (try simp only [List.map_toArray, List.map_cons, List.map_nil]); first | done | rfl | (simp only [List.length_drop, List.length_take]; rfl)) ?_; (with_reducible refine (impl_CakeOk.calls _ _ t231 true _ ?side1 ?side2 A62.out).mono ?_); (case side1 => repeat (first | exact (Kd.R_reads' HO_3.out).2.2 | (with_reducible refine Kd.C_alloc ?_ _) | (with_reducible refine Kd.C_drewN ?_ _) | (with_reducible refine Kd.C_drew ?_))); (case side2 => exact (Kd.R_reads' HO_3.out).2.1); rintro e w66 ⟨rfl, hb⟩; refine ⟨_, rfl, ?_⟩; have n0_ := Aside0.mk (Kd.R_below (by (with_reducible repeat (first | apply Kd.R_alloc | apply Kd.R_drewN | apply Kd.R_drew)); exact HO_3.out) hb); have n1_ := Aside0.mk (Kd.R_below (by (with_reducible repeat (first | apply Kd.R_alloc | apply Kd.R_drewN | apply Kd.R_drew)); exact HO_17.out) hb); have n2_ := Aside0.mk (below_step (by repeat (first | (with_reducible first | exact HB.out | apply below_alloc | apply pw_below_drewN | apply below_drew1) | exact HB.out)) hb); clear HO_3; clear HO_17; clear HB; have HO_3 := n0_; have HO_17 := n1_; have HB := n2_; clear n0_ n1_ n2_; (try clear hb); (try clear hb2); (try clear hk); (try clear hi)) | (go_at_call 15; (with_reducible refine (impl_BestShares.calls kj32 _ _ t231 1 t256 _ ?side1 ?side2 A64.out).mono ?_); (case side1 => repeat (first | exact (Kd.R_reads' HO_3.out).2.2 | (with_reducible refine Kd.C_alloc ?_ _) | (with_reducible refine Kd.C_drewN ?_ _) | (with_reducible refine Kd.C_drew ?_))); (case side2 => exact (Kd.R_reads' HO_3.out).2.1); rintro e w67 ⟨rfl, hb⟩; have n0_ := Aside0.mk (Kd.R_below (by (with_reducible repeat (first | apply Kd.R_alloc | apply Kd.R_drewN | apply Kd.R_drew)); exact HO_3.out) hb); have n1_ := Aside0.mk (Kd.R_below (by (with_reducible repeat (first | apply Kd.R_alloc | apply Kd.R_drewN | apply Kd.R_drew)); exact HO_17.out) hb); have n2_ := Aside0.mk (below_step (by repeat (first | (with_reducible first | exact HB.out | apply below_alloc | apply pw_below_drewN | apply below_drew1) | exact HB.out)) hb); clear HO_3; clear HO_17; clear HB; have HO_3 := n0_; have HO_17 := n1_; have HB := n2_; clear n0_ n1_ n2_; (try clear hb); (try clear hb2); (try clear hk); (try clear hi)))
                                  go_ret
                                  exact ⟨by first | rfl | (simp [errW_none, errW_some] <;> rfl) | (simp [*, errW_none, errW_some] <;> rfl), by repeat (first | (with_reducible first | exact HB.out | apply below_alloc | apply pw_below_drewN | apply below_drew1) | exact HB.out)⟩
                                · rw [if_neg c65] at H
                                  have c65b0 : (t256 == x10_1) = false := beq_eq_false_iff_ne.mpr c65
                                  have c65b1 : (t256 != x10_1) = true := bne_iff_ne.mpr c65
                                  exact absurd ((Option.some.inj H).trans HR_.out) (by decide)
                              · replace c63 := Bool.eq_false_iff.mpr c63
                                subst c63
                                have H1 : (some false) = some r := by rw [if_neg (show ¬ (false = true) by decide)] at H; exact H
                                clear H
                                have H := H1
                                clear H1
                                exact absurd ((Option.some.inj H).trans HR_.out) (by decide)

/-- THE ONE PURE STATEMENT of laws_FnCakes. -/
def laws_FnCakes.Pure : Prop := ∀ (l0 : List Int), (l0.length ≤ maxLen ∧ ∀ x ∈ l0, (Lit.int .u8 x).wf = true) → ∃ k, laws_FnCakes.f k l0 = some true

end Go.Proofs.Ytfalckmlbiiedaa.Q
