/- The functions that the seat's statements reach, as plain Lean functions, and that the program's calls answer what they say; no condition beyond the values read. Written by a program of this session's over the kit's print. -/
import Derived.Test.YtgibgapbbnbekaaQx0
import Derived.Test.YtgibgapbbnbekaaQx2
import Derived.Test.YtgibgapbbnbekaaQx3
import Derived.Test.YtgibgapbbnbekaaQx7
import Derived.Test.YtgibgapbbnbekaaQx9
import Derived.Test.YtgibgapbbnbekaaQx11
import Derived.Test.YtgibgapbbnbekaaQx12
import Derived.Test.YtgibgapbbnbekaaQx18
namespace Go.Proofs.Ytgibgapbbnbekaa.Q
open Go.RowKit Go.Proofs.YtgibgapbbnbekaaW.PrintWords Go.Proofs.YtgibgapbbnbekaaW.PrintLast Go.Proofs.YtgibgapbbnbekaaW.PrintMore
attribute [local go_sem] max2_int min2_int max_two min_two max_three min_three max_four min_four   -- for this text's walks alone
set_option linter.unusedVariables false
set_option linter.unusedSimpArgs false

/-! ### laws_FnThaws: function 7 -/
mutual
def laws_FnThaws.j0 : Nat → List (S25) → Int → List Int → Bool → Option (Bool)
  | 0, _, _, _, _ => none
  | k + 1, x3, x4, x5, x38 => if x38 = true then (some false) else (laws_FnThaws.l0 k x3 x4 x5 0)
def laws_FnThaws.l0 : Nat → List (S25) → Int → List Int → Int → Option (Bool)
  | 0, _, _, _, _ => none
  | k + 1, x3, x4, x5, x6 => if x6 < (x3.length : Int) then (if 0 ≤ x6 then ((impl_OutAt.f ((rd_T25 x3 x6).f0) ((rd_T25 x3 x6).f1) x4).bind fun bt319 => (laws_FnThaws.l1 k x3 x4 x5 x6 bt319.1 bt319.2.1 bt319.2.2 false 0)) else (none)) else (laws_FnThaws.l2 k x3 x4 x5 1)
def laws_FnThaws.l1 : Nat → List (S25) → Int → List Int → Int → Int → Int → Bool → Bool → Int → Option (Bool)
  | 0, _, _, _, _, _, _, _, _, _ => none
  | k + 1, x3, x4, x5, x6, x7, x8, x9, x10, x11 => if x11 < (x5.length : Int) then (if x10 = true then (laws_FnThaws.l1 k x3 x4 x5 x6 x7 x8 x9 true (wrap64 (x11 + 1))) else (if 0 ≤ x6 then (if x6 < (x3.length : Int) then (if 0 ≤ x11 then ((impl_IsGood.f ((rd_T25 x3 x6).f0) ((rd_T25 x3 x6).f1) (rd x5 x11) x4).bind fun t324 => (laws_FnThaws.l1 k x3 x4 x5 x6 x7 x8 x9 t324 (wrap64 (x11 + 1)))) else (none)) else (none)) else (none))) else (if x9 = true then (if 0 ≤ x6 then (if x6 < (x3.length : Int) then (if (wrap64 (x8 - x7)) = ((rd_T25 x3 x6).f1) then (if x8 = (wrap64 (x4 - ((rd_T25 x3 x6).f0))) then (if x10 = true then ((impl_IsGood.f ((rd_T25 x3 x6).f0) ((rd_T25 x3 x6).f1) x7 x4).bind fun t328 => (if t328 = true then ((impl_IsGood.f ((rd_T25 x3 x6).f0) ((rd_T25 x3 x6).f1) x8 x4).bind fun t330 => (if t330 = true then ((impl_IsGood.f ((rd_T25 x3 x6).f0) ((rd_T25 x3 x6).f1) (wrap64 (x7 - 1)) x4).bind fun t332 => (if t332 = true then (some false) else ((impl_IsGood.f ((rd_T25 x3 x6).f0) ((rd_T25 x3 x6).f1) (wrap64 (x8 + 1)) x4).bind fun t334 => (if t334 = true then (some false) else (laws_FnThaws.l0 k x3 x4 x5 (wrap64 (x6 + 1))))))) else (some false))) else (some false))) else (some false)) else (some false)) else (some false)) else (none)) else (none)) else (some false))
def laws_FnThaws.l2 : Nat → List (S25) → Int → List Int → Int → Option (Bool)
  | 0, _, _, _, _ => none
  | k + 1, x3, x4, x5, x12 => if x12 < (x5.length : Int) then (if 0 ≤ x12 then (if 0 ≤ (wrap64 (x12 - 1)) then (if (wrap64 (x12 - 1)) < (x5.length : Int) then (if (rd x5 x12) ≤ (rd x5 (wrap64 (x12 - 1))) then (some false) else (laws_FnThaws.l2 k x3 x4 x5 (wrap64 (x12 + 1)))) else (none)) else (none)) else (none)) else ((impl_OneTime.f k x3 x4).bind fun bt337 => (if (bt337.2 != ((x5.length : Int) == 1)) = true then (laws_FnThaws.j4 k x3 x4 bt337.1 bt337.2 true) else (if bt337.2 = true then (if 0 < (x5.length : Int) then (laws_FnThaws.j4 k x3 x4 bt337.1 bt337.2 (bt337.1 != (rd x5 0))) else (none)) else (laws_FnThaws.j4 k x3 x4 bt337.1 bt337.2 false))))
def laws_FnThaws.j4 : Nat → List (S25) → Int → Int → Bool → Bool → Option (Bool)
  | 0, _, _, _, _, _ => none
  | k + 1, x3, x4, x13, x14, x178 => if x178 = true then (some false) else (laws_FnThaws.l3 k x3 x4 x13 x14 0)
def laws_FnThaws.l3 : Nat → List (S25) → Int → Int → Bool → Int → Option (Bool)
  | 0, _, _, _, _, _ => none
  | k + 1, x3, x4, x13, x14, x15 => if x15 < (x3.length : Int) then (laws_FnThaws.j6 k x3 x4 x13 x14 x15 x14) else (laws_FnThaws.j6 k x3 x4 x13 x14 x15 false)
def laws_FnThaws.j6 : Nat → List (S25) → Int → Int → Bool → Int → Bool → Option (Bool)
  | 0, _, _, _, _, _, _ => none
  | k + 1, x3, x4, x13, x14, x15, x185 => if x185 = true then (if 0 ≤ x15 then (if x15 < (x3.length : Int) then ((impl_IsGood.f ((rd_T25 x3 x15).f0) ((rd_T25 x3 x15).f1) x13 x4).bind fun t341 => (if t341 = true then (laws_FnThaws.l3 k x3 x4 x13 x14 (wrap64 (x15 + 1))) else (some false))) else (none)) else (none)) else ((impl_IsGood.f 3 1 5 9).bind fun t342 => (if t342 = true then ((impl_IsGood.f 3 1 5 10).bind fun t343 => (some (!t343))) else (some false)))
end
def laws_FnThaws.f (k : Nat) (l0 : List Int) : Option (Bool) := (laws_big.f l0).bind fun t310 => (if t310 = true then (some true) else ((spec_DrawFrozen.f k l0).bind fun t311 => ((laws_at.f l0 0).bind fun t314 => ((impl_FewestTimes.f k t311 t314).bind fun t315 => (if (((t315.length : Int) == 0) != ((t311.length : Int) == 0)) = true then (laws_FnThaws.j0 k t311 t314 t315 true) else (laws_FnThaws.j0 k t311 t314 t315 (decide ((t315.length : Int) > (t311.length : Int)))))))))
theorem laws_FnThaws.mono_l : ∀ k, (∀ y0 y1 y2 y3, LeO (laws_FnThaws.j0 k y0 y1 y2 y3) (laws_FnThaws.j0 (k + 1) y0 y1 y2 y3)) ∧ (∀ y0 y1 y2 y3, LeO (laws_FnThaws.l0 k y0 y1 y2 y3) (laws_FnThaws.l0 (k + 1) y0 y1 y2 y3)) ∧ (∀ y0 y1 y2 y3 y4 y5 y6 y7 y8, LeO (laws_FnThaws.l1 k y0 y1 y2 y3 y4 y5 y6 y7 y8) (laws_FnThaws.l1 (k + 1) y0 y1 y2 y3 y4 y5 y6 y7 y8)) ∧ (∀ y0 y1 y2 y3, LeO (laws_FnThaws.l2 k y0 y1 y2 y3) (laws_FnThaws.l2 (k + 1) y0 y1 y2 y3)) ∧ (∀ y0 y1 y2 y3 y4, LeO (laws_FnThaws.j4 k y0 y1 y2 y3 y4) (laws_FnThaws.j4 (k + 1) y0 y1 y2 y3 y4)) ∧ (∀ y0 y1 y2 y3 y4, LeO (laws_FnThaws.l3 k y0 y1 y2 y3 y4) (laws_FnThaws.l3 (k + 1) y0 y1 y2 y3 y4)) ∧ (∀ y0 y1 y2 y3 y4 y5, LeO (laws_FnThaws.j6 k y0 y1 y2 y3 y4 y5) (laws_FnThaws.j6 (k + 1) y0 y1 y2 y3 y4 y5))
  | 0 => ⟨fun _ _ _ _ r h => by simp [laws_FnThaws.j0] at h, fun _ _ _ _ r h => by simp [laws_FnThaws.l0] at h, fun _ _ _ _ _ _ _ _ _ r h => by simp [laws_FnThaws.l1] at h, fun _ _ _ _ r h => by simp [laws_FnThaws.l2] at h, fun _ _ _ _ _ r h => by simp [laws_FnThaws.j4] at h, fun _ _ _ _ _ r h => by simp [laws_FnThaws.l3] at h, fun _ _ _ _ _ _ r h => by simp [laws_FnThaws.j6] at h⟩
  | k + 1 => by
    obtain ⟨ih0, ih1, ih2, ih3, ih4, ih5, ih6⟩ := laws_FnThaws.mono_l k
    refine ⟨?_, ?_, ?_, ?_, ?_, ?_, ?_⟩
    · intro y0 y1 y2 y3
      unfold laws_FnThaws.j0
      repeat' first
      | (with_reducible exact ih0 _ _ _ _)
      | (with_reducible exact ih1 _ _ _ _)
      | (with_reducible exact ih2 _ _ _ _ _ _ _ _ _)
      | (with_reducible exact ih3 _ _ _ _)
      | (with_reducible exact ih4 _ _ _ _ _)
      | (with_reducible exact ih5 _ _ _ _ _)
      | (with_reducible exact ih6 _ _ _ _ _ _)
      | (with_reducible exact impl_FewestTimes.mono _ _ _)
      | (with_reducible exact impl_OneTime.mono _ _ _)
      | (with_reducible exact spec_DrawFrozen.mono _ _)
      | (with_reducible exact LeO.refl _)
      | (with_reducible exact LeO.none _)
      | (with_reducible refine LeO.ite ?_ ?_)
      | (with_reducible refine LeO.bind ?_ (fun _ => ?_))
      | exact ih0 _ _ _ _
      | exact ih1 _ _ _ _
      | exact ih2 _ _ _ _ _ _ _ _ _
      | exact ih3 _ _ _ _
      | exact ih4 _ _ _ _ _
      | exact ih5 _ _ _ _ _
      | exact ih6 _ _ _ _ _ _
      | exact impl_FewestTimes.mono _ _ _
      | exact impl_OneTime.mono _ _ _
      | exact spec_DrawFrozen.mono _ _
      | exact LeO.none _
      | refine LeO.ite ?_ ?_
      | refine LeO.bind ?_ (fun _ => ?_)
    · intro y0 y1 y2 y3
      unfold laws_FnThaws.l0
      repeat' first
      | (with_reducible exact ih0 _ _ _ _)
      | (with_reducible exact ih1 _ _ _ _)
      | (with_reducible exact ih2 _ _ _ _ _ _ _ _ _)
      | (with_reducible exact ih3 _ _ _ _)
      | (with_reducible exact ih4 _ _ _ _ _)
      | (with_reducible exact ih5 _ _ _ _ _)
      | (with_reducible exact ih6 _ _ _ _ _ _)
      | (with_reducible exact impl_FewestTimes.mono _ _ _)
      | (with_reducible exact impl_OneTime.mono _ _ _)
      | (with_reducible exact spec_DrawFrozen.mono _ _)
      | (with_reducible exact LeO.refl _)
      | (with_reducible exact LeO.none _)
      | (with_reducible refine LeO.ite ?_ ?_)
      | (with_reducible refine LeO.bind ?_ (fun _ => ?_))
      | exact ih0 _ _ _ _
      | exact ih1 _ _ _ _
      | exact ih2 _ _ _ _ _ _ _ _ _
      | exact ih3 _ _ _ _
      | exact ih4 _ _ _ _ _
      | exact ih5 _ _ _ _ _
      | exact ih6 _ _ _ _ _ _
      | exact impl_FewestTimes.mono _ _ _
      | exact impl_OneTime.mono _ _ _
      | exact spec_DrawFrozen.mono _ _
      | exact LeO.none _
      | refine LeO.ite ?_ ?_
      | refine LeO.bind ?_ (fun _ => ?_)
    · intro y0 y1 y2 y3 y4 y5 y6 y7 y8
      unfold laws_FnThaws.l1
      repeat' first
      | (with_reducible exact ih0 _ _ _ _)
      | (with_reducible exact ih1 _ _ _ _)
      | (with_reducible exact ih2 _ _ _ _ _ _ _ _ _)
      | (with_reducible exact ih3 _ _ _ _)
      | (with_reducible exact ih4 _ _ _ _ _)
      | (with_reducible exact ih5 _ _ _ _ _)
      | (with_reducible exact ih6 _ _ _ _ _ _)
      | (with_reducible exact impl_FewestTimes.mono _ _ _)
      | (with_reducible exact impl_OneTime.mono _ _ _)
      | (with_reducible exact spec_DrawFrozen.mono _ _)
      | (with_reducible exact LeO.refl _)
      | (with_reducible exact LeO.none _)
      | (with_reducible refine LeO.ite ?_ ?_)
      | (with_reducible refine LeO.bind ?_ (fun _ => ?_))
      | exact ih0 _ _ _ _
      | exact ih1 _ _ _ _
      | exact ih2 _ _ _ _ _ _ _ _ _
      | exact ih3 _ _ _ _
      | exact ih4 _ _ _ _ _
      | exact ih5 _ _ _ _ _
      | exact ih6 _ _ _ _ _ _
      | exact impl_FewestTimes.mono _ _ _
      | exact impl_OneTime.mono _ _ _
      | exact spec_DrawFrozen.mono _ _
      | exact LeO.none _
      | refine LeO.ite ?_ ?_
      | refine LeO.bind ?_ (fun _ => ?_)
    · intro y0 y1 y2 y3
      unfold laws_FnThaws.l2
      repeat' first
      | (with_reducible exact ih0 _ _ _ _)
      | (with_reducible exact ih1 _ _ _ _)
      | (with_reducible exact ih2 _ _ _ _ _ _ _ _ _)
      | (with_reducible exact ih3 _ _ _ _)
      | (with_reducible exact ih4 _ _ _ _ _)
      | (with_reducible exact ih5 _ _ _ _ _)
      | (with_reducible exact ih6 _ _ _ _ _ _)
      | (with_reducible exact impl_FewestTimes.mono _ _ _)
      | (with_reducible exact impl_OneTime.mono _ _ _)
      | (with_reducible exact spec_DrawFrozen.mono _ _)
      | (with_reducible exact LeO.refl _)
      | (with_reducible exact LeO.none _)
      | (with_reducible refine LeO.ite ?_ ?_)
      | (with_reducible refine LeO.bind ?_ (fun _ => ?_))
      | exact ih0 _ _ _ _
      | exact ih1 _ _ _ _
      | exact ih2 _ _ _ _ _ _ _ _ _
      | exact ih3 _ _ _ _
      | exact ih4 _ _ _ _ _
      | exact ih5 _ _ _ _ _
      | exact ih6 _ _ _ _ _ _
      | exact impl_FewestTimes.mono _ _ _
      | exact impl_OneTime.mono _ _ _
      | exact spec_DrawFrozen.mono _ _
      | exact LeO.none _
      | refine LeO.ite ?_ ?_
      | refine LeO.bind ?_ (fun _ => ?_)
    · intro y0 y1 y2 y3 y4
      unfold laws_FnThaws.j4
      repeat' first
      | (with_reducible exact ih0 _ _ _ _)
      | (with_reducible exact ih1 _ _ _ _)
      | (with_reducible exact ih2 _ _ _ _ _ _ _ _ _)
      | (with_reducible exact ih3 _ _ _ _)
      | (with_reducible exact ih4 _ _ _ _ _)
      | (with_reducible exact ih5 _ _ _ _ _)
      | (with_reducible exact ih6 _ _ _ _ _ _)
      | (with_reducible exact impl_FewestTimes.mono _ _ _)
      | (with_reducible exact impl_OneTime.mono _ _ _)
      | (with_reducible exact spec_DrawFrozen.mono _ _)
      | (with_reducible exact LeO.refl _)
      | (with_reducible exact LeO.none _)
      | (with_reducible refine LeO.ite ?_ ?_)
      | (with_reducible refine LeO.bind ?_ (fun _ => ?_))
      | exact ih0 _ _ _ _
      | exact ih1 _ _ _ _
      | exact ih2 _ _ _ _ _ _ _ _ _
      | exact ih3 _ _ _ _
      | exact ih4 _ _ _ _ _
      | exact ih5 _ _ _ _ _
      | exact ih6 _ _ _ _ _ _
      | exact impl_FewestTimes.mono _ _ _
      | exact impl_OneTime.mono _ _ _
      | exact spec_DrawFrozen.mono _ _
      | exact LeO.none _
      | refine LeO.ite ?_ ?_
      | refine LeO.bind ?_ (fun _ => ?_)
    · intro y0 y1 y2 y3 y4
      unfold laws_FnThaws.l3
      repeat' first
      | (with_reducible exact ih0 _ _ _ _)
      | (with_reducible exact ih1 _ _ _ _)
      | (with_reducible exact ih2 _ _ _ _ _ _ _ _ _)
      | (with_reducible exact ih3 _ _ _ _)
      | (with_reducible exact ih4 _ _ _ _ _)
      | (with_reducible exact ih5 _ _ _ _ _)
      | (with_reducible exact ih6 _ _ _ _ _ _)
      | (with_reducible exact impl_FewestTimes.mono _ _ _)
      | (with_reducible exact impl_OneTime.mono _ _ _)
      | (with_reducible exact spec_DrawFrozen.mono _ _)
      | (with_reducible exact LeO.refl _)
      | (with_reducible exact LeO.none _)
      | (with_reducible refine LeO.ite ?_ ?_)
      | (with_reducible refine LeO.bind ?_ (fun _ => ?_))
      | exact ih0 _ _ _ _
      | exact ih1 _ _ _ _
      | exact ih2 _ _ _ _ _ _ _ _ _
      | exact ih3 _ _ _ _
      | exact ih4 _ _ _ _ _
      | exact ih5 _ _ _ _ _
      | exact ih6 _ _ _ _ _ _
      | exact impl_FewestTimes.mono _ _ _
      | exact impl_OneTime.mono _ _ _
      | exact spec_DrawFrozen.mono _ _
      | exact LeO.none _
      | refine LeO.ite ?_ ?_
      | refine LeO.bind ?_ (fun _ => ?_)
    · intro y0 y1 y2 y3 y4 y5
      unfold laws_FnThaws.j6
      repeat' first
      | (with_reducible exact ih0 _ _ _ _)
      | (with_reducible exact ih1 _ _ _ _)
      | (with_reducible exact ih2 _ _ _ _ _ _ _ _ _)
      | (with_reducible exact ih3 _ _ _ _)
      | (with_reducible exact ih4 _ _ _ _ _)
      | (with_reducible exact ih5 _ _ _ _ _)
      | (with_reducible exact ih6 _ _ _ _ _ _)
      | (with_reducible exact impl_FewestTimes.mono _ _ _)
      | (with_reducible exact impl_OneTime.mono _ _ _)
      | (with_reducible exact spec_DrawFrozen.mono _ _)
      | (with_reducible exact LeO.refl _)
      | (with_reducible exact LeO.none _)
      | (with_reducible refine LeO.ite ?_ ?_)
      | (with_reducible refine LeO.bind ?_ (fun _ => ?_))
      | exact ih0 _ _ _ _
      | exact ih1 _ _ _ _
      | exact ih2 _ _ _ _ _ _ _ _ _
      | exact ih3 _ _ _ _
      | exact ih4 _ _ _ _ _
      | exact ih5 _ _ _ _ _
      | exact ih6 _ _ _ _ _ _
      | exact impl_FewestTimes.mono _ _ _
      | exact impl_OneTime.mono _ _ _
      | exact spec_DrawFrozen.mono _ _
      | exact LeO.none _
      | refine LeO.ite ?_ ?_
      | refine LeO.bind ?_ (fun _ => ?_)
theorem laws_FnThaws.mono : ∀ a0 k, LeO (laws_FnThaws.f k a0) (laws_FnThaws.f (k + 1) a0) := by
  intro a0 k
  obtain ⟨ih0, ih1, ih2, ih3, ih4, ih5, ih6⟩ := laws_FnThaws.mono_l k
  unfold laws_FnThaws.f
  repeat' first
      | (with_reducible exact ih0 _ _ _ _)
      | (with_reducible exact ih1 _ _ _ _)
      | (with_reducible exact ih2 _ _ _ _ _ _ _ _ _)
      | (with_reducible exact ih3 _ _ _ _)
      | (with_reducible exact ih4 _ _ _ _ _)
      | (with_reducible exact ih5 _ _ _ _ _)
      | (with_reducible exact ih6 _ _ _ _ _ _)
      | (with_reducible exact impl_FewestTimes.mono _ _ _)
      | (with_reducible exact impl_OneTime.mono _ _ _)
      | (with_reducible exact spec_DrawFrozen.mono _ _)
      | (with_reducible exact LeO.refl _)
      | (with_reducible exact LeO.none _)
      | (with_reducible refine LeO.ite ?_ ?_)
      | (with_reducible refine LeO.bind ?_ (fun _ => ?_))
      | exact ih0 _ _ _ _
      | exact ih1 _ _ _ _
      | exact ih2 _ _ _ _ _ _ _ _ _
      | exact ih3 _ _ _ _
      | exact ih4 _ _ _ _ _
      | exact ih5 _ _ _ _ _
      | exact ih6 _ _ _ _ _ _
      | exact impl_FewestTimes.mono _ _ _
      | exact impl_OneTime.mono _ _ _
      | exact spec_DrawFrozen.mono _ _
      | exact LeO.none _
      | refine LeO.ite ?_ ?_
      | refine LeO.bind ?_ (fun _ => ?_)
def laws_FnThaws.T16 : Bool × List (List Nat × List Nat) := (true, [([], []), ([0], [0]), ([1], [1]), ([1], [1]), ([2, 3, 1], [1, 2, 3]), ([4, 1], [1, 4]), ([1], [1]), ([1], [1]), ([6, 7, 1], [1, 6, 7]), ([8, 1], [1, 8]), ([1], [1]), ([5, 9, 10, 1, 1], [1, 5, 9, 10]), ([1, 11], [1, 11]), ([12, 11, 0, 1, 2, 3, 4, 5, 6, 7, 8, 9, 10, 11, 12], [0, 12])])
def laws_FnThaws.B16 : List Nat := [0, 1, 3, 3, 15, 31, 3, 3, 195, 451, 3, 2047, 4095, 8191]
theorem laws_FnThaws.tab16 : rtab .any (opsOf Try.f7 16) = laws_FnThaws.T16 := by kernel_rfl
theorem laws_FnThaws.bits16 : waitsOk laws_FnThaws.T16.2 laws_FnThaws.B16 = true := by kernel_rfl
def laws_FnThaws.T22 : Bool × List (List Nat × List Nat) := (true, [([], []), ([], []), ([0, 1], [0, 1]), ([2], [2]), ([], []), ([], []), ([5], [5]), ([4, 6], [4, 6]), ([7], [7]), ([3, 8], [3, 8])])
def laws_FnThaws.B22 : List Nat := [0, 0, 3, 7, 0, 0, 32, 112, 240, 511]
theorem laws_FnThaws.tab22 : rtab .any (opsOf Try.f7 22) = laws_FnThaws.T22 := by kernel_rfl
theorem laws_FnThaws.bits22 : waitsOk laws_FnThaws.T22.2 laws_FnThaws.B22 = true := by kernel_rfl
set_option maxHeartbeats 8000000 in
set_option maxRecDepth 100000 in
theorem laws_FnThaws.calls (k : Nat) (A0 : Option Addr) (c0 : Nat) (l0 : List Int) (r : Bool) (w : World) (hr0 : Kd.C (Kd.int .u8) w A0 l0.length l0) (hc0 : l0.length ≤ c0) (hr_ : r = true) (h : laws_FnThaws.f k l0 = some r) :
    Calls Try.prog 7 #[.slice A0 l0.length c0] w fun e w' => e = .returned (.bool r) ∧ Below w.heap.size w w' := by
  have hu25 := Try.underlying25
  have HR_ := Aside0.mk hr_
  clear hr_
  have HR0 := Aside0.mk hr0
  have HC0 := Aside0.mk hc0
  clear hr0 hc0
  have HB := Aside0.mk (Below.refl w.heap.size w)
  have H : ((laws_big.f l0).bind fun t310 => (if t310 = true then (some true) else ((spec_DrawFrozen.f k l0).bind fun t311 => ((laws_at.f l0 0).bind fun t314 => ((impl_FewestTimes.f k t311 t314).bind fun t315 => (if (((t315.length : Int) == 0) != ((t311.length : Int) == 0)) = true then (laws_FnThaws.j0 k t311 t314 t315 true) else (laws_FnThaws.j0 k t311 t314 t315 (decide ((t315.length : Int) > (t311.length : Int)))))))))) = some r := h
  clear h
  replace H := Option.bind_eq_some_iff.mp H
  obtain ⟨t310, A20, H⟩ := H
  replace H : (if t310 = true then (some true) else ((spec_DrawFrozen.f k l0).bind fun t311 => ((laws_at.f l0 0).bind fun t314 => ((impl_FewestTimes.f k t311 t314).bind fun t315 => (if (((t315.length : Int) == 0) != ((t311.length : Int) == 0)) = true then (laws_FnThaws.j0 k t311 t314 t315 true) else (laws_FnThaws.j0 k t311 t314 t315 (decide ((t315.length : Int) > (t311.length : Int))))))))) = some r := H
  have A2 := Aside0.mk A20
  clear A20
  by_cases c3 : t310 = true
  · subst c3
    have H1 : (some true) = some r := by rw [if_pos rfl] at H; exact H
    clear H
    have H := H1
    clear H1
    obtain rfl := Option.some.inj H
    go_enter Try.func7, Try.ntmps7
    go_wp2_with (first | ((with_reducible refine gate_callee (f := 21) rfl ?_); refine goesL_ (some 17) rfl rfl Try.func21 (by kernel_rfl) rfl #[.slice A0 l0.length c0] rfl (by (try simp only [List.map_toArray, List.map_cons, List.map_nil]); first | done | rfl | (simp only [List.length_drop, List.length_take]; rfl)) ?_; (with_reducible refine (laws_big.calls _ _ l0 true _ ?side1 ?side2 A2.out).mono ?_); (case side1 => repeat (first | exact HR0.out | (with_reducible refine Kd.C_alloc ?_ _) | (with_reducible refine Kd.C_drewN ?_ _) | (with_reducible refine Kd.C_drew ?_))); (case side2 => exact HC0.out); rintro e w' ⟨rfl, ⟨nd, rfl⟩⟩; refine ⟨_, rfl, ?_⟩))
    go_ret
    exact ⟨by first | rfl | (simp [errW_none, errW_some] <;> rfl) | (simp [*, errW_none, errW_some] <;> rfl), by repeat (first | (with_reducible first | exact HB.out | apply below_alloc | apply pw_below_drewN | apply below_drew1) | exact HB.out)⟩
  · replace c3 := Bool.eq_false_iff.mpr c3
    subst c3
    have H1 : ((spec_DrawFrozen.f k l0).bind fun t311 => ((laws_at.f l0 0).bind fun t314 => ((impl_FewestTimes.f k t311 t314).bind fun t315 => (if (((t315.length : Int) == 0) != ((t311.length : Int) == 0)) = true then (laws_FnThaws.j0 k t311 t314 t315 true) else (laws_FnThaws.j0 k t311 t314 t315 (decide ((t315.length : Int) > (t311.length : Int)))))))) = some r := by rw [if_neg (show ¬ (false = true) by decide)] at H; exact H
    clear H
    have H := H1
    clear H1
    replace H := Option.bind_eq_some_iff.mp H
    obtain ⟨t311, A40, H⟩ := H
    replace H : ((laws_at.f l0 0).bind fun t314 => ((impl_FewestTimes.f k t311 t314).bind fun t315 => (if (((t315.length : Int) == 0) != ((t311.length : Int) == 0)) = true then (laws_FnThaws.j0 k t311 t314 t315 true) else (laws_FnThaws.j0 k t311 t314 t315 (decide ((t315.length : Int) > (t311.length : Int))))))) = some r := H
    have A4 := Aside0.mk A40
    clear A40
    replace H := Option.bind_eq_some_iff.mp H
    obtain ⟨t314, A50, H⟩ := H
    replace H : ((impl_FewestTimes.f k t311 t314).bind fun t315 => (if (((t315.length : Int) == 0) != ((t311.length : Int) == 0)) = true then (laws_FnThaws.j0 k t311 t314 t315 true) else (laws_FnThaws.j0 k t311 t314 t315 (decide ((t315.length : Int) > (t311.length : Int)))))) = some r := H
    have A5 := Aside0.mk A50
    clear A50
    replace H := Option.bind_eq_some_iff.mp H
    obtain ⟨t315, A60, H⟩ := H
    replace H : (if (((t315.length : Int) == 0) != ((t311.length : Int) == 0)) = true then (laws_FnThaws.j0 k t311 t314 t315 true) else (laws_FnThaws.j0 k t311 t314 t315 (decide ((t315.length : Int) > (t311.length : Int))))) = some r := H
    have A6 := Aside0.mk A60
    clear A60
    have HC7 := Aside0.mk H
    clear H
    go_enter Try.func7, Try.ntmps7
    go_upto_region 6 with (first | ((with_reducible refine gate_callee (f := 21) rfl ?_); refine goesL_ (some 17) rfl rfl Try.func21 (by kernel_rfl) rfl #[.slice A0 l0.length c0] rfl (by (try simp only [List.map_toArray, List.map_cons, List.map_nil]); first | done | rfl | (simp only [List.length_drop, List.length_take]; rfl)) ?_; (with_reducible refine (laws_big.calls _ _ l0 false _ ?side1 ?side2 A2.out).mono ?_); (case side1 => repeat (first | exact HR0.out | (with_reducible refine Kd.C_alloc ?_ _) | (with_reducible refine Kd.C_drewN ?_ _) | (with_reducible refine Kd.C_drew ?_))); (case side2 => exact HC0.out); rintro e w' ⟨rfl, ⟨nd, rfl⟩⟩; refine ⟨_, rfl, ?_⟩) | ((with_reducible refine gate_callee (f := 22) rfl ?_); refine goesL_ (some 19) rfl rfl Try.func22 (by kernel_rfl) rfl #[.slice A0 l0.length c0] rfl (by (try simp only [List.map_toArray, List.map_cons, List.map_nil]); first | done | rfl | (simp only [List.length_drop, List.length_take]; rfl)) ?_; (with_reducible refine (spec_DrawFrozen.calls k _ _ l0 t311 _ ?side1 ?side2 A4.out).mono ?_); (case side1 => repeat (first | exact HR0.out | (with_reducible refine Kd.C_alloc ?_ _) | (with_reducible refine Kd.C_drewN ?_ _) | (with_reducible refine Kd.C_drew ?_))); (case side2 => exact HC0.out); rintro e w8 ⟨v312, rfl, ho0, hb⟩; refine ⟨_, rfl, ?_⟩; have n0_ := Aside0.mk (Kd.R_lower ho0 (below_size (by repeat (first | (with_reducible first | exact HB.out | apply below_alloc | apply pw_below_drewN | apply below_drew1) | exact HB.out)))); have n1_ := Aside0.mk (below_step (by repeat (first | (with_reducible first | exact HB.out | apply below_alloc | apply pw_below_drewN | apply below_drew1) | exact HB.out)) hb); clear HB; have HO313 := n0_; have HB := n1_; clear n0_ n1_; (try clear hb); (try clear hb2); (try clear hk); (try clear hi); (try clear ho0)) | ((with_reducible refine gate_callee (f := 23) rfl ?_); refine goesL_ (some 21) rfl rfl Try.func23 (by kernel_rfl) rfl #[.slice A0 l0.length c0, .int .i64 0] rfl (by (try simp only [List.map_toArray, List.map_cons, List.map_nil]); first | done | rfl | (simp only [List.length_drop, List.length_take]; rfl)) ?_; (with_reducible refine (laws_at.calls _ _ l0 0 t314 _ ?side1 ?side2 A5.out).mono ?_); (case side1 => repeat (first | exact (Kd.C_below HR0.out HB.out) | (with_reducible refine Kd.C_alloc ?_ _) | (with_reducible refine Kd.C_drewN ?_ _) | (with_reducible refine Kd.C_drew ?_))); (case side2 => exact HC0.out); rintro e w' ⟨rfl, ⟨nd, rfl⟩⟩; refine ⟨_, rfl, ?_⟩; obtain ⟨Ao9, co9, eo9⟩ := Kd.R_slice HO313.out; subst eo9) | ((with_reducible refine gate_callee (f := 24) rfl ?_); refine goesL_ (some 24) rfl rfl Try.func24 (by kernel_rfl) rfl #[.slice Ao9 t311.length co9, .int .i64 t314] rfl (by (try simp only [List.map_toArray, List.map_cons, List.map_nil]); first | done | rfl | (simp only [List.length_drop, List.length_take]; rfl)) ?_; (with_reducible refine (impl_FewestTimes.calls k _ _ t311 t314 t315 _ ?side1 ?side2 A6.out).mono ?_); (case side1 => repeat (first | exact (Kd.R_reads' HO313.out).2.2 | (with_reducible refine Kd.C_alloc ?_ _) | (with_reducible refine Kd.C_drewN ?_ _) | (with_reducible refine Kd.C_drew ?_))); (case side2 => exact (Kd.R_reads' HO313.out).2.1); rintro e w10 ⟨v316, rfl, ho0, hb⟩; refine ⟨_, rfl, ?_⟩; have n0_ := Aside0.mk (Kd.R_below (by (with_reducible repeat (first | apply Kd.R_alloc | apply Kd.R_drewN | apply Kd.R_drew)); exact HO313.out) hb); have n1_ := Aside0.mk (Kd.R_lower ho0 (below_size (by repeat (first | (with_reducible first | exact HB.out | apply below_alloc | apply pw_below_drewN | apply below_drew1) | exact HB.out)))); have n2_ := Aside0.mk (below_step (by repeat (first | (with_reducible first | exact HB.out | apply below_alloc | apply pw_below_drewN | apply below_drew1) | exact HB.out)) hb); clear HO313; clear HB; have HO313 := n0_; have HO317 := n1_; have HB := n2_; clear n0_ n1_ n2_; (try clear hb); (try clear hb2); (try clear hk); (try clear hi); (try clear ho0)))
    (try simp only [Act.put, List.setIfInBounds_toArray, List.set_cons_zero, List.set_cons_succ])
    go_cut [38] (fun v38 wc => ∃ (kq : Nat) (x38_6 : Bool), v38 = .bool x38_6 ∧ Aside0 (laws_FnThaws.j0 kq t311 t314 t315 x38_6 = some r) ∧ Aside0 (kq ≤ k) ∧ Aside0 (Kd.R k25 25 wc w.heap.size (fun _ => True) (.slice Ao9 t311.length co9) t311) ∧ Aside0 (Kd.R (Kd.int .i64) 3 wc w.heap.size (fun _ => True) v316 t315) ∧ Aside0 (Below w.heap.size w wc))
    case first =>
      have H := HC7.out
      clear HC7
      by_cases c11 : (((t315.length : Int) == 0) != ((t311.length : Int) == 0)) = true
      · rw [if_pos c11] at H
        have c11b0 : (((t315.length : Int) == 0) != ((t311.length : Int) == 0)) = true := c11
        (try (have c11b1 : decide (((t315.length : Int) == 0) = ((t311.length : Int) == 0)) = false := by simpa using c11))
        (try (have c11b2 : (((t315.length : Int) == 0) == ((t311.length : Int) == 0)) = false := by simpa using c11))
        (try (have c11b3 : ¬ (((t315.length : Int) == 0) = ((t311.length : Int) == 0)) := by simpa using c11))
        clear c11
        (first | rw [c11b0] | (simp only [i64_w, i32_w]; rw [c11b0]) | skip)
        have H' := Aside0.mk H
        clear H
        obtain ⟨Ao12, co12, eo12⟩ := Kd.R_slice HO317.out
        subst eo12
        go_wp2
        go_meet
        case rel => exact ⟨_, (true), (by first | rfl | (simp; done) | (simp [*]; done)), H', ⟨by first | omega | exact Nat.le_refl _⟩, ⟨by (with_reducible repeat (first | apply Kd.R_alloc | apply Kd.R_drewN | apply Kd.R_drew)); exact HO313.out⟩, ⟨by (with_reducible repeat (first | apply Kd.R_alloc | apply Kd.R_drewN | apply Kd.R_drew)); exact HO317.out⟩, ⟨by repeat (first | (with_reducible first | exact HB.out | apply below_alloc | apply pw_below_drewN | apply below_drew1) | exact HB.out)⟩⟩
      · rw [if_neg c11] at H
        have c11b0 : (((t315.length : Int) == 0) != ((t311.length : Int) == 0)) = false := by simpa using c11
        (try (have c11b1 : decide (((t315.length : Int) == 0) = ((t311.length : Int) == 0)) = true := by simpa using c11))
        (try (have c11b2 : (((t315.length : Int) == 0) == ((t311.length : Int) == 0)) = true := by simpa using c11))
        clear c11
        (first | rw [c11b0] | (simp only [i64_w, i32_w]; rw [c11b0]) | skip)
        have H' := Aside0.mk H
        clear H
        obtain ⟨Ao13, co13, eo13⟩ := Kd.R_slice HO317.out
        subst eo13
        go_wp2
        go_meet
        case rel => exact ⟨_, (decide ((t315.length : Int) > (t311.length : Int))), (by first | rfl | (simp; done) | (simp [*]; done)), H', ⟨by first | omega | exact Nat.le_refl _⟩, ⟨by (with_reducible repeat (first | apply Kd.R_alloc | apply Kd.R_drewN | apply Kd.R_drew)); exact HO313.out⟩, ⟨by (with_reducible repeat (first | apply Kd.R_alloc | apply Kd.R_drewN | apply Kd.R_drew)); exact HO317.out⟩, ⟨by repeat (first | (with_reducible first | exact HB.out | apply below_alloc | apply pw_below_drewN | apply below_drew1) | exact HB.out)⟩⟩
    case rest =>
      clear HC7
      try clear c1
      try clear c2
      try clear p2
      try clear c3
      try clear c7
      try clear c11
      try clear c11b0
      try clear c11b1
      try clear c11b2
      obtain ⟨kq, x38_6, rfl, HA, HJ6, HO_3, HO_5, HB⟩ := hcut
      cases kq with
      | zero => exact absurd HA.out (by simp [laws_FnThaws.j0])
      | succ kj6 =>
        have H := HA.out
        clear HA
        simp only [laws_FnThaws.j0] at H
        by_cases c14 : x38_6 = true
        · subst c14
          have H1 : (some false) = some r := by rw [if_pos rfl] at H; exact H
          clear H
          have H := H1
          clear H1
          exact absurd ((Option.some.inj H).trans HR_.out) (by decide)
        · replace c14 := Bool.eq_false_iff.mpr c14
          subst c14
          have H1 : (laws_FnThaws.l0 kj6 t311 t314 t315 0) = some r := by rw [if_neg (show ¬ (false = true) by decide)] at H; exact H
          clear H
          have H := H1
          clear H1
          have H' := Aside0.mk H
          clear H
          go_wp2
          go_loopg [6] kj6 (fun kq v6 w' => ∃ (x6_2 : Int), v6 = .int .i64 x6_2 ∧ Aside0 (laws_FnThaws.l0 kq t311 t314 t315 x6_2 = some r) ∧ Aside0 (kq ≤ kj6) ∧ Aside0 (Kd.R k25 25 w' w.heap.size (fun _ => True) (.slice Ao9 t311.length co9) t311) ∧ Aside0 (Kd.R (Kd.int .i64) 3 w' w.heap.size (fun _ => True) v316 t315) ∧ Aside0 (Below w.heap.size w w'))
          case atStart => exact ⟨(0), (by first | rfl | (simp; done) | (simp [*]; done)), H', ⟨Nat.le_refl _⟩, ⟨by (with_reducible repeat (first | apply Kd.R_alloc | apply Kd.R_drewN | apply Kd.R_drew)); exact HO_3.out⟩, ⟨by (with_reducible repeat (first | apply Kd.R_alloc | apply Kd.R_drewN | apply Kd.R_drew)); exact HO_5.out⟩, ⟨by repeat (first | (with_reducible first | exact HB.out | apply below_alloc | apply pw_below_drewN | apply below_drew1) | exact HB.out)⟩⟩
          case round =>
            clear H'
            try clear c1
            try clear c2
            try clear p2
            try clear c3
            try clear c7
            try clear c11
            try clear c11b0
            try clear c11b1
            try clear c11b2
            try clear c14
            try clear p2
            obtain ⟨x6_2, rfl, HA, HK2, HO_3, HO_5, HB⟩ := hrel
            cases gk with
            | zero => exact absurd HA.out (by simp [laws_FnThaws.l0])
            | succ k2 =>
              have H := HA.out
              clear HA
              simp only [laws_FnThaws.l0] at H
              by_cases c15 : x6_2 < (t311.length : Int)
              · rw [if_pos c15] at H
                have c15b0 : decide (x6_2 < (t311.length : Int)) = true := decide_eq_true c15
                clear c15
                by_cases c16 : 0 ≤ x6_2
                · rw [if_pos c16] at H
                  have c16b0 : decide (0 ≤ x6_2) = true := decide_eq_true c16
                  clear c16
                  replace H := Option.bind_eq_some_iff.mp H
                  obtain ⟨⟨t319, t320, t321⟩, A170, H⟩ := H
                  replace H : (laws_FnThaws.l1 k2 t311 t314 t315 x6_2 t319 t320 t321 false 0) = some r := H
                  have A17 := Aside0.mk A170
                  clear A170
                  have H' := Aside0.mk H
                  clear H
                  have p318 : 0 ≤ (x6_2 : Int) := of_decide_eq_true (by first | (with_reducible assumption) | assumption)
                  have q318 : x6_2 < (t311.length : Int) := of_decide_eq_true (by first | (with_reducible assumption) | assumption)
                  obtain ⟨ad318, e318, hx318_0, hx318_1⟩ := at_T25 (Kd.R_reads' HO_3.out).2.2 x6_2 p318 q318
                  cases e318
                  replace p318 := eq_true p318
                  replace q318 := eq_true q318
                  go_wp2_with (first | ((with_reducible refine gate_callee (f := 15) rfl ?_); refine goesL_ (some 51) rfl rfl Try.func15 (by kernel_rfl) rfl #[.agg #[.int .i64 ((rd_T25 t311 x6_2).f0), .int .i64 ((rd_T25 t311 x6_2).f1)], .int .i64 t314] rfl (by (try simp only [List.map_toArray, List.map_cons, List.map_nil]); first | done | rfl | (simp only [List.length_drop, List.length_take]; rfl)) ?_; (with_reducible refine (impl_OutAt.calls ((rd_T25 t311 x6_2).f0) ((rd_T25 t311 x6_2).f1) t314 t319 t320 t321 _ A17.out).mono ?_); rintro e w18 ⟨rfl, hb⟩; refine ⟨_, rfl, ?_⟩; have n0_ := Aside0.mk (Kd.R_below (by (with_reducible repeat (first | apply Kd.R_alloc | apply Kd.R_drewN | apply Kd.R_drew)); exact HO_3.out) hb); have n1_ := Aside0.mk (Kd.R_below (by (with_reducible repeat (first | apply Kd.R_alloc | apply Kd.R_drewN | apply Kd.R_drew)); exact HO_5.out) hb); have n2_ := Aside0.mk (below_step (by repeat (first | (with_reducible first | exact HB.out | apply below_alloc | apply pw_below_drewN | apply below_drew1) | exact HB.out)) hb); clear HO_3; clear HO_5; clear HB; have HO_3 := n0_; have HO_5 := n1_; have HB := n2_; clear n0_ n1_ n2_; (try clear hb); (try clear hb2); (try clear hk); (try clear hi)))
                  go_loopg [10, 11] k2 (fun kq v10 v11 w' => ∃ (x10_3 : Bool) (x11_3 : Int), v10 = .bool x10_3 ∧ v11 = .int .i64 x11_3 ∧ Aside0 (laws_FnThaws.l1 kq t311 t314 t315 x6_2 t319 t320 t321 x10_3 x11_3 = some r) ∧ Aside0 (kq ≤ k2) ∧ Aside0 (Kd.R k25 25 w' w.heap.size (fun _ => True) (.slice (some ad318) t311.length co9) t311) ∧ Aside0 (Kd.R (Kd.int .i64) 3 w' w.heap.size (fun _ => True) v316 t315) ∧ Aside0 (Below w.heap.size w w'))
                  case atStart => exact ⟨(false), (0), (by first | rfl | (simp; done) | (simp [*]; done)), (by first | rfl | (simp; done) | (simp [*]; done)), H', ⟨Nat.le_refl _⟩, ⟨by (with_reducible repeat (first | apply Kd.R_alloc | apply Kd.R_drewN | apply Kd.R_drew)); exact HO_3.out⟩, ⟨by (with_reducible repeat (first | apply Kd.R_alloc | apply Kd.R_drewN | apply Kd.R_drew)); exact HO_5.out⟩, ⟨by repeat (first | (with_reducible first | exact HB.out | apply below_alloc | apply pw_below_drewN | apply below_drew1) | exact HB.out)⟩⟩
                  case round =>
                    clear H'
                    try clear c1
                    try clear c2
                    try clear p2
                    try clear c3
                    try clear p3
                    try clear q3
                    try clear hx3
                    try clear c7
                    try clear c11
                    try clear c11b0
                    try clear c11b1
                    try clear c11b2
                    try clear c14
                    try clear c15
                    try clear c15b0
                    try clear c16
                    try clear c16b0
                    try clear hx318_0
                    try clear hx318_1
                    try clear p2
                    try clear p318
                    try clear q318
                    obtain ⟨x10_3, x11_3, rfl, rfl, HA, HK3, HO_3, HO_5, HB⟩ := hrel
                    cases gk with
                    | zero => exact absurd HA.out (by simp [laws_FnThaws.l1])
                    | succ k3 =>
                      have H := HA.out
                      clear HA
                      simp only [laws_FnThaws.l1] at H
                      by_cases c19 : x11_3 < (t315.length : Int)
                      · rw [if_pos c19] at H
                        have c19b0 : decide (x11_3 < (t315.length : Int)) = true := decide_eq_true c19
                        clear c19
                        by_cases c20 : x10_3 = true
                        · subst c20
                          have H1 : (laws_FnThaws.l1 k3 t311 t314 t315 x6_2 t319 t320 t321 true (wrap64 (x11_3 + 1))) = some r := by rw [if_pos rfl] at H; exact H
                          clear H
                          have H := H1
                          clear H1
                          have H' := Aside0.mk H
                          clear H
                          obtain ⟨Ao21, co21, eo21⟩ := Kd.R_slice HO_5.out
                          subst eo21
                          try go_wp2
                          have n0_ := Aside0.mk (Kd.R_drew HO_3.out)
                          have n1_ := Aside0.mk (Kd.R_drew HO_5.out)
                          have n2_ := Aside0.mk (below_drew1 HB.out)
                          clear HO_3
                          clear HO_5
                          clear HB
                          have HO_3 := n0_
                          have HO_5 := n1_
                          have HB := n2_
                          clear n0_ n1_ n2_
                          refine start_ (n := 14) (S := fun w' => True) (ds := []) #[false, false, false, false, false, false, false, false, false, false, false, false, false, false] (by kernel_rfl) rfl rfl trivial (fun hHeld => ?_); refine with_tabW laws_FnThaws.tab16 laws_FnThaws.bits16 (fun HT_ HW_ => ?_)
                          generalize wr.drew = w22 at HO_3 HO_5 HB hHeld ⊢
                          refine pure_ (i := 0) (N := some 61) (v := ?_) (a' := ?_) #[true, false, false, false, false, false, false, false, false, false, false, false, false, false] rfl rfl (any_of HT_.out (by kernel_rfl)) (fun _ _ _ h => h) (Or.inl ⟨by rfl, ?_⟩) ?_ ?_
                          rotate_left
                          · intro w'
                            go_simp
                            with_reducible rfl
                          rotate_left
                          · simp only [Act.put, List.setIfInBounds_toArray, List.set_cons_zero, List.set_cons_succ, i64_w, i32_w]
                            rfl
                          refine pure_ (i := 1) (N := some 62) (v := ?_) (a' := ?_) #[true, true, false, false, false, false, false, false, false, false, false, false, false, false] rfl rfl (any_of HT_.out (by kernel_rfl)) (fun _ _ _ h => h) (Or.inl ⟨by rfl, ?_⟩) ?_ ?_
                          rotate_left
                          · intro w'
                            go_simp
                            with_reducible rfl
                          rotate_left
                          · simp only [Act.put, List.setIfInBounds_toArray, List.set_cons_zero, List.set_cons_succ, i64_w, i32_w]
                            rfl
                          refine pure_ (i := 2) (N := some 63) (v := undef) (a' := ?_) #[true, true, true, false, false, false, false, false, false, false, false, false, false, false] rfl rfl (any_of HT_.out (by kernel_rfl)) (fun _ _ _ h => h) (Or.inr ⟨by rfl, rfl⟩) ?_ ?_
                          rotate_left
                          · simp only [Act.put, List.setIfInBounds_toArray, List.set_cons_zero, List.set_cons_succ, i64_w, i32_w]
                            rfl
                          refine pure_ (i := 3) (N := some 64) (v := undef) (a' := ?_) #[true, true, true, true, false, false, false, false, false, false, false, false, false, false] rfl rfl (any_of HT_.out (by kernel_rfl)) (fun _ _ _ h => h) (Or.inr ⟨by rfl, rfl⟩) ?_ ?_
                          rotate_left
                          · simp only [Act.put, List.setIfInBounds_toArray, List.set_cons_zero, List.set_cons_succ, i64_w, i32_w]
                            rfl
                          refine pure_ (i := 4) (N := some 65) (v := undef) (a' := ?_) #[true, true, true, true, true, false, false, false, false, false, false, false, false, false] rfl rfl (any_of HT_.out (by kernel_rfl)) (fun _ _ _ h => h) (Or.inr ⟨by rfl, rfl⟩) ?_ ?_
                          rotate_left
                          · simp only [Act.put, List.setIfInBounds_toArray, List.set_cons_zero, List.set_cons_succ, i64_w, i32_w]
                            rfl
                          refine pure_ (i := 5) (N := some 66) (v := undef) (a' := ?_) #[true, true, true, true, true, true, false, false, false, false, false, false, false, false] rfl rfl (any_of HT_.out (by kernel_rfl)) (fun _ _ _ h => h) (Or.inr ⟨by rfl, rfl⟩) ?_ ?_
                          rotate_left
                          · simp only [Act.put, List.setIfInBounds_toArray, List.set_cons_zero, List.set_cons_succ, i64_w, i32_w]
                            rfl
                          refine pure_ (i := 6) (N := some 67) (v := undef) (a' := ?_) #[true, true, true, true, true, true, true, false, false, false, false, false, false, false] rfl rfl (any_of HT_.out (by kernel_rfl)) (fun _ _ _ h => h) (Or.inr ⟨by rfl, rfl⟩) ?_ ?_
                          rotate_left
                          · simp only [Act.put, List.setIfInBounds_toArray, List.set_cons_zero, List.set_cons_succ, i64_w, i32_w]
                            rfl
                          refine pure_ (i := 7) (N := some 68) (v := undef) (a' := ?_) #[true, true, true, true, true, true, true, true, false, false, false, false, false, false] rfl rfl (any_of HT_.out (by kernel_rfl)) (fun _ _ _ h => h) (Or.inr ⟨by rfl, rfl⟩) ?_ ?_
                          rotate_left
                          · simp only [Act.put, List.setIfInBounds_toArray, List.set_cons_zero, List.set_cons_succ, i64_w, i32_w]
                            rfl
                          refine pure_ (i := 8) (N := some 69) (v := undef) (a' := ?_) #[true, true, true, true, true, true, true, true, true, false, false, false, false, false] rfl rfl (any_of HT_.out (by kernel_rfl)) (fun _ _ _ h => h) (Or.inr ⟨by rfl, rfl⟩) ?_ ?_
                          rotate_left
                          · simp only [Act.put, List.setIfInBounds_toArray, List.set_cons_zero, List.set_cons_succ, i64_w, i32_w]
                            rfl
                          refine pure_ (i := 9) (N := some 70) (v := undef) (a' := ?_) #[true, true, true, true, true, true, true, true, true, true, false, false, false, false] rfl rfl (any_of HT_.out (by kernel_rfl)) (fun _ _ _ h => h) (Or.inr ⟨by rfl, rfl⟩) ?_ ?_
                          rotate_left
                          · simp only [Act.put, List.setIfInBounds_toArray, List.set_cons_zero, List.set_cons_succ, i64_w, i32_w]
                            rfl
                          refine pure_ (i := 10) (N := some 71) (v := undef) (a' := ?_) #[true, true, true, true, true, true, true, true, true, true, true, false, false, false] rfl rfl (any_of HT_.out (by kernel_rfl)) (fun _ _ _ h => h) (Or.inr ⟨by rfl, rfl⟩) ?_ ?_
                          rotate_left
                          · simp only [Act.put, List.setIfInBounds_toArray, List.set_cons_zero, List.set_cons_succ, i64_w, i32_w]
                            rfl
                          refine pure_ (i := 11) (N := some 72) (v := undef) (a' := ?_) #[true, true, true, true, true, true, true, true, true, true, true, true, false, false] rfl rfl (any_of HT_.out (by kernel_rfl)) (fun _ _ _ h => h) (Or.inr ⟨by rfl, rfl⟩) ?_ ?_
                          rotate_left
                          · simp only [Act.put, List.setIfInBounds_toArray, List.set_cons_zero, List.set_cons_succ, i64_w, i32_w]
                            rfl
                          refine pure_ (i := 12) (N := some 73) (v := ?_) (a' := ?_) #[true, true, true, true, true, true, true, true, true, true, true, true, true, false] rfl rfl (any_of HT_.out (by kernel_rfl)) (fun _ _ _ h => h) (Or.inl ⟨by rfl, ?_⟩) ?_ ?_
                          rotate_left
                          · intro w'
                            go_simp
                            with_reducible rfl
                          rotate_left
                          · simp only [Act.put, List.setIfInBounds_toArray, List.set_cons_zero, List.set_cons_succ, i64_w, i32_w]
                            rfl
                          refine pure_ (i := 13) (N := some 10) (v := ?_) (a' := ?_) #[true, true, true, true, true, true, true, true, true, true, true, true, true, true] rfl rfl (any_of HT_.out (by kernel_rfl)) (fun _ _ _ h => h) (Or.inl ⟨by rfl, ?_⟩) ?_ ?_
                          rotate_left
                          · intro w'
                            go_simp
                            with_reducible rfl
                          rotate_left
                          · simp only [Act.put, List.setIfInBounds_toArray, List.set_cons_zero, List.set_cons_succ, i64_w, i32_w]
                            rfl
                          refine done_ (done_of HT_.out (by kernel_rfl)) ?_
                          try go_wp2
                          go_roundg k3
                          case measure => have := HJ6.out; have := HK2.out; have := HK3.out; omega
                          case rel => exact ⟨(true), (wrap64 (x11_3 + 1)), (by first | rfl | (simp; done) | (simp [*]; done)), (by first | rfl | (simp; done) | (simp [*]; done)), H', ⟨by have := HJ6.out; have := HK2.out; have := HK3.out; omega⟩, ⟨by (with_reducible repeat (first | apply Kd.R_alloc | apply Kd.R_drewN | apply Kd.R_drew)); exact HO_3.out⟩, ⟨by (with_reducible repeat (first | apply Kd.R_alloc | apply Kd.R_drewN | apply Kd.R_drew)); exact HO_5.out⟩, ⟨by repeat (first | (with_reducible first | exact HB.out | apply below_alloc | apply pw_below_drewN | apply below_drew1) | exact HB.out)⟩⟩
                        · replace c20 := Bool.eq_false_iff.mpr c20
                          subst c20
                          have H1 : (if 0 ≤ x6_2 then (if x6_2 < (t311.length : Int) then (if 0 ≤ x11_3 then ((impl_IsGood.f ((rd_T25 t311 x6_2).f0) ((rd_T25 t311 x6_2).f1) (rd t315 x11_3) t314).bind fun t324 => (laws_FnThaws.l1 k3 t311 t314 t315 x6_2 t319 t320 t321 t324 (wrap64 (x11_3 + 1)))) else (none)) else (none)) else (none)) = some r := by rw [if_neg (show ¬ (false = true) by decide)] at H; exact H
                          clear H
                          have H := H1
                          clear H1
                          by_cases c23 : 0 ≤ x6_2
                          · rw [if_pos c23] at H
                            have c23b0 : decide (0 ≤ x6_2) = true := decide_eq_true c23
                            clear c23
                            by_cases c24 : x6_2 < (t311.length : Int)
                            · rw [if_pos c24] at H
                              have c24b0 : decide (x6_2 < (t311.length : Int)) = true := decide_eq_true c24
                              clear c24
                              by_cases c25 : 0 ≤ x11_3
                              · rw [if_pos c25] at H
                                have c25b0 : decide (0 ≤ x11_3) = true := decide_eq_true c25
                                clear c25
                                replace H := Option.bind_eq_some_iff.mp H
                                obtain ⟨t324, A260, H⟩ := H
                                replace H : (laws_FnThaws.l1 k3 t311 t314 t315 x6_2 t319 t320 t321 t324 (wrap64 (x11_3 + 1))) = some r := H
                                have A26 := Aside0.mk A260
                                clear A260
                                have H' := Aside0.mk H
                                clear H
                                obtain ⟨Ao27, co27, eo27⟩ := Kd.R_slice HO_5.out
                                subst eo27
                                try go_wp2
                                have n0_ := Aside0.mk (Kd.R_drew HO_3.out)
                                have n1_ := Aside0.mk (Kd.R_drew HO_5.out)
                                have n2_ := Aside0.mk (below_drew1 HB.out)
                                clear HO_3
                                clear HO_5
                                clear HB
                                have HO_3 := n0_
                                have HO_5 := n1_
                                have HB := n2_
                                clear n0_ n1_ n2_
                                have p322 : 0 ≤ (x6_2 : Int) := of_decide_eq_true (by first | (with_reducible assumption) | assumption)
                                have q322 : x6_2 < (t311.length : Int) := of_decide_eq_true (by first | (with_reducible assumption) | assumption)
                                obtain ⟨ad322, e322, hx322_0, hx322_1⟩ := at_T25 (Kd.R_reads' HO_3.out).2.2 x6_2 p322 q322
                                obtain rfl : ad318 = ad322 := (by injection e322)
                                replace p322 := eq_true p322
                                replace q322 := eq_true q322
                                have p323 : 0 ≤ (x11_3 : Int) := of_decide_eq_true (by first | (with_reducible assumption) | assumption)
                                have q323 : x11_3 < (t315.length : Int) := of_decide_eq_true (by first | (with_reducible assumption) | assumption)
                                obtain ⟨ad323, e323, hx323_0⟩ := Kd.at_int (Kd.R_reads' HO_5.out).2.2 x11_3 p323 q323
                                cases e323
                                replace p323 := eq_true p323
                                replace q323 := eq_true q323
                                refine start_ (n := 14) (S := fun w' => w'.cell? (ad318.add ((x6_2).toNat * 2)) = some (.int .i64 ((rd_T25 t311 x6_2).f0)) ∧ w'.cell? ⟨(ad318.add ((x6_2).toNat * 2)).block, (ad318.add ((x6_2).toNat * 2)).off + 1, none⟩ = some (.int .i64 ((rd_T25 t311 x6_2).f1)) ∧ w'.cell? (ad323.add (x11_3).toNat) = some (.int .i64 (rd t315 x11_3))) (ds := []) #[false, false, false, false, false, false, false, false, false, false, false, false, false, false] (by kernel_rfl) rfl rfl ⟨hx322_0, hx322_1, hx323_0⟩ (fun hHeld => ?_); refine with_tabW laws_FnThaws.tab16 laws_FnThaws.bits16 (fun HT_ HW_ => ?_)
                                generalize wr.drew = w28 at HO_3 HO_5 HB hx322_0 hx322_1 hx323_0 hHeld ⊢
                                refine pure_ (i := 0) (N := some 61) (v := ?_) (a' := ?_) #[true, false, false, false, false, false, false, false, false, false, false, false, false, false] rfl rfl (any_of HT_.out (by kernel_rfl)) (fun _ _ _ h => h) (Or.inl ⟨by rfl, ?_⟩) ?_ ?_
                                rotate_left
                                · intro w'
                                  go_simp
                                  with_reducible rfl
                                rotate_left
                                · simp only [Act.put, List.setIfInBounds_toArray, List.set_cons_zero, List.set_cons_succ, i64_w, i32_w]
                                  rfl
                                refine pure_ (i := 1) (N := some 62) (v := ?_) (a' := ?_) #[true, true, false, false, false, false, false, false, false, false, false, false, false, false] rfl rfl (any_of HT_.out (by kernel_rfl)) (fun _ _ _ h => h) (Or.inl ⟨by rfl, ?_⟩) ?_ ?_
                                rotate_left
                                · intro w'
                                  go_simp
                                  with_reducible rfl
                                rotate_left
                                · simp only [Act.put, List.setIfInBounds_toArray, List.set_cons_zero, List.set_cons_succ, i64_w, i32_w]
                                  rfl
                                refine pure_ (i := 2) (N := some 63) (v := ?_) (a' := ?_) #[true, true, true, false, false, false, false, false, false, false, false, false, false, false] rfl rfl (any_of HT_.out (by kernel_rfl)) (fun _ _ _ h => h) (Or.inl ⟨by rfl, ?_⟩) ?_ ?_
                                rotate_left
                                · intro w'
                                  go_simp
                                  with_reducible rfl
                                rotate_left
                                · simp only [Act.put, List.setIfInBounds_toArray, List.set_cons_zero, List.set_cons_succ, i64_w, i32_w]
                                  rfl
                                refine pure_ (i := 3) (N := some 64) (v := ?_) (a' := ?_) #[true, true, true, true, false, false, false, false, false, false, false, false, false, false] rfl rfl (any_of HT_.out (by kernel_rfl)) (fun _ _ _ h => h) (Or.inl ⟨by rfl, ?_⟩) ?_ ?_
                                rotate_left
                                · intro w'
                                  go_simp
                                  with_reducible rfl
                                rotate_left
                                · simp only [Act.put, List.setIfInBounds_toArray, List.set_cons_zero, List.set_cons_succ, i64_w, i32_w]
                                  rfl
                                refine pure_ (i := 4) (N := some 65) (v := ?_) (a' := ?_) #[true, true, true, true, true, false, false, false, false, false, false, false, false, false] rfl rfl (any_of HT_.out (by kernel_rfl)) (fun _ _ _ h => h) (Or.inl ⟨by rfl, ?_⟩) ?_ ?_
                                rotate_left
                                · intro w'
                                  go_simp
                                  with_reducible rfl
                                rotate_left
                                · simp only [Act.put, List.setIfInBounds_toArray, List.set_cons_zero, List.set_cons_succ, i64_w, i32_w]
                                  rfl
                                refine pure_ (i := 6) (N := some 67) (v := ?_) (a' := ?_) #[true, true, true, true, true, false, true, false, false, false, false, false, false, false] rfl rfl (any_of HT_.out (by kernel_rfl)) (fun _ _ _ h => h) (Or.inl ⟨by rfl, ?_⟩) ?_ ?_
                                rotate_left
                                · intro w'
                                  go_simp
                                  with_reducible rfl
                                rotate_left
                                · simp only [Act.put, List.setIfInBounds_toArray, List.set_cons_zero, List.set_cons_succ, i64_w, i32_w]
                                  rfl
                                refine pure_ (i := 7) (N := some 68) (v := ?_) (a' := ?_) #[true, true, true, true, true, false, true, true, false, false, false, false, false, false] rfl rfl (any_of HT_.out (by kernel_rfl)) (fun _ _ _ h => h) (Or.inl ⟨by rfl, ?_⟩) ?_ ?_
                                rotate_left
                                · intro w'
                                  go_simp
                                  with_reducible rfl
                                rotate_left
                                · simp only [Act.put, List.setIfInBounds_toArray, List.set_cons_zero, List.set_cons_succ, i64_w, i32_w]
                                  rfl
                                refine pure_ (i := 8) (N := some 69) (v := ?_) (a' := ?_) #[true, true, true, true, true, false, true, true, true, false, false, false, false, false] rfl rfl (any_of HT_.out (by kernel_rfl)) (fun _ _ _ h => h) (Or.inl ⟨by rfl, ?_⟩) ?_ ?_
                                rotate_left
                                · intro w'
                                  go_simp
                                  with_reducible rfl
                                rotate_left
                                · simp only [Act.put, List.setIfInBounds_toArray, List.set_cons_zero, List.set_cons_succ, i64_w, i32_w]
                                  rfl
                                refine pure_ (i := 10) (N := some 71) (v := ?_) (a' := ?_) #[true, true, true, true, true, false, true, true, true, false, true, false, false, false] rfl rfl (any_of HT_.out (by kernel_rfl)) (fun _ _ _ h => h) (Or.inl ⟨by rfl, ?_⟩) ?_ ?_
                                rotate_left
                                · intro w'
                                  go_simp
                                  with_reducible rfl
                                rotate_left
                                · simp only [Act.put, List.setIfInBounds_toArray, List.set_cons_zero, List.set_cons_succ, i64_w, i32_w]
                                  rfl
                                refine take_ (i := 5) (N := some 66) (v := ?_) (a' := ?_) #[true, true, true, true, true, true, true, true, true, false, true, false, false, false] rfl rfl (take_ofW HT_.out HW_.out (by kernel_rfl)) (fun _ _ _ h => h) (Or.inl ⟨by rfl, ?_⟩) hHeld ?_ ?_
                                rotate_left
                                · rintro w' ⟨s0, s1, s2⟩
                                  go_simp
                                  with_reducible rfl
                                rotate_left
                                · simp only [Act.put, List.setIfInBounds_toArray, List.set_cons_zero, List.set_cons_succ, i64_w, i32_w]
                                  rfl
                                refine take_ (i := 9) (N := some 70) (v := ?_) (a' := ?_) #[true, true, true, true, true, true, true, true, true, true, true, false, false, false] rfl rfl (take_ofW HT_.out HW_.out (by kernel_rfl)) (fun _ _ _ h => h) (Or.inl ⟨by rfl, ?_⟩) hHeld ?_ ?_
                                rotate_left
                                · rintro w' ⟨s0, s1, s2⟩
                                  go_simp
                                  with_reducible rfl
                                rotate_left
                                · simp only [Act.put, List.setIfInBounds_toArray, List.set_cons_zero, List.set_cons_succ, i64_w, i32_w]
                                  rfl
                                refine one_ (i := 11) (N := some 72) #[true, true, true, true, true, true, true, true, true, true, true, true, false, false] rfl rfl (one_of HT_.out (by kernel_rfl)) (by decide) (fun K hK => ?_)
                                refine goes_ Try.func13 (by kernel_rfl) rfl #[.agg #[.int .i64 ((rd_T25 t311 x6_2).f0), .int .i64 ((rd_T25 t311 x6_2).f1)], .int .i64 (rd t315 x11_3), .int .i64 t314] (by rfl) rfl rfl (by (try simp only [List.map_toArray, List.map_cons, List.map_nil]); first | done | rfl | (simp only [List.length_drop, List.length_take]; rfl)) ?_
                                with_reducible refine (impl_IsGood.calls ((rd_T25 t311 x6_2).f0) ((rd_T25 t311 x6_2).f1) (rd t315 x11_3) t314 t324 _ A26.out).mono ?_
                                rintro e w29 ⟨rfl, hb⟩
                                have HS0_ := (hb.cell (World.block_lt_of_cell? _ _ (hHeld.1))).trans (hHeld.1)
                                have HS1_ := (hb.cell (World.block_lt_of_cell? _ _ (hHeld.2.1))).trans (hHeld.2.1)
                                have HS2_ := (hb.cell (World.block_lt_of_cell? _ _ (hHeld.2.2))).trans (hHeld.2.2)
                                refine ⟨_, rfl, ?_⟩
                                have n0_ := Aside0.mk (Kd.R_below (by (with_reducible repeat (first | apply Kd.R_alloc | apply Kd.R_drewN | apply Kd.R_drew)); exact HO_3.out) hb)
                                have n1_ := Aside0.mk (Kd.R_below (by (with_reducible repeat (first | apply Kd.R_alloc | apply Kd.R_drewN | apply Kd.R_drew)); exact HO_5.out) hb)
                                have n2_ := Aside0.mk (below_step (by repeat (first | (with_reducible first | exact HB.out | apply below_alloc | apply pw_below_drewN | apply below_drew1) | exact HB.out)) hb)
                                clear HO_3
                                clear HO_5
                                clear HB
                                have HO_3 := n0_
                                have HO_5 := n1_
                                have HB := n2_
                                clear n0_ n1_ n2_
                                (try clear hb)
                                (try clear hb2)
                                (try clear hk)
                                (try clear hi)
                                refine hK.out _ _ ⟨HS0_, HS1_, HS2_⟩ (fun hHeld => ?_)
                                clear hK K
                                refine norm_ (a' := ?_) ?_ ?_
                                rotate_left
                                · show Act.put _ (some 72) _ = _
                                  simp only [Act.put, List.setIfInBounds_toArray, List.set_cons_zero, List.set_cons_succ, i64_w, i32_w]
                                  rfl
                                refine pure_ (i := 12) (N := some 73) (v := ?_) (a' := ?_) #[true, true, true, true, true, true, true, true, true, true, true, true, true, false] rfl rfl (any_of HT_.out (by kernel_rfl)) (fun _ _ _ h => h) (Or.inl ⟨by rfl, ?_⟩) ?_ ?_
                                rotate_left
                                · intro w'
                                  go_simp
                                  with_reducible rfl
                                rotate_left
                                · simp only [Act.put, List.setIfInBounds_toArray, List.set_cons_zero, List.set_cons_succ, i64_w, i32_w]
                                  rfl
                                refine pure_ (i := 13) (N := some 10) (v := ?_) (a' := ?_) #[true, true, true, true, true, true, true, true, true, true, true, true, true, true] rfl rfl (any_of HT_.out (by kernel_rfl)) (fun _ _ _ h => h) (Or.inl ⟨by rfl, ?_⟩) ?_ ?_
                                rotate_left
                                · intro w'
                                  go_simp
                                  with_reducible rfl
                                rotate_left
                                · simp only [Act.put, List.setIfInBounds_toArray, List.set_cons_zero, List.set_cons_succ, i64_w, i32_w]
                                  rfl
                                refine done_ (done_of HT_.out (by kernel_rfl)) ?_
                                try go_wp2
                                go_roundg k3
                                case measure => have := HJ6.out; have := HK2.out; have := HK3.out; omega
                                case rel => exact ⟨(t324), (wrap64 (x11_3 + 1)), (by first | rfl | (simp; done) | (simp [*]; done)), (by first | rfl | (simp; done) | (simp [*]; done)), H', ⟨by have := HJ6.out; have := HK2.out; have := HK3.out; omega⟩, ⟨by (with_reducible repeat (first | apply Kd.R_alloc | apply Kd.R_drewN | apply Kd.R_drew)); exact HO_3.out⟩, ⟨by (with_reducible repeat (first | apply Kd.R_alloc | apply Kd.R_drewN | apply Kd.R_drew)); exact HO_5.out⟩, ⟨by repeat (first | (with_reducible first | exact HB.out | apply below_alloc | apply pw_below_drewN | apply below_drew1) | exact HB.out)⟩⟩
                              · rw [if_neg c25] at H
                                exact absurd H (by simp)
                            · rw [if_neg c24] at H
                              exact absurd H (by simp)
                          · rw [if_neg c23] at H
                            exact absurd H (by simp)
                      · rw [if_neg c19] at H
                        have c19b0 : decide (x11_3 < (t315.length : Int)) = false := decide_eq_false c19
                        clear c19
                        by_cases c30 : t321 = true
                        · subst c30
                          have H1 : (if 0 ≤ x6_2 then (if x6_2 < (t311.length : Int) then (if (wrap64 (t320 - t319)) = ((rd_T25 t311 x6_2).f1) then (if t320 = (wrap64 (t314 - ((rd_T25 t311 x6_2).f0))) then (if x10_3 = true then ((impl_IsGood.f ((rd_T25 t311 x6_2).f0) ((rd_T25 t311 x6_2).f1) t319 t314).bind fun t328 => (if t328 = true then ((impl_IsGood.f ((rd_T25 t311 x6_2).f0) ((rd_T25 t311 x6_2).f1) t320 t314).bind fun t330 => (if t330 = true then ((impl_IsGood.f ((rd_T25 t311 x6_2).f0) ((rd_T25 t311 x6_2).f1) (wrap64 (t319 - 1)) t314).bind fun t332 => (if t332 = true then (some false) else ((impl_IsGood.f ((rd_T25 t311 x6_2).f0) ((rd_T25 t311 x6_2).f1) (wrap64 (t320 + 1)) t314).bind fun t334 => (if t334 = true then (some false) else (laws_FnThaws.l0 k3 t311 t314 t315 (wrap64 (x6_2 + 1))))))) else (some false))) else (some false))) else (some false)) else (some false)) else (some false)) else (none)) else (none)) = some r := by rw [if_pos rfl] at H; exact H
                          clear H
                          have H := H1
                          clear H1
                          by_cases c31 : 0 ≤ x6_2
                          · rw [if_pos c31] at H
                            have c31b0 : decide (0 ≤ x6_2) = true := decide_eq_true c31
                            clear c31
                            by_cases c32 : x6_2 < (t311.length : Int)
                            · rw [if_pos c32] at H
                              have c32b0 : decide (x6_2 < (t311.length : Int)) = true := decide_eq_true c32
                              clear c32
                              by_cases c33 : (wrap64 (t320 - t319)) = ((rd_T25 t311 x6_2).f1)
                              · rw [if_pos c33] at H
                                have c33b0 : ((wrap64 (t320 - t319)) == ((rd_T25 t311 x6_2).f1)) = true := beq_iff_eq.mpr c33
                                have c33b1 : ((wrap64 (t320 - t319)) != ((rd_T25 t311 x6_2).f1)) = false := bne_eq_false_iff_eq.mpr c33
                                clear c33
                                by_cases c34 : t320 = (wrap64 (t314 - ((rd_T25 t311 x6_2).f0)))
                                · rw [if_pos c34] at H
                                  have c34b0 : (t320 == (wrap64 (t314 - ((rd_T25 t311 x6_2).f0)))) = true := beq_iff_eq.mpr c34
                                  have c34b1 : (t320 != (wrap64 (t314 - ((rd_T25 t311 x6_2).f0)))) = false := bne_eq_false_iff_eq.mpr c34
                                  clear c34
                                  by_cases c35 : x10_3 = true
                                  · subst c35
                                    have H1 : ((impl_IsGood.f ((rd_T25 t311 x6_2).f0) ((rd_T25 t311 x6_2).f1) t319 t314).bind fun t328 => (if t328 = true then ((impl_IsGood.f ((rd_T25 t311 x6_2).f0) ((rd_T25 t311 x6_2).f1) t320 t314).bind fun t330 => (if t330 = true then ((impl_IsGood.f ((rd_T25 t311 x6_2).f0) ((rd_T25 t311 x6_2).f1) (wrap64 (t319 - 1)) t314).bind fun t332 => (if t332 = true then (some false) else ((impl_IsGood.f ((rd_T25 t311 x6_2).f0) ((rd_T25 t311 x6_2).f1) (wrap64 (t320 + 1)) t314).bind fun t334 => (if t334 = true then (some false) else (laws_FnThaws.l0 k3 t311 t314 t315 (wrap64 (x6_2 + 1))))))) else (some false))) else (some false))) = some r := by rw [if_pos rfl] at H; exact H
                                    clear H
                                    have H := H1
                                    clear H1
                                    replace H := Option.bind_eq_some_iff.mp H
                                    obtain ⟨t328, A360, H⟩ := H
                                    replace H : (if t328 = true then ((impl_IsGood.f ((rd_T25 t311 x6_2).f0) ((rd_T25 t311 x6_2).f1) t320 t314).bind fun t330 => (if t330 = true then ((impl_IsGood.f ((rd_T25 t311 x6_2).f0) ((rd_T25 t311 x6_2).f1) (wrap64 (t319 - 1)) t314).bind fun t332 => (if t332 = true then (some false) else ((impl_IsGood.f ((rd_T25 t311 x6_2).f0) ((rd_T25 t311 x6_2).f1) (wrap64 (t320 + 1)) t314).bind fun t334 => (if t334 = true then (some false) else (laws_FnThaws.l0 k3 t311 t314 t315 (wrap64 (x6_2 + 1))))))) else (some false))) else (some false)) = some r := H
                                    have A36 := Aside0.mk A360
                                    clear A360
                                    by_cases c37 : t328 = true
                                    · subst c37
                                      have H1 : ((impl_IsGood.f ((rd_T25 t311 x6_2).f0) ((rd_T25 t311 x6_2).f1) t320 t314).bind fun t330 => (if t330 = true then ((impl_IsGood.f ((rd_T25 t311 x6_2).f0) ((rd_T25 t311 x6_2).f1) (wrap64 (t319 - 1)) t314).bind fun t332 => (if t332 = true then (some false) else ((impl_IsGood.f ((rd_T25 t311 x6_2).f0) ((rd_T25 t311 x6_2).f1) (wrap64 (t320 + 1)) t314).bind fun t334 => (if t334 = true then (some false) else (laws_FnThaws.l0 k3 t311 t314 t315 (wrap64 (x6_2 + 1))))))) else (some false))) = some r := by rw [if_pos rfl] at H; exact H
                                      clear H
                                      have H := H1
                                      clear H1
                                      replace H := Option.bind_eq_some_iff.mp H
                                      obtain ⟨t330, A380, H⟩ := H
                                      replace H : (if t330 = true then ((impl_IsGood.f ((rd_T25 t311 x6_2).f0) ((rd_T25 t311 x6_2).f1) (wrap64 (t319 - 1)) t314).bind fun t332 => (if t332 = true then (some false) else ((impl_IsGood.f ((rd_T25 t311 x6_2).f0) ((rd_T25 t311 x6_2).f1) (wrap64 (t320 + 1)) t314).bind fun t334 => (if t334 = true then (some false) else (laws_FnThaws.l0 k3 t311 t314 t315 (wrap64 (x6_2 + 1))))))) else (some false)) = some r := H
                                      have A38 := Aside0.mk A380
                                      clear A380
                                      by_cases c39 : t330 = true
                                      · subst c39
                                        have H1 : ((impl_IsGood.f ((rd_T25 t311 x6_2).f0) ((rd_T25 t311 x6_2).f1) (wrap64 (t319 - 1)) t314).bind fun t332 => (if t332 = true then (some false) else ((impl_IsGood.f ((rd_T25 t311 x6_2).f0) ((rd_T25 t311 x6_2).f1) (wrap64 (t320 + 1)) t314).bind fun t334 => (if t334 = true then (some false) else (laws_FnThaws.l0 k3 t311 t314 t315 (wrap64 (x6_2 + 1))))))) = some r := by rw [if_pos rfl] at H; exact H
                                        clear H
                                        have H := H1
                                        clear H1
                                        replace H := Option.bind_eq_some_iff.mp H
                                        obtain ⟨t332, A400, H⟩ := H
                                        replace H : (if t332 = true then (some false) else ((impl_IsGood.f ((rd_T25 t311 x6_2).f0) ((rd_T25 t311 x6_2).f1) (wrap64 (t320 + 1)) t314).bind fun t334 => (if t334 = true then (some false) else (laws_FnThaws.l0 k3 t311 t314 t315 (wrap64 (x6_2 + 1)))))) = some r := H
                                        have A40 := Aside0.mk A400
                                        clear A400
                                        by_cases c41 : t332 = true
                                        · subst c41
                                          have H1 : (some false) = some r := by rw [if_pos rfl] at H; exact H
                                          clear H
                                          have H := H1
                                          clear H1
                                          exact absurd ((Option.some.inj H).trans HR_.out) (by decide)
                                        · replace c41 := Bool.eq_false_iff.mpr c41
                                          subst c41
                                          have H1 : ((impl_IsGood.f ((rd_T25 t311 x6_2).f0) ((rd_T25 t311 x6_2).f1) (wrap64 (t320 + 1)) t314).bind fun t334 => (if t334 = true then (some false) else (laws_FnThaws.l0 k3 t311 t314 t315 (wrap64 (x6_2 + 1))))) = some r := by rw [if_neg (show ¬ (false = true) by decide)] at H; exact H
                                          clear H
                                          have H := H1
                                          clear H1
                                          replace H := Option.bind_eq_some_iff.mp H
                                          obtain ⟨t334, A420, H⟩ := H
                                          replace H : (if t334 = true then (some false) else (laws_FnThaws.l0 k3 t311 t314 t315 (wrap64 (x6_2 + 1)))) = some r := H
                                          have A42 := Aside0.mk A420
                                          clear A420
                                          by_cases c43 : t334 = true
                                          · subst c43
                                            have H1 : (some false) = some r := by rw [if_pos rfl] at H; exact H
                                            clear H
                                            have H := H1
                                            clear H1
                                            exact absurd ((Option.some.inj H).trans HR_.out) (by decide)
                                          · replace c43 := Bool.eq_false_iff.mpr c43
                                            subst c43
                                            have H1 : (laws_FnThaws.l0 k3 t311 t314 t315 (wrap64 (x6_2 + 1))) = some r := by rw [if_neg (show ¬ (false = true) by decide)] at H; exact H
                                            clear H
                                            have H := H1
                                            clear H1
                                            have H' := Aside0.mk H
                                            clear H
                                            obtain ⟨Ao44, co44, eo44⟩ := Kd.R_slice HO_5.out
                                            subst eo44
                                            have p325 : 0 ≤ (x6_2 : Int) := of_decide_eq_true (by first | (with_reducible assumption) | assumption)
                                            have q325 : x6_2 < (t311.length : Int) := of_decide_eq_true (by first | (with_reducible assumption) | assumption)
                                            obtain ⟨ad325, e325, hx325_0, hx325_1⟩ := at_T25 (Kd.R_reads' HO_3.out).2.2 x6_2 p325 q325
                                            obtain rfl : ad318 = ad325 := (by injection e325)
                                            replace p325 := eq_true p325
                                            replace q325 := eq_true q325
                                            have p326 : 0 ≤ (x6_2 : Int) := of_decide_eq_true (by first | (with_reducible assumption) | assumption)
                                            have q326 : x6_2 < (t311.length : Int) := of_decide_eq_true (by first | (with_reducible assumption) | assumption)
                                            obtain ⟨ad326, e326, hx326_0, hx326_1⟩ := at_T25 (Kd.R_reads' HO_3.out).2.2 x6_2 p326 q326
                                            obtain rfl : ad318 = ad326 := (by injection e326)
                                            replace p326 := eq_true p326
                                            replace q326 := eq_true q326
                                            have p327 : 0 ≤ (x6_2 : Int) := of_decide_eq_true (by first | (with_reducible assumption) | assumption)
                                            have q327 : x6_2 < (t311.length : Int) := of_decide_eq_true (by first | (with_reducible assumption) | assumption)
                                            obtain ⟨ad327, e327, hx327_0, hx327_1⟩ := at_T25 (Kd.R_reads' HO_3.out).2.2 x6_2 p327 q327
                                            obtain rfl : ad318 = ad327 := (by injection e327)
                                            replace p327 := eq_true p327
                                            replace q327 := eq_true q327
                                            go_wp2_with (first | (go_at_call 13; (with_reducible refine (impl_IsGood.calls ((rd_T25 t311 x6_2).f0) ((rd_T25 t311 x6_2).f1) t319 t314 true _ A36.out).mono ?_); rintro e w45 ⟨rfl, hb⟩; have n0_ := Aside0.mk (Kd.R_below (by (with_reducible repeat (first | apply Kd.R_alloc | apply Kd.R_drewN | apply Kd.R_drew)); exact HO_3.out) hb); have n1_ := Aside0.mk (Kd.R_below (by (with_reducible repeat (first | apply Kd.R_alloc | apply Kd.R_drewN | apply Kd.R_drew)); exact HO_5.out) hb); have n2_ := Aside0.mk (below_step (by repeat (first | (with_reducible first | exact HB.out | apply below_alloc | apply pw_below_drewN | apply below_drew1) | exact HB.out)) hb); clear HO_3; clear HO_5; clear HB; have HO_3 := n0_; have HO_5 := n1_; have HB := n2_; clear n0_ n1_ n2_; (try clear hb); (try clear hb2); (try clear hk); (try clear hi); have p329 : 0 ≤ (x6_2 : Int) := of_decide_eq_true (by first | (with_reducible assumption) | assumption); have q329 : x6_2 < (t311.length : Int) := of_decide_eq_true (by first | (with_reducible assumption) | assumption); obtain ⟨ad329, e329, hx329_0, hx329_1⟩ := at_T25 (Kd.R_reads' HO_3.out).2.2 x6_2 p329 q329; obtain rfl : ad318 = ad329 := (by injection e329); replace p329 := eq_true p329; replace q329 := eq_true q329) | (go_at_call 13; (with_reducible refine (impl_IsGood.calls ((rd_T25 t311 x6_2).f0) ((rd_T25 t311 x6_2).f1) t320 t314 true _ A38.out).mono ?_); rintro e w46 ⟨rfl, hb⟩; have n0_ := Aside0.mk (Kd.R_below (by (with_reducible repeat (first | apply Kd.R_alloc | apply Kd.R_drewN | apply Kd.R_drew)); exact HO_3.out) hb); have n1_ := Aside0.mk (Kd.R_below (by (with_reducible repeat (first | apply Kd.R_alloc | apply Kd.R_drewN | apply Kd.R_drew)); exact HO_5.out) hb); have n2_ := Aside0.mk (below_step (by repeat (first | (with_reducible first | exact HB.out | apply below_alloc | apply pw_below_drewN | apply below_drew1) | exact HB.out)) hb); clear HO_3; clear HO_5; clear HB; have HO_3 := n0_; have HO_5 := n1_; have HB := n2_; clear n0_ n1_ n2_; (try clear hb); (try clear hb2); (try clear hk); (try clear hi); have p331 : 0 ≤ (x6_2 : Int) := of_decide_eq_true (by first | (with_reducible assumption) | assumption); have q331 : x6_2 < (t311.length : Int) := of_decide_eq_true (by first | (with_reducible assumption) | assumption); obtain ⟨ad331, e331, hx331_0, hx331_1⟩ := at_T25 (Kd.R_reads' HO_3.out).2.2 x6_2 p331 q331; obtain rfl : ad318 = ad331 := (by injection e331); replace p331 := eq_true p331; replace q331 := eq_true q331) | (go_at_call 13; (with_reducible refine (impl_IsGood.calls ((rd_T25 t311 x6_2).f0) ((rd_T25 t311 x6_2).f1) (wrap64 (t319 - 1)) t314 false _ A40.out).mono ?_); rintro e w47 ⟨rfl, hb⟩; have n0_ := Aside0.mk (Kd.R_below (by (with_reducible repeat (first | apply Kd.R_alloc | apply Kd.R_drewN | apply Kd.R_drew)); exact HO_3.out) hb); have n1_ := Aside0.mk (Kd.R_below (by (with_reducible repeat (first | apply Kd.R_alloc | apply Kd.R_drewN | apply Kd.R_drew)); exact HO_5.out) hb); have n2_ := Aside0.mk (below_step (by repeat (first | (with_reducible first | exact HB.out | apply below_alloc | apply pw_below_drewN | apply below_drew1) | exact HB.out)) hb); clear HO_3; clear HO_5; clear HB; have HO_3 := n0_; have HO_5 := n1_; have HB := n2_; clear n0_ n1_ n2_; (try clear hb); (try clear hb2); (try clear hk); (try clear hi); have p333 : 0 ≤ (x6_2 : Int) := of_decide_eq_true (by first | (with_reducible assumption) | assumption); have q333 : x6_2 < (t311.length : Int) := of_decide_eq_true (by first | (with_reducible assumption) | assumption); obtain ⟨ad333, e333, hx333_0, hx333_1⟩ := at_T25 (Kd.R_reads' HO_3.out).2.2 x6_2 p333 q333; obtain rfl : ad318 = ad333 := (by injection e333); replace p333 := eq_true p333; replace q333 := eq_true q333) | (go_at_call 13; (with_reducible refine (impl_IsGood.calls ((rd_T25 t311 x6_2).f0) ((rd_T25 t311 x6_2).f1) (wrap64 (t320 + 1)) t314 false _ A42.out).mono ?_); rintro e w48 ⟨rfl, hb⟩; have n0_ := Aside0.mk (Kd.R_below (by (with_reducible repeat (first | apply Kd.R_alloc | apply Kd.R_drewN | apply Kd.R_drew)); exact HO_3.out) hb); have n1_ := Aside0.mk (Kd.R_below (by (with_reducible repeat (first | apply Kd.R_alloc | apply Kd.R_drewN | apply Kd.R_drew)); exact HO_5.out) hb); have n2_ := Aside0.mk (below_step (by repeat (first | (with_reducible first | exact HB.out | apply below_alloc | apply pw_below_drewN | apply below_drew1) | exact HB.out)) hb); clear HO_3; clear HO_5; clear HB; have HO_3 := n0_; have HO_5 := n1_; have HB := n2_; clear n0_ n1_ n2_; (try clear hb); (try clear hb2); (try clear hk); (try clear hi)))
                                            go_roundg k3
                                            case measure => have := HJ6.out; have := HK2.out; have := HK3.out; omega
                                            case rel => exact ⟨(wrap64 (x6_2 + 1)), (by first | rfl | (simp; done) | (simp [*]; done)), H', ⟨by have := HJ6.out; have := HK2.out; have := HK3.out; omega⟩, ⟨by (with_reducible repeat (first | apply Kd.R_alloc | apply Kd.R_drewN | apply Kd.R_drew)); exact HO_3.out⟩, ⟨by (with_reducible repeat (first | apply Kd.R_alloc | apply Kd.R_drewN | apply Kd.R_drew)); exact HO_5.out⟩, ⟨by repeat (first | (with_reducible first | exact HB.out | apply below_alloc | apply pw_below_drewN | apply below_drew1) | exact HB.out)⟩⟩
                                      · replace c39 := Bool.eq_false_iff.mpr c39
                                        subst c39
                                        have H1 : (some false) = some r := by rw [if_neg (show ¬ (false = true) by decide)] at H; exact H
                                        clear H
                                        have H := H1
                                        clear H1
                                        exact absurd ((Option.some.inj H).trans HR_.out) (by decide)
                                    · replace c37 := Bool.eq_false_iff.mpr c37
                                      subst c37
                                      have H1 : (some false) = some r := by rw [if_neg (show ¬ (false = true) by decide)] at H; exact H
                                      clear H
                                      have H := H1
                                      clear H1
                                      exact absurd ((Option.some.inj H).trans HR_.out) (by decide)
                                  · replace c35 := Bool.eq_false_iff.mpr c35
                                    subst c35
                                    have H1 : (some false) = some r := by rw [if_neg (show ¬ (false = true) by decide)] at H; exact H
                                    clear H
                                    have H := H1
                                    clear H1
                                    exact absurd ((Option.some.inj H).trans HR_.out) (by decide)
                                · rw [if_neg c34] at H
                                  have c34b0 : (t320 == (wrap64 (t314 - ((rd_T25 t311 x6_2).f0)))) = false := beq_eq_false_iff_ne.mpr c34
                                  have c34b1 : (t320 != (wrap64 (t314 - ((rd_T25 t311 x6_2).f0)))) = true := bne_iff_ne.mpr c34
                                  exact absurd ((Option.some.inj H).trans HR_.out) (by decide)
                              · rw [if_neg c33] at H
                                have c33b0 : ((wrap64 (t320 - t319)) == ((rd_T25 t311 x6_2).f1)) = false := beq_eq_false_iff_ne.mpr c33
                                have c33b1 : ((wrap64 (t320 - t319)) != ((rd_T25 t311 x6_2).f1)) = true := bne_iff_ne.mpr c33
                                exact absurd ((Option.some.inj H).trans HR_.out) (by decide)
                            · rw [if_neg c32] at H
                              exact absurd H (by simp)
                          · rw [if_neg c31] at H
                            exact absurd H (by simp)
                        · replace c30 := Bool.eq_false_iff.mpr c30
                          subst c30
                          have H1 : (some false) = some r := by rw [if_neg (show ¬ (false = true) by decide)] at H; exact H
                          clear H
                          have H := H1
                          clear H1
                          exact absurd ((Option.some.inj H).trans HR_.out) (by decide)
                · rw [if_neg c16] at H
                  exact absurd H (by simp)
              · rw [if_neg c15] at H
                have c15b0 : decide (x6_2 < (t311.length : Int)) = false := decide_eq_false c15
                clear c15
                have H' := Aside0.mk H
                clear H
                go_wp2
                go_loopg [12] k2 (fun kq v12 w' => ∃ (x12_3 : Int), v12 = .int .i64 x12_3 ∧ Aside0 (laws_FnThaws.l2 kq t311 t314 t315 x12_3 = some r) ∧ Aside0 (kq ≤ k2) ∧ Aside0 (Kd.R k25 25 w' w.heap.size (fun _ => True) (.slice Ao9 t311.length co9) t311) ∧ Aside0 (Kd.R (Kd.int .i64) 3 w' w.heap.size (fun _ => True) v316 t315) ∧ Aside0 (Below w.heap.size w w'))
                case atStart => exact ⟨(1), (by first | rfl | (simp; done) | (simp [*]; done)), H', ⟨Nat.le_refl _⟩, ⟨by (with_reducible repeat (first | apply Kd.R_alloc | apply Kd.R_drewN | apply Kd.R_drew)); exact HO_3.out⟩, ⟨by (with_reducible repeat (first | apply Kd.R_alloc | apply Kd.R_drewN | apply Kd.R_drew)); exact HO_5.out⟩, ⟨by repeat (first | (with_reducible first | exact HB.out | apply below_alloc | apply pw_below_drewN | apply below_drew1) | exact HB.out)⟩⟩
                case round =>
                  clear H'
                  try clear c1
                  try clear c2
                  try clear p2
                  try clear c3
                  try clear p3
                  try clear q3
                  try clear hx3
                  try clear c4
                  try clear p6
                  try clear c7
                  try clear c11
                  try clear c11b0
                  try clear c11b1
                  try clear c11b2
                  try clear c13
                  try clear c14
                  try clear c15
                  try clear c15b0
                  try clear c16
                  try clear c16b0
                  try clear c19
                  try clear c19b0
                  try clear c20
                  try clear c23
                  try clear c23b0
                  try clear c24
                  try clear c24b0
                  try clear c25
                  try clear c25b0
                  try clear c30
                  try clear c31
                  try clear c31b0
                  try clear p31
                  try clear q31
                  try clear hx31
                  try clear c32
                  try clear c32b0
                  try clear p32
                  try clear q32
                  try clear hx32
                  try clear c33
                  try clear c33b0
                  try clear c33b1
                  try clear p33
                  try clear q33
                  try clear hx33
                  try clear c34
                  try clear c34b0
                  try clear c34b1
                  try clear c35
                  try clear c37
                  try clear c39
                  try clear c41
                  try clear c43
                  try clear hx318_0
                  try clear hx318_1
                  try clear hx322_0
                  try clear hx322_1
                  try clear hx323_0
                  try clear hx325_0
                  try clear hx325_1
                  try clear hx326_0
                  try clear hx326_1
                  try clear hx327_0
                  try clear hx327_1
                  try clear hx329_0
                  try clear hx329_1
                  try clear hx331_0
                  try clear hx331_1
                  try clear hx333_0
                  try clear hx333_1
                  try clear p2
                  try clear p3
                  try clear p318
                  try clear p322
                  try clear p323
                  try clear p325
                  try clear p326
                  try clear p327
                  try clear p329
                  try clear p331
                  try clear p333
                  try clear q3
                  try clear q318
                  try clear q322
                  try clear q323
                  try clear q325
                  try clear q326
                  try clear q327
                  try clear q329
                  try clear q331
                  try clear q333
                  obtain ⟨x12_3, rfl, HA, HK3, HO_3, HO_5, HB⟩ := hrel
                  cases gk with
                  | zero => exact absurd HA.out (by simp [laws_FnThaws.l2])
                  | succ k3 =>
                    have H := HA.out
                    clear HA
                    simp only [laws_FnThaws.l2] at H
                    by_cases c49 : x12_3 < (t315.length : Int)
                    · rw [if_pos c49] at H
                      have c49b0 : decide (x12_3 < (t315.length : Int)) = true := decide_eq_true c49
                      clear c49
                      by_cases c50 : 0 ≤ x12_3
                      · rw [if_pos c50] at H
                        have c50b0 : decide (0 ≤ x12_3) = true := decide_eq_true c50
                        clear c50
                        obtain ⟨ji51, hji51⟩ : ∃ j_ : Int, (wrap64 (x12_3 - 1)) = j_ := ⟨_, rfl⟩
                        replace H : (if 0 ≤ (ji51) then (if (ji51) < (t315.length : Int) then (if (rd t315 x12_3) ≤ (rd t315 (ji51)) then (some false) else (laws_FnThaws.l2 k3 t311 t314 t315 (wrap64 (x12_3 + 1)))) else (none)) else (none)) = some r := by first | (rw [hji51] at H; exact H) | (simp only [hji51] at H ⊢; exact H)
                        have hji51w : (IntKind.i64.wrap (x12_3 - 1)) = ji51 := (i64_w _).trans hji51
                        by_cases c52 : 0 ≤ (ji51)
                        · rw [if_pos c52] at H
                          have c52b0 : decide (0 ≤ (ji51)) = true := decide_eq_true c52
                          clear c52
                          by_cases c53 : (ji51) < (t315.length : Int)
                          · rw [if_pos c53] at H
                            have c53b0 : decide ((ji51) < (t315.length : Int)) = true := decide_eq_true c53
                            clear c53
                            by_cases c54 : (rd t315 x12_3) ≤ (rd t315 (ji51))
                            · rw [if_pos c54] at H
                              have c54b0 : decide ((rd t315 x12_3) ≤ (rd t315 (ji51))) = true := decide_eq_true c54
                              clear c54
                              exact absurd ((Option.some.inj H).trans HR_.out) (by decide)
                            · rw [if_neg c54] at H
                              have c54b0 : decide ((rd t315 x12_3) ≤ (rd t315 (ji51))) = false := decide_eq_false c54
                              clear c54
                              have H' := Aside0.mk H
                              clear H
                              obtain ⟨Ao55, co55, eo55⟩ := Kd.R_slice HO_5.out
                              subst eo55
                              try go_wp2
                              have n0_ := Aside0.mk (Kd.R_drew HO_3.out)
                              have n1_ := Aside0.mk (Kd.R_drew HO_5.out)
                              have n2_ := Aside0.mk (below_drew1 HB.out)
                              clear HO_3
                              clear HO_5
                              clear HB
                              have HO_3 := n0_
                              have HO_5 := n1_
                              have HB := n2_
                              clear n0_ n1_ n2_
                              have p335 : 0 ≤ (x12_3 : Int) := of_decide_eq_true (by first | (with_reducible assumption) | assumption)
                              have q335 : x12_3 < (t315.length : Int) := of_decide_eq_true (by first | (with_reducible assumption) | assumption)
                              obtain ⟨ad335, e335, hx335_0⟩ := Kd.at_int (Kd.R_reads' HO_5.out).2.2 x12_3 p335 q335
                              cases e335
                              replace p335 := eq_true p335
                              replace q335 := eq_true q335
                              have p336 : 0 ≤ ((ji51) : Int) := of_decide_eq_true (by first | (with_reducible assumption) | assumption)
                              have q336 : (ji51) < (t315.length : Int) := of_decide_eq_true (by first | (with_reducible assumption) | assumption)
                              obtain ⟨ad336, e336, hx336_0⟩ := Kd.at_int (Kd.R_reads' HO_5.out).2.2 (ji51) p336 q336
                              obtain rfl : ad335 = ad336 := (by injection e336)
                              replace p336 := eq_true p336
                              replace q336 := eq_true q336
                              refine start_ (n := 10) (S := fun w' => w'.cell? (ad335.add (x12_3).toNat) = some (.int .i64 (rd t315 x12_3)) ∧ w'.cell? (ad335.add ((ji51)).toNat) = some (.int .i64 (rd t315 (ji51)))) (ds := []) #[false, false, false, false, false, false, false, false, false, false] (by kernel_rfl) rfl rfl ⟨hx335_0, hx336_0⟩ (fun hHeld => ?_); refine with_tabW laws_FnThaws.tab22 laws_FnThaws.bits22 (fun HT_ HW_ => ?_)
                              generalize wr.drew = w56 at HO_3 HO_5 HB hx335_0 hx336_0 hHeld ⊢
                              refine pure_ (i := 0) (N := some 148) (v := ?_) (a' := ?_) #[true, false, false, false, false, false, false, false, false, false] rfl rfl (any_of HT_.out (by kernel_rfl)) (fun _ _ _ h => h) (Or.inl ⟨by rfl, ?_⟩) ?_ ?_
                              rotate_left
                              · intro w'
                                go_simp
                                with_reducible rfl
                              rotate_left
                              · simp only [Act.put, List.setIfInBounds_toArray, List.set_cons_zero, List.set_cons_succ, i64_w, i32_w]
                                rfl
                              refine pure_ (i := 1) (N := some 149) (v := ?_) (a' := ?_) #[true, true, false, false, false, false, false, false, false, false] rfl rfl (any_of HT_.out (by kernel_rfl)) (fun _ _ _ h => h) (Or.inl ⟨by rfl, ?_⟩) ?_ ?_
                              rotate_left
                              · intro w'
                                go_simp
                                with_reducible rfl
                              rotate_left
                              · simp only [Act.put, List.setIfInBounds_toArray, List.set_cons_zero, List.set_cons_succ, i64_w, i32_w]
                                rfl
                              refine pure_ (i := 2) (N := some 150) (v := ?_) (a' := ?_) #[true, true, true, false, false, false, false, false, false, false] rfl rfl (any_of HT_.out (by kernel_rfl)) (fun _ _ _ h => h) (Or.inl ⟨by rfl, ?_⟩) ?_ ?_
                              rotate_left
                              · intro w'
                                go_simp
                                with_reducible rfl
                              rotate_left
                              · simp only [Act.put, List.setIfInBounds_toArray, List.set_cons_zero, List.set_cons_succ, i64_w, i32_w]
                                rfl
                              refine pure_ (i := 4) (N := some 152) (v := ?_) (a' := ?_) #[true, true, true, false, true, false, false, false, false, false] rfl rfl (any_of HT_.out (by kernel_rfl)) (fun _ _ _ h => h) (Or.inl ⟨by rfl, ?_⟩) ?_ ?_
                              rotate_left
                              · intro w'
                                go_simp
                                with_reducible rfl
                              rotate_left
                              · simp only [Act.put, List.setIfInBounds_toArray, List.set_cons_zero, List.set_cons_succ, i64_w, i32_w]
                                rfl
                              refine pure_ (i := 5) (N := some 153) (v := ?_) (a' := ?_) #[true, true, true, false, true, true, false, false, false, false] rfl rfl (any_of HT_.out (by kernel_rfl)) (fun _ _ _ h => h) (Or.inl ⟨by rfl, ?_⟩) ?_ ?_
                              rotate_left
                              · intro w'
                                go_simp
                                with_reducible rfl
                              rotate_left
                              · simp only [Act.put, List.setIfInBounds_toArray, List.set_cons_zero, List.set_cons_succ, i64_w, i32_w]
                                rfl
                              refine pure_ (i := 6) (N := some 154) (v := ?_) (a' := ?_) #[true, true, true, false, true, true, true, false, false, false] rfl rfl (any_of HT_.out (by kernel_rfl)) (fun _ _ _ h => h) (Or.inl ⟨by rfl, ?_⟩) ?_ ?_
                              rotate_left
                              · intro w'
                                go_simp
                                with_reducible rfl
                              rotate_left
                              · simp only [Act.put, List.setIfInBounds_toArray, List.set_cons_zero, List.set_cons_succ, i64_w, i32_w]
                                rfl
                              refine pure_ (i := 7) (N := some 155) (v := ?_) (a' := ?_) #[true, true, true, false, true, true, true, true, false, false] rfl rfl (any_of HT_.out (by kernel_rfl)) (fun _ _ _ h => h) (Or.inl ⟨by rfl, ?_⟩) ?_ ?_
                              rotate_left
                              · intro w'
                                go_simp
                                with_reducible rfl
                              rotate_left
                              · simp only [Act.put, List.setIfInBounds_toArray, List.set_cons_zero, List.set_cons_succ, i64_w, i32_w]
                                rfl
                              refine take_ (i := 3) (N := some 151) (v := ?_) (a' := ?_) #[true, true, true, true, true, true, true, true, false, false] rfl rfl (take_ofW HT_.out HW_.out (by kernel_rfl)) (fun _ _ _ h => h) (Or.inl ⟨by rfl, ?_⟩) hHeld ?_ ?_
                              rotate_left
                              · rintro w' ⟨s0, s1⟩
                                go_simp
                                with_reducible rfl
                              rotate_left
                              · simp only [Act.put, List.setIfInBounds_toArray, List.set_cons_zero, List.set_cons_succ, i64_w, i32_w]
                                rfl
                              refine take_ (i := 8) (N := some 156) (v := ?_) (a' := ?_) #[true, true, true, true, true, true, true, true, true, false] rfl rfl (take_ofW HT_.out HW_.out (by kernel_rfl)) (fun _ _ _ h => h) (Or.inl ⟨by rfl, ?_⟩) hHeld ?_ ?_
                              rotate_left
                              · rintro w' ⟨s0, s1⟩
                                go_simp
                                with_reducible rfl
                              rotate_left
                              · simp only [Act.put, List.setIfInBounds_toArray, List.set_cons_zero, List.set_cons_succ, i64_w, i32_w]
                                rfl
                              refine pure_ (i := 9) (N := some 157) (v := ?_) (a' := ?_) #[true, true, true, true, true, true, true, true, true, true] rfl rfl (any_of HT_.out (by kernel_rfl)) (fun _ _ _ h => h) (Or.inl ⟨by rfl, ?_⟩) ?_ ?_
                              rotate_left
                              · intro w'
                                go_simp
                                with_reducible rfl
                              rotate_left
                              · simp only [Act.put, List.setIfInBounds_toArray, List.set_cons_zero, List.set_cons_succ, i64_w, i32_w]
                                rfl
                              refine done_ (done_of HT_.out (by kernel_rfl)) ?_
                              try go_wp2
                              go_roundg k3
                              case measure => have := HJ6.out; have := HK2.out; have := HK3.out; omega
                              case rel => exact ⟨(wrap64 (x12_3 + 1)), (by first | rfl | (simp; done) | (simp [*]; done)), H', ⟨by have := HJ6.out; have := HK2.out; have := HK3.out; omega⟩, ⟨by (with_reducible repeat (first | apply Kd.R_alloc | apply Kd.R_drewN | apply Kd.R_drew)); exact HO_3.out⟩, ⟨by (with_reducible repeat (first | apply Kd.R_alloc | apply Kd.R_drewN | apply Kd.R_drew)); exact HO_5.out⟩, ⟨by repeat (first | (with_reducible first | exact HB.out | apply below_alloc | apply pw_below_drewN | apply below_drew1) | exact HB.out)⟩⟩
                          · rw [if_neg c53] at H
                            exact absurd H (by simp)
                        · rw [if_neg c52] at H
                          exact absurd H (by simp)
                      · rw [if_neg c50] at H
                        exact absurd H (by simp)
                    · rw [if_neg c49] at H
                      have c49b0 : decide (x12_3 < (t315.length : Int)) = false := decide_eq_false c49
                      clear c49
                      replace H := Option.bind_eq_some_iff.mp H
                      obtain ⟨⟨t337, t338⟩, A570, H⟩ := H
                      replace H : (if (t338 != ((t315.length : Int) == 1)) = true then (laws_FnThaws.j4 k3 t311 t314 t337 t338 true) else (if t338 = true then (if 0 < (t315.length : Int) then (laws_FnThaws.j4 k3 t311 t314 t337 t338 (t337 != (rd t315 0))) else (none)) else (laws_FnThaws.j4 k3 t311 t314 t337 t338 false))) = some r := H
                      have A57 := Aside0.mk A570
                      clear A570
                      have HC58 := Aside0.mk H
                      clear H
                      obtain ⟨Ao59, co59, eo59⟩ := Kd.R_slice HO_5.out
                      subst eo59
                      go_upto_region 25 with (first | ((with_reducible refine gate_callee (f := 19) rfl ?_); refine goesL_ (some 161) rfl rfl Try.func19 (by kernel_rfl) rfl #[.slice Ao9 t311.length co9, .int .i64 t314] rfl (by (try simp only [List.map_toArray, List.map_cons, List.map_nil]); first | done | rfl | (simp only [List.length_drop, List.length_take]; rfl)) ?_; (with_reducible refine (impl_OneTime.calls k3 _ _ t311 t314 t337 t338 _ ?side1 ?side2 A57.out).mono ?_); (case side1 => repeat (first | exact (Kd.R_reads' HO_3.out).2.2 | (with_reducible refine Kd.C_alloc ?_ _) | (with_reducible refine Kd.C_drewN ?_ _) | (with_reducible refine Kd.C_drew ?_))); (case side2 => exact (Kd.R_reads' HO_3.out).2.1); rintro e w60 ⟨rfl, hb⟩; refine ⟨_, rfl, ?_⟩; have n0_ := Aside0.mk (Kd.R_below (by (with_reducible repeat (first | apply Kd.R_alloc | apply Kd.R_drewN | apply Kd.R_drew)); exact HO_3.out) hb); have n1_ := Aside0.mk (Kd.R_below (by (with_reducible repeat (first | apply Kd.R_alloc | apply Kd.R_drewN | apply Kd.R_drew)); exact HO_5.out) hb); have n2_ := Aside0.mk (below_step (by repeat (first | (with_reducible first | exact HB.out | apply below_alloc | apply pw_below_drewN | apply below_drew1) | exact HB.out)) hb); clear HO_3; clear HO_5; clear HB; have HO_3 := n0_; have HO_5 := n1_; have HB := n2_; clear n0_ n1_ n2_; (try clear hb); (try clear hb2); (try clear hk); (try clear hi)))
                      (try simp only [Act.put, List.setIfInBounds_toArray, List.set_cons_zero, List.set_cons_succ])
                      go_cut [178] (fun v178 wc => ∃ (kq : Nat) (x178_57 : Bool), v178 = .bool x178_57 ∧ Aside0 (laws_FnThaws.j4 kq t311 t314 t337 t338 x178_57 = some r) ∧ Aside0 (kq ≤ k3) ∧ Aside0 (Kd.R k25 25 wc w.heap.size (fun _ => True) (.slice Ao9 t311.length co9) t311) ∧ Aside0 (Below w.heap.size w wc))
                      case first =>
                        have H := HC58.out
                        clear HC58
                        by_cases c61 : (t338 != ((t315.length : Int) == 1)) = true
                        · rw [if_pos c61] at H
                          have c61b0 : (t338 != ((t315.length : Int) == 1)) = true := c61
                          (try (have c61b1 : decide (t338 = ((t315.length : Int) == 1)) = false := by simpa using c61))
                          (try (have c61b2 : (t338 == ((t315.length : Int) == 1)) = false := by simpa using c61))
                          (try (have c61b3 : ¬ (t338 = ((t315.length : Int) == 1)) := by simpa using c61))
                          clear c61
                          (first | rw [c61b0] | (simp only [i64_w, i32_w]; rw [c61b0]) | skip)
                          have H' := Aside0.mk H
                          clear H
                          go_wp2
                          go_meet
                          case rel => exact ⟨_, (true), (by first | rfl | (simp; done) | (simp [*]; done)), H', ⟨by have := HJ6.out; have := HK2.out; have := HK3.out; first | omega | exact Nat.le_refl _⟩, ⟨by (with_reducible repeat (first | apply Kd.R_alloc | apply Kd.R_drewN | apply Kd.R_drew)); exact HO_3.out⟩, ⟨by repeat (first | (with_reducible first | exact HB.out | apply below_alloc | apply pw_below_drewN | apply below_drew1) | exact HB.out)⟩⟩
                        · rw [if_neg c61] at H
                          have c61b0 : (t338 != ((t315.length : Int) == 1)) = false := by simpa using c61
                          (try (have c61b1 : decide (t338 = ((t315.length : Int) == 1)) = true := by simpa using c61))
                          (try (have c61b2 : (t338 == ((t315.length : Int) == 1)) = true := by simpa using c61))
                          clear c61
                          (first | rw [c61b0] | (simp only [i64_w, i32_w]; rw [c61b0]) | skip)
                          by_cases c62 : t338 = true
                          · subst c62
                            have H1 : (if 0 < (t315.length : Int) then (laws_FnThaws.j4 k3 t311 t314 t337 true (t337 != (rd t315 0))) else (none)) = some r := by rw [if_pos rfl] at H; exact H
                            clear H
                            have H := H1
                            clear H1
                            by_cases c63 : 0 < (t315.length : Int)
                            · rw [if_pos c63] at H
                              have c63b0 : decide (0 < (t315.length : Int)) = true := decide_eq_true c63
                              have c63b1 : decide (0 < t315.length) = true := decide_eq_true (by omega)
                              clear c63
                              have H' := Aside0.mk H
                              clear H
                              have p339 : 0 ≤ (0 : Int) := (by omega)
                              have q339 : 0 < (t315.length : Int) := of_decide_eq_true (by first | (with_reducible assumption) | assumption)
                              obtain ⟨ad339, e339, hx339_0⟩ := Kd.at_int (Kd.R_reads' HO_5.out).2.2 0 p339 q339
                              cases e339
                              have qi339 : (0 < t315.length) = True := eq_true (by omega)
                              (try rw [show ((0 : Int)).toNat = 0 from rfl] at hx339_0)
                              (try rw [Addr.add_zero'] at hx339_0)
                              replace p339 := eq_true p339
                              replace q339 := eq_true q339
                              go_wp2
                              go_meet
                              case rel => exact ⟨_, ((t337 != (rd t315 0))), (by first | rfl | (simp; done) | (simp [*]; done)), H', ⟨by have := HJ6.out; have := HK2.out; have := HK3.out; first | omega | exact Nat.le_refl _⟩, ⟨by (with_reducible repeat (first | apply Kd.R_alloc | apply Kd.R_drewN | apply Kd.R_drew)); exact HO_3.out⟩, ⟨by repeat (first | (with_reducible first | exact HB.out | apply below_alloc | apply pw_below_drewN | apply below_drew1) | exact HB.out)⟩⟩
                            · rw [if_neg c63] at H
                              exact absurd H (by simp)
                          · replace c62 := Bool.eq_false_iff.mpr c62
                            subst c62
                            have H1 : (laws_FnThaws.j4 k3 t311 t314 t337 false false) = some r := by rw [if_neg (show ¬ (false = true) by decide)] at H; exact H
                            clear H
                            have H := H1
                            clear H1
                            have H' := Aside0.mk H
                            clear H
                            go_wp2
                            go_meet
                            case rel => exact ⟨_, (false), (by first | rfl | (simp; done) | (simp [*]; done)), H', ⟨by have := HJ6.out; have := HK2.out; have := HK3.out; first | omega | exact Nat.le_refl _⟩, ⟨by (with_reducible repeat (first | apply Kd.R_alloc | apply Kd.R_drewN | apply Kd.R_drew)); exact HO_3.out⟩, ⟨by repeat (first | (with_reducible first | exact HB.out | apply below_alloc | apply pw_below_drewN | apply below_drew1) | exact HB.out)⟩⟩
                      case rest =>
                        clear HC58
                        try clear c1
                        try clear c2
                        try clear p2
                        try clear c3
                        try clear p3
                        try clear q3
                        try clear hx3
                        try clear qi3
                        try clear c4
                        try clear c5
                        try clear c6
                        try clear p6
                        try clear c7
                        try clear c11
                        try clear c11b0
                        try clear c11b1
                        try clear c11b2
                        try clear c13
                        try clear c14
                        try clear c15
                        try clear c15b0
                        try clear c16
                        try clear c16b0
                        try clear c19
                        try clear c19b0
                        try clear c20
                        try clear c23
                        try clear c23b0
                        try clear c24
                        try clear c24b0
                        try clear c25
                        try clear c25b0
                        try clear c30
                        try clear c31
                        try clear c31b0
                        try clear p31
                        try clear q31
                        try clear hx31
                        try clear c32
                        try clear c32b0
                        try clear p32
                        try clear q32
                        try clear hx32
                        try clear c33
                        try clear c33b0
                        try clear c33b1
                        try clear p33
                        try clear q33
                        try clear hx33
                        try clear qi33
                        try clear c34
                        try clear c34b0
                        try clear c34b1
                        try clear c35
                        try clear c37
                        try clear c39
                        try clear c41
                        try clear c43
                        try clear c49
                        try clear c49b0
                        try clear c50
                        try clear c50b0
                        try clear c52
                        try clear c52b0
                        try clear c53
                        try clear c53b0
                        try clear c54
                        try clear c54b0
                        try clear c61
                        try clear c61b0
                        try clear c61b1
                        try clear c61b2
                        try clear c62
                        try clear c63
                        try clear c63b0
                        try clear c63b1
                        try clear hx318_0
                        try clear hx318_1
                        try clear hx322_0
                        try clear hx322_1
                        try clear hx323_0
                        try clear hx325_0
                        try clear hx325_1
                        try clear hx326_0
                        try clear hx326_1
                        try clear hx327_0
                        try clear hx327_1
                        try clear hx329_0
                        try clear hx329_1
                        try clear hx331_0
                        try clear hx331_1
                        try clear hx333_0
                        try clear hx333_1
                        try clear hx335_0
                        try clear hx336_0
                        try clear hx339_0
                        try clear p2
                        try clear p3
                        try clear p31
                        try clear p318
                        try clear p32
                        try clear p322
                        try clear p323
                        try clear p325
                        try clear p326
                        try clear p327
                        try clear p329
                        try clear p33
                        try clear p331
                        try clear p333
                        try clear p335
                        try clear p336
                        try clear p339
                        try clear p6
                        try clear q3
                        try clear q31
                        try clear q318
                        try clear q32
                        try clear q322
                        try clear q323
                        try clear q325
                        try clear q326
                        try clear q327
                        try clear q329
                        try clear q33
                        try clear q331
                        try clear q333
                        try clear q335
                        try clear q336
                        try clear q339
                        obtain ⟨kq, x178_57, rfl, HA, HJ57, HO_3, HB⟩ := hcut
                        cases kq with
                        | zero => exact absurd HA.out (by simp [laws_FnThaws.j4])
                        | succ kj57 =>
                          have H := HA.out
                          clear HA
                          simp only [laws_FnThaws.j4] at H
                          by_cases c64 : x178_57 = true
                          · subst c64
                            have H1 : (some false) = some r := by rw [if_pos rfl] at H; exact H
                            clear H
                            have H := H1
                            clear H1
                            exact absurd ((Option.some.inj H).trans HR_.out) (by decide)
                          · replace c64 := Bool.eq_false_iff.mpr c64
                            subst c64
                            have H1 : (laws_FnThaws.l3 kj57 t311 t314 t337 t338 0) = some r := by rw [if_neg (show ¬ (false = true) by decide)] at H; exact H
                            clear H
                            have H := H1
                            clear H1
                            have H' := Aside0.mk H
                            clear H
                            go_wp2
                            go_loopg [15] kj57 (fun kq v15 w' => ∃ (x15_5 : Int), v15 = .int .i64 x15_5 ∧ Aside0 (laws_FnThaws.l3 kq t311 t314 t337 t338 x15_5 = some r) ∧ Aside0 (kq ≤ kj57) ∧ Aside0 (Kd.R k25 25 w' w.heap.size (fun _ => True) (.slice Ao9 t311.length co9) t311) ∧ Aside0 (Below w.heap.size w w'))
                            case atStart => exact ⟨(0), (by first | rfl | (simp; done) | (simp [*]; done)), H', ⟨Nat.le_refl _⟩, ⟨by (with_reducible repeat (first | apply Kd.R_alloc | apply Kd.R_drewN | apply Kd.R_drew)); exact HO_3.out⟩, ⟨by repeat (first | (with_reducible first | exact HB.out | apply below_alloc | apply pw_below_drewN | apply below_drew1) | exact HB.out)⟩⟩
                            case round =>
                              clear H'
                              try clear c1
                              try clear c2
                              try clear p2
                              try clear c3
                              try clear p3
                              try clear q3
                              try clear hx3
                              try clear qi3
                              try clear c4
                              try clear c5
                              try clear c6
                              try clear p6
                              try clear c7
                              try clear c11
                              try clear c11b0
                              try clear c11b1
                              try clear c11b2
                              try clear c13
                              try clear c14
                              try clear c15
                              try clear c15b0
                              try clear c16
                              try clear c16b0
                              try clear c19
                              try clear c19b0
                              try clear c20
                              try clear c23
                              try clear c23b0
                              try clear c24
                              try clear c24b0
                              try clear c25
                              try clear c25b0
                              try clear c30
                              try clear c31
                              try clear c31b0
                              try clear p31
                              try clear q31
                              try clear hx31
                              try clear c32
                              try clear c32b0
                              try clear p32
                              try clear q32
                              try clear hx32
                              try clear c33
                              try clear c33b0
                              try clear c33b1
                              try clear p33
                              try clear q33
                              try clear hx33
                              try clear qi33
                              try clear c34
                              try clear c34b0
                              try clear c34b1
                              try clear c35
                              try clear c37
                              try clear c39
                              try clear c41
                              try clear c43
                              try clear c49
                              try clear c49b0
                              try clear c50
                              try clear c50b0
                              try clear c52
                              try clear c52b0
                              try clear c53
                              try clear c53b0
                              try clear c54
                              try clear c54b0
                              try clear c61
                              try clear c61b0
                              try clear c61b1
                              try clear c61b2
                              try clear c62
                              try clear c63
                              try clear c63b0
                              try clear c63b1
                              try clear c64
                              try clear p64
                              try clear hx318_0
                              try clear hx318_1
                              try clear hx322_0
                              try clear hx322_1
                              try clear hx323_0
                              try clear hx325_0
                              try clear hx325_1
                              try clear hx326_0
                              try clear hx326_1
                              try clear hx327_0
                              try clear hx327_1
                              try clear hx329_0
                              try clear hx329_1
                              try clear hx331_0
                              try clear hx331_1
                              try clear hx333_0
                              try clear hx333_1
                              try clear hx335_0
                              try clear hx336_0
                              try clear hx339_0
                              try clear p2
                              try clear p3
                              try clear p31
                              try clear p318
                              try clear p32
                              try clear p322
                              try clear p323
                              try clear p325
                              try clear p326
                              try clear p327
                              try clear p329
                              try clear p33
                              try clear p331
                              try clear p333
                              try clear p335
                              try clear p336
                              try clear p339
                              try clear p6
                              try clear q3
                              try clear q31
                              try clear q318
                              try clear q32
                              try clear q322
                              try clear q323
                              try clear q325
                              try clear q326
                              try clear q327
                              try clear q329
                              try clear q33
                              try clear q331
                              try clear q333
                              try clear q335
                              try clear q336
                              try clear q339
                              obtain ⟨x15_5, rfl, HA, HK5, HO_3, HB⟩ := hrel
                              cases gk with
                              | zero => exact absurd HA.out (by simp [laws_FnThaws.l3])
                              | succ k5 =>
                                have H := HA.out
                                clear HA
                                simp only [laws_FnThaws.l3] at H
                                have HC65 := Aside0.mk H
                                clear H
                                go_upto_region 28 with (fail)
                                go_cut [185] (fun v185 wc => ∃ (kq : Nat) (x185_64 : Bool), v185 = .bool x185_64 ∧ Aside0 (laws_FnThaws.j6 kq t311 t314 t337 t338 x15_5 x185_64 = some r) ∧ Aside0 (kq ≤ k5) ∧ Aside0 (Kd.R k25 25 wc w.heap.size (fun _ => True) (.slice Ao9 t311.length co9) t311) ∧ Aside0 (Below w.heap.size w wc))
                                case first =>
                                  have H := HC65.out
                                  clear HC65
                                  by_cases c66 : x15_5 < (t311.length : Int)
                                  · rw [if_pos c66] at H
                                    have c66b0 : decide (x15_5 < (t311.length : Int)) = true := decide_eq_true c66
                                    clear c66
                                    (first | rw [c66b0] | (simp only [i64_w, i32_w]; rw [c66b0]) | skip)
                                    have H' := Aside0.mk H
                                    clear H
                                    go_wp2
                                    go_meet
                                    case rel => exact ⟨_, (t338), (by first | rfl | (simp; done) | (simp [*]; done)), H', ⟨by have := HJ6.out; have := HK2.out; have := HK3.out; have := HJ57.out; have := HK5.out; first | omega | exact Nat.le_refl _⟩, ⟨by (with_reducible repeat (first | apply Kd.R_alloc | apply Kd.R_drewN | apply Kd.R_drew)); exact HO_3.out⟩, ⟨by repeat (first | (with_reducible first | exact HB.out | apply below_alloc | apply pw_below_drewN | apply below_drew1) | exact HB.out)⟩⟩
                                  · rw [if_neg c66] at H
                                    have c66b0 : decide (x15_5 < (t311.length : Int)) = false := decide_eq_false c66
                                    clear c66
                                    (first | rw [c66b0] | (simp only [i64_w, i32_w]; rw [c66b0]) | skip)
                                    have H' := Aside0.mk H
                                    clear H
                                    go_wp2
                                    go_meet
                                    case rel => exact ⟨_, (false), (by first | rfl | (simp; done) | (simp [*]; done)), H', ⟨by have := HJ6.out; have := HK2.out; have := HK3.out; have := HJ57.out; have := HK5.out; first | omega | exact Nat.le_refl _⟩, ⟨by (with_reducible repeat (first | apply Kd.R_alloc | apply Kd.R_drewN | apply Kd.R_drew)); exact HO_3.out⟩, ⟨by repeat (first | (with_reducible first | exact HB.out | apply below_alloc | apply pw_below_drewN | apply below_drew1) | exact HB.out)⟩⟩
                                case rest =>
                                  clear HC65
                                  try clear c1
                                  try clear c2
                                  try clear p2
                                  try clear c3
                                  try clear p3
                                  try clear q3
                                  try clear hx3
                                  try clear qi3
                                  try clear c4
                                  try clear c5
                                  try clear c6
                                  try clear p6
                                  try clear c7
                                  try clear c11
                                  try clear c11b0
                                  try clear c11b1
                                  try clear c11b2
                                  try clear c13
                                  try clear c14
                                  try clear c15
                                  try clear c15b0
                                  try clear c16
                                  try clear c16b0
                                  try clear c19
                                  try clear c19b0
                                  try clear c20
                                  try clear c23
                                  try clear c23b0
                                  try clear c24
                                  try clear c24b0
                                  try clear c25
                                  try clear c25b0
                                  try clear c30
                                  try clear c31
                                  try clear c31b0
                                  try clear p31
                                  try clear q31
                                  try clear hx31
                                  try clear c32
                                  try clear c32b0
                                  try clear p32
                                  try clear q32
                                  try clear hx32
                                  try clear c33
                                  try clear c33b0
                                  try clear c33b1
                                  try clear p33
                                  try clear q33
                                  try clear hx33
                                  try clear qi33
                                  try clear c34
                                  try clear c34b0
                                  try clear c34b1
                                  try clear c35
                                  try clear c37
                                  try clear c39
                                  try clear c41
                                  try clear c43
                                  try clear c49
                                  try clear c49b0
                                  try clear c50
                                  try clear c50b0
                                  try clear c52
                                  try clear c52b0
                                  try clear c53
                                  try clear c53b0
                                  try clear c54
                                  try clear c54b0
                                  try clear c61
                                  try clear c61b0
                                  try clear c61b1
                                  try clear c61b2
                                  try clear c62
                                  try clear c63
                                  try clear c63b0
                                  try clear c63b1
                                  try clear c64
                                  try clear p64
                                  try clear c66
                                  try clear c66b0
                                  try clear hx318_0
                                  try clear hx318_1
                                  try clear hx322_0
                                  try clear hx322_1
                                  try clear hx323_0
                                  try clear hx325_0
                                  try clear hx325_1
                                  try clear hx326_0
                                  try clear hx326_1
                                  try clear hx327_0
                                  try clear hx327_1
                                  try clear hx329_0
                                  try clear hx329_1
                                  try clear hx331_0
                                  try clear hx331_1
                                  try clear hx333_0
                                  try clear hx333_1
                                  try clear hx335_0
                                  try clear hx336_0
                                  try clear hx339_0
                                  try clear p2
                                  try clear p3
                                  try clear p31
                                  try clear p318
                                  try clear p32
                                  try clear p322
                                  try clear p323
                                  try clear p325
                                  try clear p326
                                  try clear p327
                                  try clear p329
                                  try clear p33
                                  try clear p331
                                  try clear p333
                                  try clear p335
                                  try clear p336
                                  try clear p339
                                  try clear p6
                                  try clear p64
                                  try clear q3
                                  try clear q31
                                  try clear q318
                                  try clear q32
                                  try clear q322
                                  try clear q323
                                  try clear q325
                                  try clear q326
                                  try clear q327
                                  try clear q329
                                  try clear q33
                                  try clear q331
                                  try clear q333
                                  try clear q335
                                  try clear q336
                                  try clear q339
                                  obtain ⟨kq, x185_64, rfl, HA, HJ64, HO_3, HB⟩ := hcut
                                  cases kq with
                                  | zero => exact absurd HA.out (by simp [laws_FnThaws.j6])
                                  | succ kj64 =>
                                    have H := HA.out
                                    clear HA
                                    simp only [laws_FnThaws.j6] at H
                                    by_cases c67 : x185_64 = true
                                    · subst c67
                                      have H1 : (if 0 ≤ x15_5 then (if x15_5 < (t311.length : Int) then ((impl_IsGood.f ((rd_T25 t311 x15_5).f0) ((rd_T25 t311 x15_5).f1) t337 t314).bind fun t341 => (if t341 = true then (laws_FnThaws.l3 kj64 t311 t314 t337 t338 (wrap64 (x15_5 + 1))) else (some false))) else (none)) else (none)) = some r := by rw [if_pos rfl] at H; exact H
                                      clear H
                                      have H := H1
                                      clear H1
                                      by_cases c68 : 0 ≤ x15_5
                                      · rw [if_pos c68] at H
                                        have c68b0 : decide (0 ≤ x15_5) = true := decide_eq_true c68
                                        clear c68
                                        by_cases c69 : x15_5 < (t311.length : Int)
                                        · rw [if_pos c69] at H
                                          have c69b0 : decide (x15_5 < (t311.length : Int)) = true := decide_eq_true c69
                                          clear c69
                                          replace H := Option.bind_eq_some_iff.mp H
                                          obtain ⟨t341, A700, H⟩ := H
                                          replace H : (if t341 = true then (laws_FnThaws.l3 kj64 t311 t314 t337 t338 (wrap64 (x15_5 + 1))) else (some false)) = some r := H
                                          have A70 := Aside0.mk A700
                                          clear A700
                                          by_cases c71 : t341 = true
                                          · subst c71
                                            have H1 : (laws_FnThaws.l3 kj64 t311 t314 t337 t338 (wrap64 (x15_5 + 1))) = some r := by rw [if_pos rfl] at H; exact H
                                            clear H
                                            have H := H1
                                            clear H1
                                            have H' := Aside0.mk H
                                            clear H
                                            have p340 : 0 ≤ (x15_5 : Int) := of_decide_eq_true (by first | (with_reducible assumption) | assumption)
                                            have q340 : x15_5 < (t311.length : Int) := of_decide_eq_true (by first | (with_reducible assumption) | assumption)
                                            obtain ⟨ad340, e340, hx340_0, hx340_1⟩ := at_T25 (Kd.R_reads' HO_3.out).2.2 x15_5 p340 q340
                                            cases e340
                                            replace p340 := eq_true p340
                                            replace q340 := eq_true q340
                                            go_wp2_with (first | ((with_reducible refine gate_callee (f := 13) rfl ?_); refine goesL_ (some 194) rfl rfl Try.func13 (by kernel_rfl) rfl #[.agg #[.int .i64 ((rd_T25 t311 x15_5).f0), .int .i64 ((rd_T25 t311 x15_5).f1)], .int .i64 t337, .int .i64 t314] rfl (by (try simp only [List.map_toArray, List.map_cons, List.map_nil]); first | done | rfl | (simp only [List.length_drop, List.length_take]; rfl)) ?_; (with_reducible refine (impl_IsGood.calls ((rd_T25 t311 x15_5).f0) ((rd_T25 t311 x15_5).f1) t337 t314 true _ A70.out).mono ?_); rintro e w72 ⟨rfl, hb⟩; refine ⟨_, rfl, ?_⟩; have n0_ := Aside0.mk (Kd.R_below (by (with_reducible repeat (first | apply Kd.R_alloc | apply Kd.R_drewN | apply Kd.R_drew)); exact HO_3.out) hb); have n1_ := Aside0.mk (below_step (by repeat (first | (with_reducible first | exact HB.out | apply below_alloc | apply pw_below_drewN | apply below_drew1) | exact HB.out)) hb); clear HO_3; clear HB; have HO_3 := n0_; have HB := n1_; clear n0_ n1_; (try clear hb); (try clear hb2); (try clear hk); (try clear hi)))
                                            go_roundg kj64
                                            case measure => have := HJ6.out; have := HK2.out; have := HK3.out; have := HJ57.out; have := HK5.out; have := HJ64.out; omega
                                            case rel => exact ⟨(wrap64 (x15_5 + 1)), (by first | rfl | (simp; done) | (simp [*]; done)), H', ⟨by have := HJ6.out; have := HK2.out; have := HK3.out; have := HJ57.out; have := HK5.out; have := HJ64.out; omega⟩, ⟨by (with_reducible repeat (first | apply Kd.R_alloc | apply Kd.R_drewN | apply Kd.R_drew)); exact HO_3.out⟩, ⟨by repeat (first | (with_reducible first | exact HB.out | apply below_alloc | apply pw_below_drewN | apply below_drew1) | exact HB.out)⟩⟩
                                          · replace c71 := Bool.eq_false_iff.mpr c71
                                            subst c71
                                            have H1 : (some false) = some r := by rw [if_neg (show ¬ (false = true) by decide)] at H; exact H
                                            clear H
                                            have H := H1
                                            clear H1
                                            exact absurd ((Option.some.inj H).trans HR_.out) (by decide)
                                        · rw [if_neg c69] at H
                                          exact absurd H (by simp)
                                      · rw [if_neg c68] at H
                                        exact absurd H (by simp)
                                    · replace c67 := Bool.eq_false_iff.mpr c67
                                      subst c67
                                      have H1 : ((impl_IsGood.f 3 1 5 9).bind fun t342 => (if t342 = true then ((impl_IsGood.f 3 1 5 10).bind fun t343 => (some (!t343))) else (some false))) = some r := by rw [if_neg (show ¬ (false = true) by decide)] at H; exact H
                                      clear H
                                      have H := H1
                                      clear H1
                                      replace H := Option.bind_eq_some_iff.mp H
                                      obtain ⟨t342, A730, H⟩ := H
                                      replace H : (if t342 = true then ((impl_IsGood.f 3 1 5 10).bind fun t343 => (some (!t343))) else (some false)) = some r := H
                                      have A73 := Aside0.mk A730
                                      clear A730
                                      by_cases c74 : t342 = true
                                      · subst c74
                                        have H1 : ((impl_IsGood.f 3 1 5 10).bind fun t343 => (some (!t343))) = some r := by rw [if_pos rfl] at H; exact H
                                        clear H
                                        have H := H1
                                        clear H1
                                        replace H := Option.bind_eq_some_iff.mp H
                                        obtain ⟨t343, A750, H⟩ := H
                                        replace H : (some (!t343)) = some r := H
                                        have A75 := Aside0.mk A750
                                        clear A750
                                        obtain rfl := Option.some.inj H
                                        go_wp2_with (first | ((with_reducible refine gate_callee (f := 13) rfl ?_); refine goesL_ (some 197) rfl rfl Try.func13 (by kernel_rfl) rfl #[.agg #[.int .i64 3, .int .i64 1], .int .i64 5, .int .i64 9] rfl (by (try simp only [List.map_toArray, List.map_cons, List.map_nil]); first | done | rfl | (simp only [List.length_drop, List.length_take]; rfl)) ?_; (with_reducible refine (impl_IsGood.calls 3 1 5 9 true _ A73.out).mono ?_); rintro e w76 ⟨rfl, hb⟩; refine ⟨_, rfl, ?_⟩; have n0_ := Aside0.mk (Kd.R_below (by (with_reducible repeat (first | apply Kd.R_alloc | apply Kd.R_drewN | apply Kd.R_drew)); exact HO_3.out) hb); have n1_ := Aside0.mk (below_step (by repeat (first | (with_reducible first | exact HB.out | apply below_alloc | apply pw_below_drewN | apply below_drew1) | exact HB.out)) hb); clear HO_3; clear HB; have HO_3 := n0_; have HB := n1_; clear n0_ n1_; (try clear hb); (try clear hb2); (try clear hk); (try clear hi)) | (go_at_call 13; (with_reducible refine (impl_IsGood.calls 3 1 5 10 t343 _ A75.out).mono ?_); rintro e w77 ⟨rfl, hb⟩; have n0_ := Aside0.mk (Kd.R_below (by (with_reducible repeat (first | apply Kd.R_alloc | apply Kd.R_drewN | apply Kd.R_drew)); exact HO_3.out) hb); have n1_ := Aside0.mk (below_step (by repeat (first | (with_reducible first | exact HB.out | apply below_alloc | apply pw_below_drewN | apply below_drew1) | exact HB.out)) hb); clear HO_3; clear HB; have HO_3 := n0_; have HB := n1_; clear n0_ n1_; (try clear hb); (try clear hb2); (try clear hk); (try clear hi)))
                                        go_ret
                                        exact ⟨by first | rfl | (simp [errW_none, errW_some] <;> rfl) | (simp [*, errW_none, errW_some] <;> rfl), by repeat (first | (with_reducible first | exact HB.out | apply below_alloc | apply pw_below_drewN | apply below_drew1) | exact HB.out)⟩
                                      · replace c74 := Bool.eq_false_iff.mpr c74
                                        subst c74
                                        have H1 : (some false) = some r := by rw [if_neg (show ¬ (false = true) by decide)] at H; exact H
                                        clear H
                                        have H := H1
                                        clear H1
                                        exact absurd ((Option.some.inj H).trans HR_.out) (by decide)

/-- THE ONE PURE STATEMENT of laws_FnThaws. -/
def laws_FnThaws.Pure : Prop := ∀ (l0 : List Int), (l0.length ≤ maxLen ∧ ∀ x ∈ l0, (Lit.int .u8 x).wf = true) → ∃ k, laws_FnThaws.f k l0 = some true

end Go.Proofs.Ytgibgapbbnbekaa.Q
