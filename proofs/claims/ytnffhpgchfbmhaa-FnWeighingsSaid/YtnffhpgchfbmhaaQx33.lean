/- The functions that the seat's statements reach, as plain Lean functions, and that the program's calls answer what they say; no condition beyond the values read. Written by a program of this session's over the kit's print. -/
import Derived.Test.YtnffhpgchfbmhaaQx0
import Derived.Test.YtnffhpgchfbmhaaQx1
import Derived.Test.YtnffhpgchfbmhaaQx3
import Derived.Test.YtnffhpgchfbmhaaQx10
import Derived.Test.YtnffhpgchfbmhaaQx11
import Derived.Test.YtnffhpgchfbmhaaQx12
import Derived.Test.YtnffhpgchfbmhaaQx14
import Derived.Test.YtnffhpgchfbmhaaQx29
import Derived.Test.YtnffhpgchfbmhaaQx30
import Derived.Test.YtnffhpgchfbmhaaQx32
import Derived.Test.YtnffhpgchfbmhaaQw33
namespace Go.Proofs.Ytnffhpgchfbmhaa.Q
open Go.RowKit Go.Proofs.YtnffhpgchfbmhaaW.PrintWords Go.Proofs.YtnffhpgchfbmhaaW.PrintLast Go.Proofs.YtnffhpgchfbmhaaW.PrintMore
attribute [local go_sem] max2_int min2_int max_two min_two max_three min_three max_four min_four   -- for this text's walks alone
set_option linter.unusedVariables false
set_option linter.unusedSimpArgs false

/-! ### laws_FnWeighings: function 8 -/
mutual
def laws_FnWeighings.j0 : Nat → Int → List Int → Int → Bool → Bool → Int → Int → Int → Option (Bool)
 | 0, _, _, _, _, _, _, _, _ => none
 | k + 1, x4, x5, x6, x7, x93, x449000, x449001, x449002 => if x93 = true then (some false) else (laws_FnWeighings.l0 k x4 x5 x6 x7 1 x449000 x449001 x449002)
def laws_FnWeighings.l0 : Nat → Int → List Int → Int → Bool → Int → Int → Int → Int → Option (Bool)
 | 0, _, _, _, _, _, _, _, _ => none
 | k + 1, x4, x5, x6, x7, x8, x449000, x449001, x449002 => if x8 ≤ 3 then (if 0 ≤ x8 then (if x8 < (x5.length : Int) then ((impl_MissingPart.f k x449000 x449001 x449002 x4 (wrap64 (x6 - (rd x5 x8)))).bind fun t467 => ((impl_TwiceIn.f k x449000 x449001 x449002 x4 (wrap64 (x6 + (rd x5 x8)))).bind fun t469 => (if x7 = true then (if t467 = x8 then (if t469 = x8 then (if (rd x5 x8) > 0 then (if t467 < 1 then (some false) else (if t467 > x8 then (some false) else (if t469 < 1 then (some false) else (if t469 > x8 then (some false) else (laws_FnWeighings.l0 k x4 x5 x6 x7 (wrap64 (x8 + 1)) x449000 x449001 x449002))))) else (laws_FnWeighings.l0 k x4 x5 x6 x7 (wrap64 (x8 + 1)) x449000 x449001 x449002)) else (some false)) else (some false)) else (if (rd x5 x8) > 0 then (if t467 < 1 then (some false) else (if t467 > x8 then (some false) else (if t469 < 1 then (some false) else (if t469 > x8 then (some false) else (laws_FnWeighings.l0 k x4 x5 x6 x7 (wrap64 (x8 + 1)) x449000 x449001 x449002))))) else (laws_FnWeighings.l0 k x4 x5 x6 x7 (wrap64 (x8 + 1)) x449000 x449001 x449002))))) else (none)) else (none)) else ((impl_FlourOf.f k x449000 x449001 x449002 x6).bind fun bt472 => (if bt472.2 = true then (laws_FnWeighings.j2 k x4 x6 (bt472.1 != x4) x449000 x449001 x449002) else (laws_FnWeighings.j2 k x4 x6 true x449000 x449001 x449002)))
def laws_FnWeighings.j2 : Nat → Int → Int → Bool → Int → Int → Int → Option (Bool)
 | 0, _, _, _, _, _, _ => none
 | k + 1, x4, x6, x164, x449000, x449001, x449002 => if x164 = true then (some false) else ((impl_FlourOf.f k x449000 x449001 x449002 (wrap64 (x6 + 1))).bind fun bt474 => (if bt474.2 = true then ((spec_DoughWeight.f k x449000 x449001 x449002 (wrap64 (x4 + 1))).bind fun t476 => (if t476 = (wrap64 (x6 + 1)) then ((impl_SaltAfter.f 1000 20).bind fun t477 => (if t477 = 20 then ((impl_MissingPart.f k x449000 x449001 x449002 x4 (wrap64 (x6 + 100000))).bind fun t478 => (some (t478 == 4))) else (some false))) else (some false))) else ((impl_SaltAfter.f 1000 20).bind fun t479 => (if t479 = 20 then ((impl_MissingPart.f k x449000 x449001 x449002 x4 (wrap64 (x6 + 100000))).bind fun t480 => (some (t480 == 4))) else (some false)))))
end
def laws_FnWeighings.f (k : Nat) (l0 : List Int) : Option (Bool) := (laws_big.f l0).bind fun t444 => (if t444 = true then (some true) else ((spec_DrawDough.f k l0).bind fun bt445 => ((laws_at.f l0 0).bind fun t449 => ((spec_Amounts.f k bt445.1 bt445.2.1 bt445.2.2 (wrap64 (100 + (wrap64 (t449 * 4))))).bind fun t450 => ((spec_DoughWeight.f k bt445.1 bt445.2.1 bt445.2.2 (wrap64 (100 + (wrap64 (t449 * 4))))).bind fun t453 => (if (t450.length : Int) = 4 then ((impl_CanTell.f k bt445.1 bt445.2.1 bt445.2.2 (wrap64 (100 + (wrap64 (t449 * 4))))).bind fun t454 => ((impl_MissingPart.f k bt445.1 bt445.2.1 bt445.2.2 (wrap64 (100 + (wrap64 (t449 * 4)))) t453).bind fun t455 => (if t455 = 0 then ((impl_TwiceIn.f k bt445.1 bt445.2.1 bt445.2.2 (wrap64 (100 + (wrap64 (t449 * 4)))) t453).bind fun t456 => (if t456 = 0 then (if 1 < (t450.length : Int) then (if (rd t450 1) > 0 then (if 2 < (t450.length : Int) then (if (rd t450 2) > 0 then (if 3 < (t450.length : Int) then (if (rd t450 3) > 0 then (if (rd t450 1) = (rd t450 2) then (laws_FnWeighings.j0 k (wrap64 (100 + (wrap64 (t449 * 4)))) t450 t453 t454 (t454 != false) bt445.1 bt445.2.1 bt445.2.2) else (if (rd t450 1) = (rd t450 3) then (laws_FnWeighings.j0 k (wrap64 (100 + (wrap64 (t449 * 4)))) t450 t453 t454 (t454 != false) bt445.1 bt445.2.1 bt445.2.2) else (laws_FnWeighings.j0 k (wrap64 (100 + (wrap64 (t449 * 4)))) t450 t453 t454 (t454 != ((rd t450 2) != (rd t450 3))) bt445.1 bt445.2.1 bt445.2.2))) else (laws_FnWeighings.j0 k (wrap64 (100 + (wrap64 (t449 * 4)))) t450 t453 t454 (t454 != false) bt445.1 bt445.2.1 bt445.2.2)) else (none)) else (laws_FnWeighings.j0 k (wrap64 (100 + (wrap64 (t449 * 4)))) t450 t453 t454 (t454 != false) bt445.1 bt445.2.1 bt445.2.2)) else (none)) else (laws_FnWeighings.j0 k (wrap64 (100 + (wrap64 (t449 * 4)))) t450 t453 t454 (t454 != false) bt445.1 bt445.2.1 bt445.2.2)) else (none)) else (laws_FnWeighings.j0 k (wrap64 (100 + (wrap64 (t449 * 4)))) t450 t453 t454 true bt445.1 bt445.2.1 bt445.2.2))) else (laws_FnWeighings.j0 k (wrap64 (100 + (wrap64 (t449 * 4)))) t450 t453 t454 true bt445.1 bt445.2.1 bt445.2.2)))) else (some false)))))))
theorem laws_FnWeighings.mono_l : ∀ k, (∀ y0 y1 y2 y3 y4 y5 y6 y7, LeO (laws_FnWeighings.j0 k y0 y1 y2 y3 y4 y5 y6 y7) (laws_FnWeighings.j0 (k + 1) y0 y1 y2 y3 y4 y5 y6 y7)) ∧ (∀ y0 y1 y2 y3 y4 y5 y6 y7, LeO (laws_FnWeighings.l0 k y0 y1 y2 y3 y4 y5 y6 y7) (laws_FnWeighings.l0 (k + 1) y0 y1 y2 y3 y4 y5 y6 y7)) ∧ (∀ y0 y1 y2 y3 y4 y5, LeO (laws_FnWeighings.j2 k y0 y1 y2 y3 y4 y5) (laws_FnWeighings.j2 (k + 1) y0 y1 y2 y3 y4 y5))
 | 0 => ⟨fun _ _ _ _ _ _ _ _ r h => by simp [laws_FnWeighings.j0] at h, fun _ _ _ _ _ _ _ _ r h => by simp [laws_FnWeighings.l0] at h, fun _ _ _ _ _ _ r h => by simp [laws_FnWeighings.j2] at h⟩
 | k + 1 => by
  obtain ⟨ih0, ih1, ih2⟩ := laws_FnWeighings.mono_l k
  refine ⟨?_, ?_, ?_⟩
  ·intro y0 y1 y2 y3 y4 y5 y6 y7
   unfold laws_FnWeighings.j0
   repeat' first
   | (with_reducible exact ih0 _ _ _ _ _ _ _ _)
   | (with_reducible exact ih1 _ _ _ _ _ _ _ _)
   | (with_reducible exact ih2 _ _ _ _ _ _)
   | (with_reducible exact impl_CanTell.mono _ _ _ _ _)
   | (with_reducible exact impl_FlourOf.mono _ _ _ _ _)
   | (with_reducible exact impl_MissingPart.mono _ _ _ _ _ _)
   | (with_reducible exact impl_TwiceIn.mono _ _ _ _ _ _)
   | (with_reducible exact spec_Amounts.mono _ _ _ _ _)
   | (with_reducible exact spec_DoughWeight.mono _ _ _ _ _)
   | (with_reducible exact spec_DrawDough.mono _ _)
   | (with_reducible exact LeO.refl _)
   | (with_reducible exact LeO.none _)
   | (with_reducible refine LeO.ite ?_ ?_)
   | (with_reducible refine LeO.bind ?_ (fun _ => ?_))
   | exact ih0 _ _ _ _ _ _ _ _
   | exact ih1 _ _ _ _ _ _ _ _
   | exact ih2 _ _ _ _ _ _
   | exact impl_CanTell.mono _ _ _ _ _
   | exact impl_FlourOf.mono _ _ _ _ _
   | exact impl_MissingPart.mono _ _ _ _ _ _
   | exact impl_TwiceIn.mono _ _ _ _ _ _
   | exact spec_Amounts.mono _ _ _ _ _
   | exact spec_DoughWeight.mono _ _ _ _ _
   | exact spec_DrawDough.mono _ _
   | exact LeO.none _
   | refine LeO.ite ?_ ?_
   | refine LeO.bind ?_ (fun _ => ?_)
  ·intro y0 y1 y2 y3 y4 y5 y6 y7
   unfold laws_FnWeighings.l0
   repeat' first
   | (with_reducible exact ih0 _ _ _ _ _ _ _ _)
   | (with_reducible exact ih1 _ _ _ _ _ _ _ _)
   | (with_reducible exact ih2 _ _ _ _ _ _)
   | (with_reducible exact impl_CanTell.mono _ _ _ _ _)
   | (with_reducible exact impl_FlourOf.mono _ _ _ _ _)
   | (with_reducible exact impl_MissingPart.mono _ _ _ _ _ _)
   | (with_reducible exact impl_TwiceIn.mono _ _ _ _ _ _)
   | (with_reducible exact spec_Amounts.mono _ _ _ _ _)
   | (with_reducible exact spec_DoughWeight.mono _ _ _ _ _)
   | (with_reducible exact spec_DrawDough.mono _ _)
   | (with_reducible exact LeO.refl _)
   | (with_reducible exact LeO.none _)
   | (with_reducible refine LeO.ite ?_ ?_)
   | (with_reducible refine LeO.bind ?_ (fun _ => ?_))
   | exact ih0 _ _ _ _ _ _ _ _
   | exact ih1 _ _ _ _ _ _ _ _
   | exact ih2 _ _ _ _ _ _
   | exact impl_CanTell.mono _ _ _ _ _
   | exact impl_FlourOf.mono _ _ _ _ _
   | exact impl_MissingPart.mono _ _ _ _ _ _
   | exact impl_TwiceIn.mono _ _ _ _ _ _
   | exact spec_Amounts.mono _ _ _ _ _
   | exact spec_DoughWeight.mono _ _ _ _ _
   | exact spec_DrawDough.mono _ _
   | exact LeO.none _
   | refine LeO.ite ?_ ?_
   | refine LeO.bind ?_ (fun _ => ?_)
  ·intro y0 y1 y2 y3 y4 y5
   unfold laws_FnWeighings.j2
   repeat' first
   | (with_reducible exact ih0 _ _ _ _ _ _ _ _)
   | (with_reducible exact ih1 _ _ _ _ _ _ _ _)
   | (with_reducible exact ih2 _ _ _ _ _ _)
   | (with_reducible exact impl_CanTell.mono _ _ _ _ _)
   | (with_reducible exact impl_FlourOf.mono _ _ _ _ _)
   | (with_reducible exact impl_MissingPart.mono _ _ _ _ _ _)
   | (with_reducible exact impl_TwiceIn.mono _ _ _ _ _ _)
   | (with_reducible exact spec_Amounts.mono _ _ _ _ _)
   | (with_reducible exact spec_DoughWeight.mono _ _ _ _ _)
   | (with_reducible exact spec_DrawDough.mono _ _)
   | (with_reducible exact LeO.refl _)
   | (with_reducible exact LeO.none _)
   | (with_reducible refine LeO.ite ?_ ?_)
   | (with_reducible refine LeO.bind ?_ (fun _ => ?_))
   | exact ih0 _ _ _ _ _ _ _ _
   | exact ih1 _ _ _ _ _ _ _ _
   | exact ih2 _ _ _ _ _ _
   | exact impl_CanTell.mono _ _ _ _ _
   | exact impl_FlourOf.mono _ _ _ _ _
   | exact impl_MissingPart.mono _ _ _ _ _ _
   | exact impl_TwiceIn.mono _ _ _ _ _ _
   | exact spec_Amounts.mono _ _ _ _ _
   | exact spec_DoughWeight.mono _ _ _ _ _
   | exact spec_DrawDough.mono _ _
   | exact LeO.none _
   | refine LeO.ite ?_ ?_
   | refine LeO.bind ?_ (fun _ => ?_)
theorem laws_FnWeighings.mono : ∀ a0 k, LeO (laws_FnWeighings.f k a0) (laws_FnWeighings.f (k + 1) a0) := by
 intro a0 k
 obtain ⟨ih0, ih1, ih2⟩ := laws_FnWeighings.mono_l k
 unfold laws_FnWeighings.f
 repeat' first
   | (with_reducible exact ih0 _ _ _ _ _ _ _ _)
   | (with_reducible exact ih1 _ _ _ _ _ _ _ _)
   | (with_reducible exact ih2 _ _ _ _ _ _)
   | (with_reducible exact impl_CanTell.mono _ _ _ _ _)
   | (with_reducible exact impl_FlourOf.mono _ _ _ _ _)
   | (with_reducible exact impl_MissingPart.mono _ _ _ _ _ _)
   | (with_reducible exact impl_TwiceIn.mono _ _ _ _ _ _)
   | (with_reducible exact spec_Amounts.mono _ _ _ _ _)
   | (with_reducible exact spec_DoughWeight.mono _ _ _ _ _)
   | (with_reducible exact spec_DrawDough.mono _ _)
   | (with_reducible exact LeO.refl _)
   | (with_reducible exact LeO.none _)
   | (with_reducible refine LeO.ite ?_ ?_)
   | (with_reducible refine LeO.bind ?_ (fun _ => ?_))
   | exact ih0 _ _ _ _ _ _ _ _
   | exact ih1 _ _ _ _ _ _ _ _
   | exact ih2 _ _ _ _ _ _
   | exact impl_CanTell.mono _ _ _ _ _
   | exact impl_FlourOf.mono _ _ _ _ _
   | exact impl_MissingPart.mono _ _ _ _ _ _
   | exact impl_TwiceIn.mono _ _ _ _ _ _
   | exact spec_Amounts.mono _ _ _ _ _
   | exact spec_DoughWeight.mono _ _ _ _ _
   | exact spec_DrawDough.mono _ _
   | exact LeO.none _
   | refine LeO.ite ?_ ?_
   | refine LeO.bind ?_ (fun _ => ?_)
def laws_FnWeighings.T10 : Bool × List (List Nat × List Nat) := (true, [([], []), ([], []), ([], []), ([0, 1, 2], [0, 1, 2]), ([3], [3]), ([4, 3], [4]), ([5], [5]), ([5], [5]), ([5], [5]), ([6, 7, 8, 5, 5], [5, 6, 7, 8]), ([9, 5], [5, 9]), ([5, 10], [5, 10]), ([11, 9], [11]), ([12], [12]), ([12], [12]), ([14, 12], [12, 14]), ([15, 12], [12, 15]), ([16, 12], [12, 16]), ([17, 12, 12], [12, 17]), ([18], [18]), ([19, 18], [18, 19]), ([20, 18], [18, 20]), ([21, 18], [18, 21]), ([18, 22, 12], [12, 18, 22]), ([23, 18, 12], [12, 23]), ([24], [24]), ([25, 24], [24, 25]), ([26, 24], [24, 26]), ([27, 24], [24, 27]), ([24, 28, 12], [12, 24, 28]), ([29, 24, 12], [12, 29]), ([30], [30]), ([31, 30], [30, 31]), ([32, 30], [30, 32]), ([30], [30]), ([34, 30], [30, 34]), ([35, 30], [30, 35]), ([33, 36, 30], [30, 33, 36]), ([30, 37, 12], [12, 30, 37]), ([38, 30, 12], [12, 38]), ([39], [39]), ([40, 39], [39, 40]), ([41, 39], [39, 41]), ([39], [39]), ([43, 39], [39, 43]), ([44, 39], [39, 44]), ([42, 45, 39], [39, 42, 45]), ([39, 46, 12], [12, 39, 46]), ([47, 39, 12], [12, 47]), ([48], [48]), ([49, 48], [48, 49]), ([50, 48], [48, 50]), ([48], [48]), ([52, 48], [48, 52]), ([53, 48], [48, 53]), ([51, 54, 48], [48, 51, 54]), ([48, 55, 12], [12, 48, 55]), ([13, 56, 12], [12, 13, 56]), ([12, 57], [12, 57])])
def laws_FnWeighings.B10 : List Nat := [0, 0, 0, 7, 15, 31, 63, 63, 63, 511, 1023, 2047, 4095, 8191, 8191, 24575, 57343, 122879, 253951, 516095, 1040383, 2088959, 4186111, 8380415, 16769023, 33546239, 67100671, 134209535, 268427263, 536862719, 1073733631, 2147475455, 4294959103, 8589926399, 2147475455, 19327344639, 53687083007, 137438945279, 274877898751, 549755805695, 1099511619583, 2199023247359, 4398046502911, 1099511619583, 9895604641791, 27487790686207, 70368744169471, 140737488347135, 281474976702463, 562949953413119, 1125899906834431, 2251799813677055, 562949953413119, 5066549580783615, 14073748835524607, 36028797018955775, 72057594037919743, 144115188075855871, 288230376151711743]
theorem laws_FnWeighings.tab10 : rtab .any (opsOf Try.f8 10) = laws_FnWeighings.T10 := by kernel_rfl
theorem laws_FnWeighings.bits10 : waitsOk laws_FnWeighings.T10.2 laws_FnWeighings.B10 = true := by kernel_rfl
def laws_FnWeighings.T15 : Bool × List (List Nat × List Nat) := (true, [([], []), ([], []), ([], []), ([], []), ([], []), ([3, 4], [3, 4]), ([5], [5]), ([2, 6], [2, 6]), ([0, 1, 7], [0, 1, 7]), ([8, 8, 0, 1, 2, 3, 4, 5, 6, 7, 8], [8])])
def laws_FnWeighings.B15 : List Nat := [0, 0, 0, 0, 0, 24, 56, 124, 255, 511]
theorem laws_FnWeighings.tab15 : rtab .any (opsOf Try.f8 15) = laws_FnWeighings.T15 := by kernel_rfl
theorem laws_FnWeighings.bits15 : waitsOk laws_FnWeighings.T15.2 laws_FnWeighings.B15 = true := by kernel_rfl
def laws_FnWeighings.T16 : Bool × List (List Nat × List Nat) := (true, [([], []), ([], []), ([], []), ([], []), ([], []), ([3, 4], [3, 4]), ([5], [5]), ([2, 6], [2, 6]), ([0, 1, 7], [0, 1, 7]), ([8, 8, 0, 1, 2, 3, 4, 5, 6, 7, 8], [8])])
def laws_FnWeighings.B16 : List Nat := [0, 0, 0, 0, 0, 24, 56, 124, 255, 511]
theorem laws_FnWeighings.tab16 : rtab .any (opsOf Try.f8 16) = laws_FnWeighings.T16 := by kernel_rfl
theorem laws_FnWeighings.bits16 : waitsOk laws_FnWeighings.T16.2 laws_FnWeighings.B16 = true := by kernel_rfl
set_option maxHeartbeats 8000000 in
set_option maxRecDepth 100000 in
theorem laws_FnWeighings.calls (k : Nat) (A0 : Option Addr) (c0 : Nat) (l0 : List Int) (r : Bool) (w : World) (hr0 : Kd.C (Kd.int .u8) w A0 l0.length l0) (hc0 : l0.length ≤ c0) (hr_ : r = true) (h : laws_FnWeighings.f k l0 = some r) :
  Calls Try.prog 8 #[.slice A0 l0.length c0] w fun e w' => e = .returned (.bool r) ∧ Below w.heap.size w w' := by
 have hu27 := Try.underlying27
 have HR_ := Aside0.mk hr_
 clear hr_
 have HR0 := Aside0.mk hr0
 have HC0 := Aside0.mk hc0
 clear hr0 hc0
 have HB := Aside0.mk (Below.refl w.heap.size w)
 have H : ((laws_big.f l0).bind fun t444 => (if t444 = true then (some true) else ((spec_DrawDough.f k l0).bind fun bt445 => ((laws_at.f l0 0).bind fun t449 => ((spec_Amounts.f k bt445.1 bt445.2.1 bt445.2.2 (wrap64 (100 + (wrap64 (t449 * 4))))).bind fun t450 => ((spec_DoughWeight.f k bt445.1 bt445.2.1 bt445.2.2 (wrap64 (100 + (wrap64 (t449 * 4))))).bind fun t453 => (if (t450.length : Int) = 4 then ((impl_CanTell.f k bt445.1 bt445.2.1 bt445.2.2 (wrap64 (100 + (wrap64 (t449 * 4))))).bind fun t454 => ((impl_MissingPart.f k bt445.1 bt445.2.1 bt445.2.2 (wrap64 (100 + (wrap64 (t449 * 4)))) t453).bind fun t455 => (if t455 = 0 then ((impl_TwiceIn.f k bt445.1 bt445.2.1 bt445.2.2 (wrap64 (100 + (wrap64 (t449 * 4)))) t453).bind fun t456 => (if t456 = 0 then (if 1 < (t450.length : Int) then (if (rd t450 1) > 0 then (if 2 < (t450.length : Int) then (if (rd t450 2) > 0 then (if 3 < (t450.length : Int) then (if (rd t450 3) > 0 then (if (rd t450 1) = (rd t450 2) then (laws_FnWeighings.j0 k (wrap64 (100 + (wrap64 (t449 * 4)))) t450 t453 t454 (t454 != false) bt445.1 bt445.2.1 bt445.2.2) else (if (rd t450 1) = (rd t450 3) then (laws_FnWeighings.j0 k (wrap64 (100 + (wrap64 (t449 * 4)))) t450 t453 t454 (t454 != false) bt445.1 bt445.2.1 bt445.2.2) else (laws_FnWeighings.j0 k (wrap64 (100 + (wrap64 (t449 * 4)))) t450 t453 t454 (t454 != ((rd t450 2) != (rd t450 3))) bt445.1 bt445.2.1 bt445.2.2))) else (laws_FnWeighings.j0 k (wrap64 (100 + (wrap64 (t449 * 4)))) t450 t453 t454 (t454 != false) bt445.1 bt445.2.1 bt445.2.2)) else (none)) else (laws_FnWeighings.j0 k (wrap64 (100 + (wrap64 (t449 * 4)))) t450 t453 t454 (t454 != false) bt445.1 bt445.2.1 bt445.2.2)) else (none)) else (laws_FnWeighings.j0 k (wrap64 (100 + (wrap64 (t449 * 4)))) t450 t453 t454 (t454 != false) bt445.1 bt445.2.1 bt445.2.2)) else (none)) else (laws_FnWeighings.j0 k (wrap64 (100 + (wrap64 (t449 * 4)))) t450 t453 t454 true bt445.1 bt445.2.1 bt445.2.2))) else (laws_FnWeighings.j0 k (wrap64 (100 + (wrap64 (t449 * 4)))) t450 t453 t454 true bt445.1 bt445.2.1 bt445.2.2)))) else (some false)))))))) = some r := h
 clear h
 replace H := Option.bind_eq_some_iff.mp H
 obtain ⟨t444, A20, H⟩ := H
 replace H : (if t444 = true then (some true) else ((spec_DrawDough.f k l0).bind fun bt445 => ((laws_at.f l0 0).bind fun t449 => ((spec_Amounts.f k bt445.1 bt445.2.1 bt445.2.2 (wrap64 (100 + (wrap64 (t449 * 4))))).bind fun t450 => ((spec_DoughWeight.f k bt445.1 bt445.2.1 bt445.2.2 (wrap64 (100 + (wrap64 (t449 * 4))))).bind fun t453 => (if (t450.length : Int) = 4 then ((impl_CanTell.f k bt445.1 bt445.2.1 bt445.2.2 (wrap64 (100 + (wrap64 (t449 * 4))))).bind fun t454 => ((impl_MissingPart.f k bt445.1 bt445.2.1 bt445.2.2 (wrap64 (100 + (wrap64 (t449 * 4)))) t453).bind fun t455 => (if t455 = 0 then ((impl_TwiceIn.f k bt445.1 bt445.2.1 bt445.2.2 (wrap64 (100 + (wrap64 (t449 * 4)))) t453).bind fun t456 => (if t456 = 0 then (if 1 < (t450.length : Int) then (if (rd t450 1) > 0 then (if 2 < (t450.length : Int) then (if (rd t450 2) > 0 then (if 3 < (t450.length : Int) then (if (rd t450 3) > 0 then (if (rd t450 1) = (rd t450 2) then (laws_FnWeighings.j0 k (wrap64 (100 + (wrap64 (t449 * 4)))) t450 t453 t454 (t454 != false) bt445.1 bt445.2.1 bt445.2.2) else (if (rd t450 1) = (rd t450 3) then (laws_FnWeighings.j0 k (wrap64 (100 + (wrap64 (t449 * 4)))) t450 t453 t454 (t454 != false) bt445.1 bt445.2.1 bt445.2.2) else (laws_FnWeighings.j0 k (wrap64 (100 + (wrap64 (t449 * 4)))) t450 t453 t454 (t454 != ((rd t450 2) != (rd t450 3))) bt445.1 bt445.2.1 bt445.2.2))) else (laws_FnWeighings.j0 k (wrap64 (100 + (wrap64 (t449 * 4)))) t450 t453 t454 (t454 != false) bt445.1 bt445.2.1 bt445.2.2)) else (none)) else (laws_FnWeighings.j0 k (wrap64 (100 + (wrap64 (t449 * 4)))) t450 t453 t454 (t454 != false) bt445.1 bt445.2.1 bt445.2.2)) else (none)) else (laws_FnWeighings.j0 k (wrap64 (100 + (wrap64 (t449 * 4)))) t450 t453 t454 (t454 != false) bt445.1 bt445.2.1 bt445.2.2)) else (none)) else (laws_FnWeighings.j0 k (wrap64 (100 + (wrap64 (t449 * 4)))) t450 t453 t454 true bt445.1 bt445.2.1 bt445.2.2))) else (laws_FnWeighings.j0 k (wrap64 (100 + (wrap64 (t449 * 4)))) t450 t453 t454 true bt445.1 bt445.2.1 bt445.2.2)))) else (some false))))))) = some r := H
 have A2 := Aside0.mk A20
 clear A20
 by_cases c3 : t444 = true
 ·subst c3
  have H1 : (some true) = some r := by rw [if_pos rfl] at H; exact H
  clear H
  have H := H1
  clear H1
  obtain rfl := Option.some.inj H
  go_enter Try.func8, Try.ntmps8
  go_wp2_with (first | ((with_reducible refine gate_callee (f := 20) rfl ?_); refine goesL_ (some 16) rfl rfl Try.func20 (by kernel_rfl) rfl #[.slice A0 l0.length c0] rfl (by (try simp only [List.map_toArray, List.map_cons, List.map_nil]); first | done | rfl | (simp only [List.length_drop, List.length_take]; rfl)) ?_; (with_reducible refine (laws_big.calls _ _ l0 true _ ?side1 ?side2 A2.out).mono ?_); (case side1 => repeat (first | exact HR0.out | (with_reducible refine Kd.C_alloc ?_ _) | (with_reducible refine Kd.C_drewN ?_ _) | (with_reducible refine Kd.C_drew ?_))); (case side2 => exact HC0.out); rintro e w' ⟨rfl, ⟨nd, rfl⟩⟩; refine ⟨_, rfl, ?_⟩))
  go_ret
  exact ⟨by first | rfl | (simp [errW_none, errW_some] <;> rfl) | (simp [*, errW_none, errW_some] <;> rfl), by repeat (first | (with_reducible first | exact HB.out | apply below_alloc | apply pw_below_drewN | apply below_drew1) | exact HB.out)⟩
 ·replace c3 := Bool.eq_false_iff.mpr c3
  subst c3
  have H1 : ((spec_DrawDough.f k l0).bind fun bt445 => ((laws_at.f l0 0).bind fun t449 => ((spec_Amounts.f k bt445.1 bt445.2.1 bt445.2.2 (wrap64 (100 + (wrap64 (t449 * 4))))).bind fun t450 => ((spec_DoughWeight.f k bt445.1 bt445.2.1 bt445.2.2 (wrap64 (100 + (wrap64 (t449 * 4))))).bind fun t453 => (if (t450.length : Int) = 4 then ((impl_CanTell.f k bt445.1 bt445.2.1 bt445.2.2 (wrap64 (100 + (wrap64 (t449 * 4))))).bind fun t454 => ((impl_MissingPart.f k bt445.1 bt445.2.1 bt445.2.2 (wrap64 (100 + (wrap64 (t449 * 4)))) t453).bind fun t455 => (if t455 = 0 then ((impl_TwiceIn.f k bt445.1 bt445.2.1 bt445.2.2 (wrap64 (100 + (wrap64 (t449 * 4)))) t453).bind fun t456 => (if t456 = 0 then (if 1 < (t450.length : Int) then (if (rd t450 1) > 0 then (if 2 < (t450.length : Int) then (if (rd t450 2) > 0 then (if 3 < (t450.length : Int) then (if (rd t450 3) > 0 then (if (rd t450 1) = (rd t450 2) then (laws_FnWeighings.j0 k (wrap64 (100 + (wrap64 (t449 * 4)))) t450 t453 t454 (t454 != false) bt445.1 bt445.2.1 bt445.2.2) else (if (rd t450 1) = (rd t450 3) then (laws_FnWeighings.j0 k (wrap64 (100 + (wrap64 (t449 * 4)))) t450 t453 t454 (t454 != false) bt445.1 bt445.2.1 bt445.2.2) else (laws_FnWeighings.j0 k (wrap64 (100 + (wrap64 (t449 * 4)))) t450 t453 t454 (t454 != ((rd t450 2) != (rd t450 3))) bt445.1 bt445.2.1 bt445.2.2))) else (laws_FnWeighings.j0 k (wrap64 (100 + (wrap64 (t449 * 4)))) t450 t453 t454 (t454 != false) bt445.1 bt445.2.1 bt445.2.2)) else (none)) else (laws_FnWeighings.j0 k (wrap64 (100 + (wrap64 (t449 * 4)))) t450 t453 t454 (t454 != false) bt445.1 bt445.2.1 bt445.2.2)) else (none)) else (laws_FnWeighings.j0 k (wrap64 (100 + (wrap64 (t449 * 4)))) t450 t453 t454 (t454 != false) bt445.1 bt445.2.1 bt445.2.2)) else (none)) else (laws_FnWeighings.j0 k (wrap64 (100 + (wrap64 (t449 * 4)))) t450 t453 t454 true bt445.1 bt445.2.1 bt445.2.2))) else (laws_FnWeighings.j0 k (wrap64 (100 + (wrap64 (t449 * 4)))) t450 t453 t454 true bt445.1 bt445.2.1 bt445.2.2)))) else (some false)))))) = some r := by rw [if_neg (show ¬ (false = true) by decide)] at H; exact H
  clear H
  have H := H1
  clear H1
  replace H := Option.bind_eq_some_iff.mp H
  obtain ⟨⟨t445, t446, t447⟩, A40, H⟩ := H
  replace H : ((laws_at.f l0 0).bind fun t449 => ((spec_Amounts.f k t445 t446 t447 (wrap64 (100 + (wrap64 (t449 * 4))))).bind fun t450 => ((spec_DoughWeight.f k t445 t446 t447 (wrap64 (100 + (wrap64 (t449 * 4))))).bind fun t453 => (if (t450.length : Int) = 4 then ((impl_CanTell.f k t445 t446 t447 (wrap64 (100 + (wrap64 (t449 * 4))))).bind fun t454 => ((impl_MissingPart.f k t445 t446 t447 (wrap64 (100 + (wrap64 (t449 * 4)))) t453).bind fun t455 => (if t455 = 0 then ((impl_TwiceIn.f k t445 t446 t447 (wrap64 (100 + (wrap64 (t449 * 4)))) t453).bind fun t456 => (if t456 = 0 then (if 1 < (t450.length : Int) then (if (rd t450 1) > 0 then (if 2 < (t450.length : Int) then (if (rd t450 2) > 0 then (if 3 < (t450.length : Int) then (if (rd t450 3) > 0 then (if (rd t450 1) = (rd t450 2) then (laws_FnWeighings.j0 k (wrap64 (100 + (wrap64 (t449 * 4)))) t450 t453 t454 (t454 != false) t445 t446 t447) else (if (rd t450 1) = (rd t450 3) then (laws_FnWeighings.j0 k (wrap64 (100 + (wrap64 (t449 * 4)))) t450 t453 t454 (t454 != false) t445 t446 t447) else (laws_FnWeighings.j0 k (wrap64 (100 + (wrap64 (t449 * 4)))) t450 t453 t454 (t454 != ((rd t450 2) != (rd t450 3))) t445 t446 t447))) else (laws_FnWeighings.j0 k (wrap64 (100 + (wrap64 (t449 * 4)))) t450 t453 t454 (t454 != false) t445 t446 t447)) else (none)) else (laws_FnWeighings.j0 k (wrap64 (100 + (wrap64 (t449 * 4)))) t450 t453 t454 (t454 != false) t445 t446 t447)) else (none)) else (laws_FnWeighings.j0 k (wrap64 (100 + (wrap64 (t449 * 4)))) t450 t453 t454 (t454 != false) t445 t446 t447)) else (none)) else (laws_FnWeighings.j0 k (wrap64 (100 + (wrap64 (t449 * 4)))) t450 t453 t454 true t445 t446 t447))) else (laws_FnWeighings.j0 k (wrap64 (100 + (wrap64 (t449 * 4)))) t450 t453 t454 true t445 t446 t447)))) else (some false))))) = some r := H
  have A4 := Aside0.mk A40
  clear A40
  replace H := Option.bind_eq_some_iff.mp H
  obtain ⟨t449, A50, H⟩ := H
  replace H : ((spec_Amounts.f k t445 t446 t447 (wrap64 (100 + (wrap64 (t449 * 4))))).bind fun t450 => ((spec_DoughWeight.f k t445 t446 t447 (wrap64 (100 + (wrap64 (t449 * 4))))).bind fun t453 => (if (t450.length : Int) = 4 then ((impl_CanTell.f k t445 t446 t447 (wrap64 (100 + (wrap64 (t449 * 4))))).bind fun t454 => ((impl_MissingPart.f k t445 t446 t447 (wrap64 (100 + (wrap64 (t449 * 4)))) t453).bind fun t455 => (if t455 = 0 then ((impl_TwiceIn.f k t445 t446 t447 (wrap64 (100 + (wrap64 (t449 * 4)))) t453).bind fun t456 => (if t456 = 0 then (if 1 < (t450.length : Int) then (if (rd t450 1) > 0 then (if 2 < (t450.length : Int) then (if (rd t450 2) > 0 then (if 3 < (t450.length : Int) then (if (rd t450 3) > 0 then (if (rd t450 1) = (rd t450 2) then (laws_FnWeighings.j0 k (wrap64 (100 + (wrap64 (t449 * 4)))) t450 t453 t454 (t454 != false) t445 t446 t447) else (if (rd t450 1) = (rd t450 3) then (laws_FnWeighings.j0 k (wrap64 (100 + (wrap64 (t449 * 4)))) t450 t453 t454 (t454 != false) t445 t446 t447) else (laws_FnWeighings.j0 k (wrap64 (100 + (wrap64 (t449 * 4)))) t450 t453 t454 (t454 != ((rd t450 2) != (rd t450 3))) t445 t446 t447))) else (laws_FnWeighings.j0 k (wrap64 (100 + (wrap64 (t449 * 4)))) t450 t453 t454 (t454 != false) t445 t446 t447)) else (none)) else (laws_FnWeighings.j0 k (wrap64 (100 + (wrap64 (t449 * 4)))) t450 t453 t454 (t454 != false) t445 t446 t447)) else (none)) else (laws_FnWeighings.j0 k (wrap64 (100 + (wrap64 (t449 * 4)))) t450 t453 t454 (t454 != false) t445 t446 t447)) else (none)) else (laws_FnWeighings.j0 k (wrap64 (100 + (wrap64 (t449 * 4)))) t450 t453 t454 true t445 t446 t447))) else (laws_FnWeighings.j0 k (wrap64 (100 + (wrap64 (t449 * 4)))) t450 t453 t454 true t445 t446 t447)))) else (some false)))) = some r := H
  have A5 := Aside0.mk A50
  clear A50
  replace H := Option.bind_eq_some_iff.mp H
  obtain ⟨t450, A60, H⟩ := H
  replace H : ((spec_DoughWeight.f k t445 t446 t447 (wrap64 (100 + (wrap64 (t449 * 4))))).bind fun t453 => (if (t450.length : Int) = 4 then ((impl_CanTell.f k t445 t446 t447 (wrap64 (100 + (wrap64 (t449 * 4))))).bind fun t454 => ((impl_MissingPart.f k t445 t446 t447 (wrap64 (100 + (wrap64 (t449 * 4)))) t453).bind fun t455 => (if t455 = 0 then ((impl_TwiceIn.f k t445 t446 t447 (wrap64 (100 + (wrap64 (t449 * 4)))) t453).bind fun t456 => (if t456 = 0 then (if 1 < (t450.length : Int) then (if (rd t450 1) > 0 then (if 2 < (t450.length : Int) then (if (rd t450 2) > 0 then (if 3 < (t450.length : Int) then (if (rd t450 3) > 0 then (if (rd t450 1) = (rd t450 2) then (laws_FnWeighings.j0 k (wrap64 (100 + (wrap64 (t449 * 4)))) t450 t453 t454 (t454 != false) t445 t446 t447) else (if (rd t450 1) = (rd t450 3) then (laws_FnWeighings.j0 k (wrap64 (100 + (wrap64 (t449 * 4)))) t450 t453 t454 (t454 != false) t445 t446 t447) else (laws_FnWeighings.j0 k (wrap64 (100 + (wrap64 (t449 * 4)))) t450 t453 t454 (t454 != ((rd t450 2) != (rd t450 3))) t445 t446 t447))) else (laws_FnWeighings.j0 k (wrap64 (100 + (wrap64 (t449 * 4)))) t450 t453 t454 (t454 != false) t445 t446 t447)) else (none)) else (laws_FnWeighings.j0 k (wrap64 (100 + (wrap64 (t449 * 4)))) t450 t453 t454 (t454 != false) t445 t446 t447)) else (none)) else (laws_FnWeighings.j0 k (wrap64 (100 + (wrap64 (t449 * 4)))) t450 t453 t454 (t454 != false) t445 t446 t447)) else (none)) else (laws_FnWeighings.j0 k (wrap64 (100 + (wrap64 (t449 * 4)))) t450 t453 t454 true t445 t446 t447))) else (laws_FnWeighings.j0 k (wrap64 (100 + (wrap64 (t449 * 4)))) t450 t453 t454 true t445 t446 t447)))) else (some false))) = some r := H
  have A6 := Aside0.mk A60
  clear A60
  replace H := Option.bind_eq_some_iff.mp H
  obtain ⟨t453, A70, H⟩ := H
  replace H : (if (t450.length : Int) = 4 then ((impl_CanTell.f k t445 t446 t447 (wrap64 (100 + (wrap64 (t449 * 4))))).bind fun t454 => ((impl_MissingPart.f k t445 t446 t447 (wrap64 (100 + (wrap64 (t449 * 4)))) t453).bind fun t455 => (if t455 = 0 then ((impl_TwiceIn.f k t445 t446 t447 (wrap64 (100 + (wrap64 (t449 * 4)))) t453).bind fun t456 => (if t456 = 0 then (if 1 < (t450.length : Int) then (if (rd t450 1) > 0 then (if 2 < (t450.length : Int) then (if (rd t450 2) > 0 then (if 3 < (t450.length : Int) then (if (rd t450 3) > 0 then (if (rd t450 1) = (rd t450 2) then (laws_FnWeighings.j0 k (wrap64 (100 + (wrap64 (t449 * 4)))) t450 t453 t454 (t454 != false) t445 t446 t447) else (if (rd t450 1) = (rd t450 3) then (laws_FnWeighings.j0 k (wrap64 (100 + (wrap64 (t449 * 4)))) t450 t453 t454 (t454 != false) t445 t446 t447) else (laws_FnWeighings.j0 k (wrap64 (100 + (wrap64 (t449 * 4)))) t450 t453 t454 (t454 != ((rd t450 2) != (rd t450 3))) t445 t446 t447))) else (laws_FnWeighings.j0 k (wrap64 (100 + (wrap64 (t449 * 4)))) t450 t453 t454 (t454 != false) t445 t446 t447)) else (none)) else (laws_FnWeighings.j0 k (wrap64 (100 + (wrap64 (t449 * 4)))) t450 t453 t454 (t454 != false) t445 t446 t447)) else (none)) else (laws_FnWeighings.j0 k (wrap64 (100 + (wrap64 (t449 * 4)))) t450 t453 t454 (t454 != false) t445 t446 t447)) else (none)) else (laws_FnWeighings.j0 k (wrap64 (100 + (wrap64 (t449 * 4)))) t450 t453 t454 true t445 t446 t447))) else (laws_FnWeighings.j0 k (wrap64 (100 + (wrap64 (t449 * 4)))) t450 t453 t454 true t445 t446 t447)))) else (some false)) = some r := H
  have A7 := Aside0.mk A70
  clear A70
  by_cases c8 : (t450.length : Int) = 4
  ·rw [if_pos c8] at H
   have c8b0 : ((t450.length : Int) == 4) = true := beq_iff_eq.mpr c8
   have c8b1 : ((t450.length : Int) != 4) = false := bne_eq_false_iff_eq.mpr c8
   clear c8
   replace H := Option.bind_eq_some_iff.mp H
   obtain ⟨t454, A90, H⟩ := H
   replace H : ((impl_MissingPart.f k t445 t446 t447 (wrap64 (100 + (wrap64 (t449 * 4)))) t453).bind fun t455 => (if t455 = 0 then ((impl_TwiceIn.f k t445 t446 t447 (wrap64 (100 + (wrap64 (t449 * 4)))) t453).bind fun t456 => (if t456 = 0 then (if 1 < (t450.length : Int) then (if (rd t450 1) > 0 then (if 2 < (t450.length : Int) then (if (rd t450 2) > 0 then (if 3 < (t450.length : Int) then (if (rd t450 3) > 0 then (if (rd t450 1) = (rd t450 2) then (laws_FnWeighings.j0 k (wrap64 (100 + (wrap64 (t449 * 4)))) t450 t453 t454 (t454 != false) t445 t446 t447) else (if (rd t450 1) = (rd t450 3) then (laws_FnWeighings.j0 k (wrap64 (100 + (wrap64 (t449 * 4)))) t450 t453 t454 (t454 != false) t445 t446 t447) else (laws_FnWeighings.j0 k (wrap64 (100 + (wrap64 (t449 * 4)))) t450 t453 t454 (t454 != ((rd t450 2) != (rd t450 3))) t445 t446 t447))) else (laws_FnWeighings.j0 k (wrap64 (100 + (wrap64 (t449 * 4)))) t450 t453 t454 (t454 != false) t445 t446 t447)) else (none)) else (laws_FnWeighings.j0 k (wrap64 (100 + (wrap64 (t449 * 4)))) t450 t453 t454 (t454 != false) t445 t446 t447)) else (none)) else (laws_FnWeighings.j0 k (wrap64 (100 + (wrap64 (t449 * 4)))) t450 t453 t454 (t454 != false) t445 t446 t447)) else (none)) else (laws_FnWeighings.j0 k (wrap64 (100 + (wrap64 (t449 * 4)))) t450 t453 t454 true t445 t446 t447))) else (laws_FnWeighings.j0 k (wrap64 (100 + (wrap64 (t449 * 4)))) t450 t453 t454 true t445 t446 t447))) = some r := H
   have A9 := Aside0.mk A90
   clear A90
   have HC10 := Aside0.mk H
   clear H
   go_enter Try.func8, Try.ntmps8
   go_upto_region 10 with (first | ((with_reducible refine gate_callee (f := 20) rfl ?_); refine goesL_ (some 16) rfl rfl Try.func20 (by kernel_rfl) rfl #[.slice A0 l0.length c0] rfl (by (try simp only [List.map_toArray, List.map_cons, List.map_nil]); first | done | rfl | (simp only [List.length_drop, List.length_take]; rfl)) ?_; (with_reducible refine (laws_big.calls _ _ l0 false _ ?side1 ?side2 A2.out).mono ?_); (case side1 => repeat (first | exact HR0.out | (with_reducible refine Kd.C_alloc ?_ _) | (with_reducible refine Kd.C_drewN ?_ _) | (with_reducible refine Kd.C_drew ?_))); (case side2 => exact HC0.out); rintro e w' ⟨rfl, ⟨nd, rfl⟩⟩; refine ⟨_, rfl, ?_⟩) | ((with_reducible refine gate_callee (f := 21) rfl ?_); refine goesL_ (some 18) rfl rfl Try.func21 (by kernel_rfl) rfl #[.slice A0 l0.length c0] rfl (by (try simp only [List.map_toArray, List.map_cons, List.map_nil]); first | done | rfl | (simp only [List.length_drop, List.length_take]; rfl)) ?_; (with_reducible refine (spec_DrawDough.calls k _ _ l0 t445 t446 t447 _ ?side1 ?side2 A4.out).mono ?_); (case side1 => repeat (first | exact HR0.out | (with_reducible refine Kd.C_alloc ?_ _) | (with_reducible refine Kd.C_drewN ?_ _) | (with_reducible refine Kd.C_drew ?_))); (case side2 => exact HC0.out); rintro e w11 ⟨rfl, hb⟩; refine ⟨_, rfl, ?_⟩; have n0_ := Aside0.mk (below_step (by repeat (first | (with_reducible first | exact HB.out | apply below_alloc | apply pw_below_drewN | apply below_drew1) | exact HB.out)) hb); clear HB; have HB := n0_; clear n0_; (try clear hb); (try clear hb2); (try clear hk); (try clear hi)) | ((with_reducible refine gate_dst (N := 3) rfl ?_); refine box_event ?hg (N := 3) ?hd (cs := #[.int .i64 0, .int .i64 0, .int .i64 0]) (t := 27) ?hr ?_; (case hd => rfl); (case hg => rfl); (case hr => first | (go_simp; done) | (go_simp; rfl)); intro gb448 hg w12 hbox hb; have n0_ := Aside0.mk (below_step (by repeat (first | (with_reducible first | exact HB.out | apply below_alloc | apply pw_below_drewN | apply below_drew1) | exact HB.out)) hb); have n1_ := Aside0.mk (hbox); have n2_ := Aside0.mk ((by rw [hg]; exact (below_size (by repeat (first | (with_reducible first | exact HB.out | apply below_alloc | apply pw_below_drewN | apply below_drew1) | exact HB.out))) : w.heap.size ≤ gb448)); have n3_ := Aside0.mk ((by rw [hg]; exact (below_size (by repeat (first | (with_reducible first | exact HB.out | apply below_alloc | apply pw_below_drewN | apply below_drew1) | exact HB.out))) : w.heap.size ≤ gb448)); clear HB; have HB := n0_; have BK448 := n1_; have GW448 := n2_; have GE448 := n3_; clear n0_ n1_ n2_ n3_; clear hb hbox hg; have hcz13_0 : w12.cell? ⟨gb448, 0, none⟩ = some (.int .i64 0) := (blk_cell BK448.out 0).trans rfl; have hcz13_1 : w12.cell? ⟨gb448, 1, none⟩ = some (.int .i64 0) := (blk_cell BK448.out 1).trans rfl; have hcz13_2 : w12.cell? ⟨gb448, 2, none⟩ = some (.int .i64 0) := (blk_cell BK448.out 2).trans rfl; have hfz13_0 := blk_frozen BK448.out 0; have hfz13_1 := blk_frozen BK448.out 1; have hfz13_2 := blk_frozen BK448.out 2) | ((with_reducible refine gate_callee (f := 22) rfl ?_); refine goesL_ (some 20) rfl rfl Try.func22 (by kernel_rfl) rfl #[.slice A0 l0.length c0, .int .i64 0] rfl (by (try simp only [List.map_toArray, List.map_cons, List.map_nil]); first | done | rfl | (simp only [List.length_drop, List.length_take]; rfl)) ?_; (with_reducible refine (laws_at.calls _ _ l0 0 t449 _ ?side1 ?side2 A5.out).mono ?_); (case side1 => exact Kd.C_below HR0.out (by repeat (first | (with_reducible first | exact HB.out | apply below_alloc | apply pw_below_drewN | apply below_drew1 | refine below_set ?_ GE448.out) | exact HB.out))); (case side2 => exact HC0.out); rintro e w' ⟨rfl, ⟨nd, rfl⟩⟩; refine ⟨_, rfl, ?_⟩) | ((with_reducible refine gate_callee (f := 23) rfl ?_); refine goesL_ (some 25) rfl rfl Try.func23 (by kernel_rfl) rfl #[.agg #[.int .i64 t445, .int .i64 t446, .int .i64 t447], .int .i64 (wrap64 (100 + (wrap64 (t449 * 4))))] rfl (by (try simp only [List.map_toArray, List.map_cons, List.map_nil]); first | done | rfl | (simp only [List.length_drop, List.length_take]; rfl)) ?_; (with_reducible refine (spec_Amounts.calls k t445 t446 t447 (wrap64 (100 + (wrap64 (t449 * 4)))) t450 _ A6.out).mono ?_); rintro e w14 ⟨v451, rfl, ho0, hb⟩; refine ⟨_, rfl, ?_⟩; have n0_ := Aside0.mk (Kd.R_lower ho0 (below_size (by repeat (first | (with_reducible first | exact HB.out | apply below_alloc | apply pw_below_drewN | apply below_drew1 | refine below_set ?_ GE448.out) | exact HB.out)))); have n1_ := Aside0.mk (blk_below (g := gb448) (o := .cells #[.int .i64 t445, .int .i64 t446, .int .i64 t447] 27 (0, 0)) (by (with_reducible repeat (first | refine blk_drewN ?_ _ | refine blk_drew ?_ | refine blk_alloc ?_ _)); refine blk_put (cs := #[.int .i64 t445, .int .i64 t446, .int .i64 0]) ?_ 2 _ rfl; (with_reducible repeat (first | refine blk_drewN ?_ _ | refine blk_drew ?_ | refine blk_alloc ?_ _)); refine blk_put (cs := #[.int .i64 t445, .int .i64 0, .int .i64 0]) ?_ 1 _ rfl; (with_reducible repeat (first | refine blk_drewN ?_ _ | refine blk_drew ?_ | refine blk_alloc ?_ _)); refine blk_put (cs := #[.int .i64 0, .int .i64 0, .int .i64 0]) ?_ 0 _ rfl; (with_reducible repeat (first | refine blk_drewN ?_ _ | refine blk_drew ?_ | refine blk_alloc ?_ _)); exact BK448.out) hb); have n2_ := Aside0.mk (below_step (by repeat (first | (with_reducible first | exact HB.out | apply below_alloc | apply pw_below_drewN | apply below_drew1 | refine below_set ?_ GE448.out) | exact HB.out)) hb); clear BK448; clear HB; have HO452 := n0_; have BK448 := n1_; have HB := n2_; clear n0_ n1_ n2_; (try clear hb); (try clear hb2); (try clear hk); (try clear hi); (try clear ho0); have hcz15_0 : w14.cell? ⟨gb448, 0, none⟩ = some (.int .i64 t445) := (blk_cell BK448.out 0).trans rfl; have hcz15_1 : w14.cell? ⟨gb448, 1, none⟩ = some (.int .i64 t446) := (blk_cell BK448.out 1).trans rfl; have hcz15_2 : w14.cell? ⟨gb448, 2, none⟩ = some (.int .i64 t447) := (blk_cell BK448.out 2).trans rfl; have hfz15_0 := blk_frozen BK448.out 0; have hfz15_1 := blk_frozen BK448.out 1; have hfz15_2 := blk_frozen BK448.out 2) | ((with_reducible refine gate_callee (f := 24) rfl ?_); refine goesL_ (some 28) rfl rfl Try.func24 (by kernel_rfl) rfl #[.agg #[.int .i64 t445, .int .i64 t446, .int .i64 t447], .int .i64 (wrap64 (100 + (wrap64 (t449 * 4))))] rfl (by (try simp only [List.map_toArray, List.map_cons, List.map_nil]); first | done | rfl | (simp only [List.length_drop, List.length_take]; rfl)) ?_; (with_reducible refine (spec_DoughWeight.calls k t445 t446 t447 (wrap64 (100 + (wrap64 (t449 * 4)))) t453 _ A7.out).mono ?_); rintro e w16 ⟨rfl, hb⟩; refine ⟨_, rfl, ?_⟩; have n0_ := Aside0.mk (Kd.R_below (by (with_reducible repeat (first | apply Kd.R_alloc | apply Kd.R_drewN | apply Kd.R_drew)); exact HO452.out) hb); have n1_ := Aside0.mk (blk_below (g := gb448) (o := .cells #[.int .i64 t445, .int .i64 t446, .int .i64 t447] 27 (0, 0)) (by (with_reducible repeat (first | refine blk_drewN ?_ _ | refine blk_drew ?_ | refine blk_alloc ?_ _)); exact BK448.out) hb); have n2_ := Aside0.mk (below_step (by repeat (first | (with_reducible first | exact HB.out | apply below_alloc | apply pw_below_drewN | apply below_drew1 | refine below_set ?_ GE448.out) | exact HB.out)) hb); clear HO452; clear BK448; clear HB; have HO452 := n0_; have BK448 := n1_; have HB := n2_; clear n0_ n1_ n2_; (try clear hb); (try clear hb2); (try clear hk); (try clear hi); obtain ⟨Ao17, co17, eo17⟩ := Kd.R_slice HO452.out; subst eo17; have hcz18_0 : w16.cell? ⟨gb448, 0, none⟩ = some (.int .i64 t445) := (blk_cell BK448.out 0).trans rfl; have hcz18_1 : w16.cell? ⟨gb448, 1, none⟩ = some (.int .i64 t446) := (blk_cell BK448.out 1).trans rfl; have hcz18_2 : w16.cell? ⟨gb448, 2, none⟩ = some (.int .i64 t447) := (blk_cell BK448.out 2).trans rfl; have hfz18_0 := blk_frozen BK448.out 0; have hfz18_1 := blk_frozen BK448.out 1; have hfz18_2 := blk_frozen BK448.out 2) | ((with_reducible refine gate_callee (f := 19) rfl ?_); refine goesL_ (some 34) rfl rfl Try.func19 (by kernel_rfl) rfl #[.agg #[.int .i64 t445, .int .i64 t446, .int .i64 t447], .int .i64 (wrap64 (100 + (wrap64 (t449 * 4))))] rfl (by (try simp only [List.map_toArray, List.map_cons, List.map_nil]); first | done | rfl | (simp only [List.length_drop, List.length_take]; rfl)) ?_; (with_reducible refine (impl_CanTell.calls k t445 t446 t447 (wrap64 (100 + (wrap64 (t449 * 4)))) t454 _ A9.out).mono ?_); rintro e w19 ⟨rfl, hb⟩; refine ⟨_, rfl, ?_⟩; have n0_ := Aside0.mk (Kd.R_below (by (with_reducible repeat (first | apply Kd.R_alloc | apply Kd.R_drewN | apply Kd.R_drew)); exact HO452.out) hb); have n1_ := Aside0.mk (blk_below (g := gb448) (o := .cells #[.int .i64 t445, .int .i64 t446, .int .i64 t447] 27 (0, 0)) (by (with_reducible repeat (first | refine blk_drewN ?_ _ | refine blk_drew ?_ | refine blk_alloc ?_ _)); exact BK448.out) hb); have n2_ := Aside0.mk (below_step (by repeat (first | (with_reducible first | exact HB.out | apply below_alloc | apply pw_below_drewN | apply below_drew1 | refine below_set ?_ GE448.out) | exact HB.out)) hb); clear HO452; clear BK448; clear HB; have HO452 := n0_; have BK448 := n1_; have HB := n2_; clear n0_ n1_ n2_; (try clear hb); (try clear hb2); (try clear hk); (try clear hi)))
   (try simp only [Act.put, List.setIfInBounds_toArray, List.set_cons_zero, List.set_cons_succ])
   go_cut [93] (fun v93 wc => ∃ (kq : Nat) (x93_9 : Bool), v93 = .bool x93_9 ∧ Aside0 (laws_FnWeighings.j0 kq (wrap64 (100 + (wrap64 (t449 * 4)))) t450 t453 t454 x93_9 t445 t446 t447 = some r) ∧ Aside0 (kq ≤ k) ∧ Aside0 (Kd.R (Kd.int .i64) 3 wc w.heap.size (fun _ => True) (.slice Ao17 t450.length co17) t450) ∧ Aside0 (wc.heap[gb448]? = some (.cells #[.int .i64 t445, .int .i64 t446, .int .i64 t447] 27 (0, 0))) ∧ Aside0 (Below w.heap.size w wc))
   case first =>
    have H := HC10.out
    clear HC10
    replace H := Option.bind_eq_some_iff.mp H
    obtain ⟨t455, A200, H⟩ := H
    replace H : (if t455 = 0 then ((impl_TwiceIn.f k t445 t446 t447 (wrap64 (100 + (wrap64 (t449 * 4)))) t453).bind fun t456 => (if t456 = 0 then (if 1 < (t450.length : Int) then (if (rd t450 1) > 0 then (if 2 < (t450.length : Int) then (if (rd t450 2) > 0 then (if 3 < (t450.length : Int) then (if (rd t450 3) > 0 then (if (rd t450 1) = (rd t450 2) then (laws_FnWeighings.j0 k (wrap64 (100 + (wrap64 (t449 * 4)))) t450 t453 t454 (t454 != false) t445 t446 t447) else (if (rd t450 1) = (rd t450 3) then (laws_FnWeighings.j0 k (wrap64 (100 + (wrap64 (t449 * 4)))) t450 t453 t454 (t454 != false) t445 t446 t447) else (laws_FnWeighings.j0 k (wrap64 (100 + (wrap64 (t449 * 4)))) t450 t453 t454 (t454 != ((rd t450 2) != (rd t450 3))) t445 t446 t447))) else (laws_FnWeighings.j0 k (wrap64 (100 + (wrap64 (t449 * 4)))) t450 t453 t454 (t454 != false) t445 t446 t447)) else (none)) else (laws_FnWeighings.j0 k (wrap64 (100 + (wrap64 (t449 * 4)))) t450 t453 t454 (t454 != false) t445 t446 t447)) else (none)) else (laws_FnWeighings.j0 k (wrap64 (100 + (wrap64 (t449 * 4)))) t450 t453 t454 (t454 != false) t445 t446 t447)) else (none)) else (laws_FnWeighings.j0 k (wrap64 (100 + (wrap64 (t449 * 4)))) t450 t453 t454 true t445 t446 t447))) else (laws_FnWeighings.j0 k (wrap64 (100 + (wrap64 (t449 * 4)))) t450 t453 t454 true t445 t446 t447)) = some r := H
    have A20 := Aside0.mk A200
    clear A200
    by_cases c21 : t455 = 0
    ·rw [if_pos c21] at H
     have c21b0 : (t455 == 0) = true := beq_iff_eq.mpr c21
     have c21b1 : (t455 != 0) = false := bne_eq_false_iff_eq.mpr c21
     clear c21
     (first | rw [c21b0] | (simp only [i64_w, i32_w]; rw [c21b0]) | skip)
     replace H := Option.bind_eq_some_iff.mp H
     obtain ⟨t456, A220, H⟩ := H
     replace H : (if t456 = 0 then (if 1 < (t450.length : Int) then (if (rd t450 1) > 0 then (if 2 < (t450.length : Int) then (if (rd t450 2) > 0 then (if 3 < (t450.length : Int) then (if (rd t450 3) > 0 then (if (rd t450 1) = (rd t450 2) then (laws_FnWeighings.j0 k (wrap64 (100 + (wrap64 (t449 * 4)))) t450 t453 t454 (t454 != false) t445 t446 t447) else (if (rd t450 1) = (rd t450 3) then (laws_FnWeighings.j0 k (wrap64 (100 + (wrap64 (t449 * 4)))) t450 t453 t454 (t454 != false) t445 t446 t447) else (laws_FnWeighings.j0 k (wrap64 (100 + (wrap64 (t449 * 4)))) t450 t453 t454 (t454 != ((rd t450 2) != (rd t450 3))) t445 t446 t447))) else (laws_FnWeighings.j0 k (wrap64 (100 + (wrap64 (t449 * 4)))) t450 t453 t454 (t454 != false) t445 t446 t447)) else (none)) else (laws_FnWeighings.j0 k (wrap64 (100 + (wrap64 (t449 * 4)))) t450 t453 t454 (t454 != false) t445 t446 t447)) else (none)) else (laws_FnWeighings.j0 k (wrap64 (100 + (wrap64 (t449 * 4)))) t450 t453 t454 (t454 != false) t445 t446 t447)) else (none)) else (laws_FnWeighings.j0 k (wrap64 (100 + (wrap64 (t449 * 4)))) t450 t453 t454 true t445 t446 t447)) = some r := H
     have A22 := Aside0.mk A220
     clear A220
     by_cases c23 : t456 = 0
     ·rw [if_pos c23] at H
      have c23b0 : (t456 == 0) = true := beq_iff_eq.mpr c23
      have c23b1 : (t456 != 0) = false := bne_eq_false_iff_eq.mpr c23
      clear c23
      by_cases c24 : 1 < (t450.length : Int)
      ·rw [if_pos c24] at H
       have c24b0 : decide (1 < (t450.length : Int)) = true := decide_eq_true c24
       have c24b1 : decide (1 < t450.length) = true := decide_eq_true (by omega)
       clear c24
       by_cases c25 : (rd t450 1) > 0
       ·rw [if_pos c25] at H
        have c25b0 : decide (0 < (rd t450 1)) = true := decide_eq_true c25
        clear c25
        by_cases c26 : 2 < (t450.length : Int)
        ·rw [if_pos c26] at H
         have c26b0 : decide (2 < (t450.length : Int)) = true := decide_eq_true c26
         have c26b1 : decide (2 < t450.length) = true := decide_eq_true (by omega)
         clear c26
         by_cases c27 : (rd t450 2) > 0
         ·rw [if_pos c27] at H
          have c27b0 : decide (0 < (rd t450 2)) = true := decide_eq_true c27
          clear c27
          by_cases c28 : 3 < (t450.length : Int)
          ·rw [if_pos c28] at H
           have c28b0 : decide (3 < (t450.length : Int)) = true := decide_eq_true c28
           have c28b1 : decide (3 < t450.length) = true := decide_eq_true (by omega)
           clear c28
           by_cases c29 : (rd t450 3) > 0
           ·rw [if_pos c29] at H
            have c29b0 : decide (0 < (rd t450 3)) = true := decide_eq_true c29
            clear c29
            by_cases c30 : (rd t450 1) = (rd t450 2)
            ·as_aux_lemma =>
              rw [if_pos c30] at H
              have c30b0 : ((rd t450 1) == (rd t450 2)) = true := beq_iff_eq.mpr c30
              have c30b1 : ((rd t450 1) != (rd t450 2)) = false := bne_eq_false_iff_eq.mpr c30
              clear c30
              have H' := Aside0.mk H
              clear H
              try go_wp2
              have n0_ := Aside0.mk (Kd.R_drew HO452.out)
              have n1_ := Aside0.mk (blk_drew BK448.out)
              have n2_ := Aside0.mk (below_drew1 HB.out)
              clear HO452
              clear BK448
              clear HB
              have HO452 := n0_
              have BK448 := n1_
              have HB := n2_
              clear n0_ n1_ n2_
              have p457 : 0 ≤ (1 : Int) := (by omega)
              have q457 : 1 < (t450.length : Int) := of_decide_eq_true (by first | (with_reducible assumption) | assumption)
              obtain ⟨ad457, e457, hx457_0⟩ := Kd.at_int (Kd.R_reads' HO452.out).2.2 1 p457 q457
              cases e457
              (try simp only [show (1 : Int).toNat = 1 from rfl, Nat.reduceMul, Nat.reduceEqDiff, Go.Addr.add, ↓reduceIte] at hx457_0)
              have qi457 : (1 < t450.length) = True := eq_true (by omega)
              (try rw [show ((1 : Int)).toNat = 1 from rfl] at hx457_0)
              replace p457 := eq_true p457
              replace q457 := eq_true q457
              have p458 : 0 ≤ (2 : Int) := (by omega)
              have q458 : 2 < (t450.length : Int) := of_decide_eq_true (by first | (with_reducible assumption) | assumption)
              obtain ⟨ad458, e458, hx458_0⟩ := Kd.at_int (Kd.R_reads' HO452.out).2.2 2 p458 q458
              obtain rfl : ad457 = ad458 := (by injection e458)
              (try simp only [show (2 : Int).toNat = 2 from rfl, Nat.reduceMul, Nat.reduceEqDiff, Go.Addr.add, ↓reduceIte] at hx458_0)
              have qi458 : (2 < t450.length) = True := eq_true (by omega)
              (try rw [show ((2 : Int)).toNat = 2 from rfl] at hx458_0)
              replace p458 := eq_true p458
              replace q458 := eq_true q458
              have p459 : 0 ≤ (3 : Int) := (by omega)
              have q459 : 3 < (t450.length : Int) := of_decide_eq_true (by first | (with_reducible assumption) | assumption)
              obtain ⟨ad459, e459, hx459_0⟩ := Kd.at_int (Kd.R_reads' HO452.out).2.2 3 p459 q459
              obtain rfl : ad457 = ad459 := (by injection e459)
              (try simp only [show (3 : Int).toNat = 3 from rfl, Nat.reduceMul, Nat.reduceEqDiff, Go.Addr.add, ↓reduceIte] at hx459_0)
              have qi459 : (3 < t450.length) = True := eq_true (by omega)
              (try rw [show ((3 : Int)).toNat = 3 from rfl] at hx459_0)
              replace p459 := eq_true p459
              replace q459 := eq_true q459
              have p460 : 0 ≤ (1 : Int) := (by omega)
              have q460 : 1 < (t450.length : Int) := of_decide_eq_true (by first | (with_reducible assumption) | assumption)
              obtain ⟨ad460, e460, hx460_0⟩ := Kd.at_int (Kd.R_reads' HO452.out).2.2 1 p460 q460
              obtain rfl : ad457 = ad460 := (by injection e460)
              (try simp only [show (1 : Int).toNat = 1 from rfl, Nat.reduceMul, Nat.reduceEqDiff, Go.Addr.add, ↓reduceIte] at hx460_0)
              have qi460 : (1 < t450.length) = True := eq_true (by omega)
              (try rw [show ((1 : Int)).toNat = 1 from rfl] at hx460_0)
              replace p460 := eq_true p460
              replace q460 := eq_true q460
              have p461 : 0 ≤ (2 : Int) := (by omega)
              have q461 : 2 < (t450.length : Int) := of_decide_eq_true (by first | (with_reducible assumption) | assumption)
              obtain ⟨ad461, e461, hx461_0⟩ := Kd.at_int (Kd.R_reads' HO452.out).2.2 2 p461 q461
              obtain rfl : ad457 = ad461 := (by injection e461)
              (try simp only [show (2 : Int).toNat = 2 from rfl, Nat.reduceMul, Nat.reduceEqDiff, Go.Addr.add, ↓reduceIte] at hx461_0)
              have qi461 : (2 < t450.length) = True := eq_true (by omega)
              (try rw [show ((2 : Int)).toNat = 2 from rfl] at hx461_0)
              replace p461 := eq_true p461
              replace q461 := eq_true q461
              refine start_ (n := 59) (S := fun w' => w'.cell? ⟨gb448, 0, none⟩ = some (.int .i64 t445) ∧ w'.cell? ⟨gb448, 1, none⟩ = some (.int .i64 t446) ∧ w'.cell? ⟨gb448, 2, none⟩ = some (.int .i64 t447) ∧ w'.cell? ⟨ad457.block, ad457.off + 1, none⟩ = some (.int .i64 (rd t450 1)) ∧ w'.cell? ⟨ad457.block, ad457.off + 2, none⟩ = some (.int .i64 (rd t450 2)) ∧ w'.cell? ⟨ad457.block, ad457.off + 3, none⟩ = some (.int .i64 (rd t450 3)) ∧ w'.cell? ⟨ad457.block, ad457.off + 1, none⟩ = some (.int .i64 (rd t450 1)) ∧ w'.cell? ⟨ad457.block, ad457.off + 2, none⟩ = some (.int .i64 (rd t450 2))) (ds := []) W0_ (by kernel_rfl) rfl rfl ⟨(blk_cell BK448.out 0).trans rfl, (blk_cell BK448.out 1).trans rfl, (blk_cell BK448.out 2).trans rfl, hx457_0, hx458_0, hx459_0, hx460_0, hx461_0⟩ (fun hHeld => ?_); refine with_tabW laws_FnWeighings.tab10 laws_FnWeighings.bits10 (fun HT_ HW_ => ?_)
              generalize w19.drew = w31 at HO452 BK448 HB hx457_0 hx458_0 hx459_0 hx460_0 hx461_0 hHeld ⊢
              refine pz_ (i := 1) (N := some 36) W1_ rfl rfl (any_of HT_.out (by kernel_rfl)) ?_
              refine pz_ (i := 2) (N := some 37) W2_ rfl rfl (any_of HT_.out (by kernel_rfl)) ?_
              refine take_ (i := 0) (N := some 35) (v := ?_) (a' := ?_) W3_ rfl rfl (take_ofW HT_.out HW_.out (by kernel_rfl)) (fun _ _ _ h => h) (Or.inl ⟨by rfl, ?_⟩) hHeld ?_ ?_
              rotate_left
              ·rintro w' ⟨s0, s1, s2, s3, s4, s5, s6, s7⟩
               go_simp
               with_reducible rfl
              rotate_left
              ·simp only [Act.put, List.setIfInBounds_toArray, List.set_cons_zero, List.set_cons_succ, i64_w, i32_w]
               rfl
              refine one_ (i := 3) (N := some 38) W4_ rfl rfl (one_of HT_.out (by kernel_rfl)) (by decide) (fun K hK => ?_)
              refine goes_ Try.func13 (by kernel_rfl) rfl #[.agg #[.int .i64 t445, .int .i64 t446, .int .i64 t447], .int .i64 (wrap64 (100 + (wrap64 (t449 * 4)))), .int .i64 t453] (by rfl) rfl rfl (by (try simp only [List.map_toArray, List.map_cons, List.map_nil]); first | done | rfl | (simp only [List.length_drop, List.length_take]; rfl)) ?_
              with_reducible refine (impl_MissingPart.calls k t445 t446 t447 (wrap64 (100 + (wrap64 (t449 * 4)))) t453 t455 _ A20.out).mono ?_
              rintro e w32 ⟨rfl, hb⟩
              have HS3_ := (hb.cell (World.block_lt_of_cell? _ _ (hHeld.2.2.2.1))).trans (hHeld.2.2.2.1)
              have HS4_ := (hb.cell (World.block_lt_of_cell? _ _ (hHeld.2.2.2.2.1))).trans (hHeld.2.2.2.2.1)
              have HS5_ := (hb.cell (World.block_lt_of_cell? _ _ (hHeld.2.2.2.2.2.1))).trans (hHeld.2.2.2.2.2.1)
              have HS6_ := (hb.cell (World.block_lt_of_cell? _ _ (hHeld.2.2.2.2.2.2.1))).trans (hHeld.2.2.2.2.2.2.1)
              have HS7_ := (hb.cell (World.block_lt_of_cell? _ _ (hHeld.2.2.2.2.2.2.2))).trans (hHeld.2.2.2.2.2.2.2)
              refine ⟨_, rfl, ?_⟩
              have n0_ := Aside0.mk (Kd.R_below (by (with_reducible repeat (first | apply Kd.R_alloc | apply Kd.R_drewN | apply Kd.R_drew)); exact HO452.out) hb)
              have n1_ := Aside0.mk (blk_below (g := gb448) (o := .cells #[.int .i64 t445, .int .i64 t446, .int .i64 t447] 27 (0, 0)) (by (with_reducible repeat (first | refine blk_drewN ?_ _ | refine blk_drew ?_ | refine blk_alloc ?_ _)); exact BK448.out) hb)
              have n2_ := Aside0.mk (below_step (by repeat (first | (with_reducible first | exact HB.out | apply below_alloc | apply pw_below_drewN | apply below_drew1 | refine below_set ?_ GE448.out) | exact HB.out)) hb)
              clear HO452
              clear BK448
              clear HB
              have HO452 := n0_
              have BK448 := n1_
              have HB := n2_
              clear n0_ n1_ n2_
              (try clear hb)
              (try clear hb2)
              (try clear hk)
              (try clear hi)
              refine hK.out _ _ ⟨(blk_cell BK448.out 0).trans rfl, (blk_cell BK448.out 1).trans rfl, (blk_cell BK448.out 2).trans rfl, HS3_, HS4_, HS5_, HS6_, HS7_⟩ (fun hHeld => ?_)
              clear hK K
              refine norm_ (a' := ?_) ?_ ?_
              rotate_left
              ·show Act.put _ (some 38) _ = _
               simp only [Act.put, List.setIfInBounds_toArray, List.set_cons_zero, List.set_cons_succ, i64_w, i32_w]
               rfl
              refine pz_ (i := 4) (N := some 39) W5_ rfl rfl (any_of HT_.out (by kernel_rfl)) ?_
              refine pz_ (i := 5) (N := some 40) W6_ rfl rfl (any_of HT_.out (by kernel_rfl)) ?_
              refine pz_ (i := 7) (N := some 42) W7_ rfl rfl (any_of HT_.out (by kernel_rfl)) ?_
              refine pz_ (i := 8) (N := some 43) W8_ rfl rfl (any_of HT_.out (by kernel_rfl)) ?_
              refine take_ (i := 6) (N := some 41) (v := ?_) (a' := ?_) W9_ rfl rfl (take_ofW HT_.out HW_.out (by kernel_rfl)) (fun _ _ _ h => h) (Or.inl ⟨by rfl, ?_⟩) hHeld ?_ ?_
              rotate_left
              ·rintro w' ⟨s0, s1, s2, s3, s4, s5, s6, s7⟩
               go_simp
               with_reducible rfl
              rotate_left
              ·simp only [Act.put, List.setIfInBounds_toArray, List.set_cons_zero, List.set_cons_succ, i64_w, i32_w]
               rfl
              refine one_ (i := 9) (N := some 44) W10_ rfl rfl (one_of HT_.out (by kernel_rfl)) (by decide) (fun K hK => ?_)
              refine goes_ Try.func15 (by kernel_rfl) rfl #[.agg #[.int .i64 t445, .int .i64 t446, .int .i64 t447], .int .i64 (wrap64 (100 + (wrap64 (t449 * 4)))), .int .i64 t453] (by rfl) rfl rfl (by (try simp only [List.map_toArray, List.map_cons, List.map_nil]); first | done | rfl | (simp only [List.length_drop, List.length_take]; rfl)) ?_
              with_reducible refine (impl_TwiceIn.calls k t445 t446 t447 (wrap64 (100 + (wrap64 (t449 * 4)))) t453 t456 _ A22.out).mono ?_
              rintro e w33 ⟨rfl, hb⟩
              have HS3_ := (hb.cell (World.block_lt_of_cell? _ _ (hHeld.2.2.2.1))).trans (hHeld.2.2.2.1)
              have HS4_ := (hb.cell (World.block_lt_of_cell? _ _ (hHeld.2.2.2.2.1))).trans (hHeld.2.2.2.2.1)
              have HS5_ := (hb.cell (World.block_lt_of_cell? _ _ (hHeld.2.2.2.2.2.1))).trans (hHeld.2.2.2.2.2.1)
              have HS6_ := (hb.cell (World.block_lt_of_cell? _ _ (hHeld.2.2.2.2.2.2.1))).trans (hHeld.2.2.2.2.2.2.1)
              have HS7_ := (hb.cell (World.block_lt_of_cell? _ _ (hHeld.2.2.2.2.2.2.2))).trans (hHeld.2.2.2.2.2.2.2)
              refine ⟨_, rfl, ?_⟩
              have n0_ := Aside0.mk (Kd.R_below (by (with_reducible repeat (first | apply Kd.R_alloc | apply Kd.R_drewN | apply Kd.R_drew)); exact HO452.out) hb)
              have n1_ := Aside0.mk (blk_below (g := gb448) (o := .cells #[.int .i64 t445, .int .i64 t446, .int .i64 t447] 27 (0, 0)) (by (with_reducible repeat (first | refine blk_drewN ?_ _ | refine blk_drew ?_ | refine blk_alloc ?_ _)); exact BK448.out) hb)
              have n2_ := Aside0.mk (below_step (by repeat (first | (with_reducible first | exact HB.out | apply below_alloc | apply pw_below_drewN | apply below_drew1 | refine below_set ?_ GE448.out) | exact HB.out)) hb)
              clear HO452
              clear BK448
              clear HB
              have HO452 := n0_
              have BK448 := n1_
              have HB := n2_
              clear n0_ n1_ n2_
              (try clear hb)
              (try clear hb2)
              (try clear hk)
              (try clear hi)
              refine hK.out _ _ ⟨(blk_cell BK448.out 0).trans rfl, (blk_cell BK448.out 1).trans rfl, (blk_cell BK448.out 2).trans rfl, HS3_, HS4_, HS5_, HS6_, HS7_⟩ (fun hHeld => ?_)
              clear hK K
              refine norm_ (a' := ?_) ?_ ?_
              rotate_left
              ·show Act.put _ (some 44) _ = _
               simp only [Act.put, List.setIfInBounds_toArray, List.set_cons_zero, List.set_cons_succ, i64_w, i32_w]
               rfl
              refine pz_ (i := 10) (N := some 45) W11_ rfl rfl (any_of HT_.out (by kernel_rfl)) ?_
              refine pz_ (i := 11) (N := some 46) W12_ rfl rfl (any_of HT_.out (by kernel_rfl)) ?_
              refine pz_ (i := 12) (N := some 47) W13_ rfl rfl (any_of HT_.out (by kernel_rfl)) ?_
              refine pz_ (i := 13) (N := some 48) W14_ rfl rfl (any_of HT_.out (by kernel_rfl)) ?_
              refine pz_ (i := 14) (N := some 49) W15_ rfl rfl (any_of HT_.out (by kernel_rfl)) ?_
              refine pz_ (i := 15) (N := some 50) W16_ rfl rfl (any_of HT_.out (by kernel_rfl)) ?_
              refine take_ (i := 16) (N := some 51) (v := ?_) (a' := ?_) W17_ rfl rfl (take_ofW HT_.out HW_.out (by kernel_rfl)) (fun _ _ _ h => h) (Or.inl ⟨by rfl, ?_⟩) hHeld ?_ ?_
              rotate_left
              ·rintro w' ⟨s0, s1, s2, s3, s4, s5, s6, s7⟩
               go_simp
               with_reducible rfl
              rotate_left
              ·simp only [Act.put, List.setIfInBounds_toArray, List.set_cons_zero, List.set_cons_succ, i64_w, i32_w]
               rfl
              refine pz_ (i := 17) (N := some 52) W18_ rfl rfl (any_of HT_.out (by kernel_rfl)) ?_
              refine pz_ (i := 18) (N := some 53) W19_ rfl rfl (any_of HT_.out (by kernel_rfl)) ?_
              refine pz_ (i := 19) (N := some 54) W20_ rfl rfl (any_of HT_.out (by kernel_rfl)) ?_
              refine pz_ (i := 20) (N := some 55) W21_ rfl rfl (any_of HT_.out (by kernel_rfl)) ?_
              refine take_ (i := 21) (N := some 56) (v := ?_) (a' := ?_) W22_ rfl rfl (take_ofW HT_.out HW_.out (by kernel_rfl)) (fun _ _ _ h => h) (Or.inl ⟨by rfl, ?_⟩) hHeld ?_ ?_
              rotate_left
              ·rintro w' ⟨s0, s1, s2, s3, s4, s5, s6, s7⟩
               go_simp
               with_reducible rfl
              rotate_left
              ·simp only [Act.put, List.setIfInBounds_toArray, List.set_cons_zero, List.set_cons_succ, i64_w, i32_w]
               rfl
              refine pz_ (i := 22) (N := some 57) W23_ rfl rfl (any_of HT_.out (by kernel_rfl)) ?_
              refine pz_ (i := 23) (N := some 58) W24_ rfl rfl (any_of HT_.out (by kernel_rfl)) ?_
              refine pz_ (i := 24) (N := some 59) W25_ rfl rfl (any_of HT_.out (by kernel_rfl)) ?_
              refine pz_ (i := 25) (N := some 60) W26_ rfl rfl (any_of HT_.out (by kernel_rfl)) ?_
              refine pz_ (i := 26) (N := some 61) W27_ rfl rfl (any_of HT_.out (by kernel_rfl)) ?_
              refine take_ (i := 27) (N := some 62) (v := ?_) (a' := ?_) W28_ rfl rfl (take_ofW HT_.out HW_.out (by kernel_rfl)) (fun _ _ _ h => h) (Or.inl ⟨by rfl, ?_⟩) hHeld ?_ ?_
              rotate_left
              ·rintro w' ⟨s0, s1, s2, s3, s4, s5, s6, s7⟩
               go_simp
               with_reducible rfl
              rotate_left
              ·simp only [Act.put, List.setIfInBounds_toArray, List.set_cons_zero, List.set_cons_succ, i64_w, i32_w]
               rfl
              refine pz_ (i := 28) (N := some 63) W29_ rfl rfl (any_of HT_.out (by kernel_rfl)) ?_
              refine pz_ (i := 29) (N := some 64) W30_ rfl rfl (any_of HT_.out (by kernel_rfl)) ?_
              refine pz_ (i := 30) (N := some 65) W31_ rfl rfl (any_of HT_.out (by kernel_rfl)) ?_
              refine pz_ (i := 31) (N := some 66) W32_ rfl rfl (any_of HT_.out (by kernel_rfl)) ?_
              refine pz_ (i := 32) (N := some 67) W33_ rfl rfl (any_of HT_.out (by kernel_rfl)) ?_
              refine pz_ (i := 34) (N := some 69) W34_ rfl rfl (any_of HT_.out (by kernel_rfl)) ?_
              refine pz_ (i := 35) (N := some 70) W35_ rfl rfl (any_of HT_.out (by kernel_rfl)) ?_
              refine take_ (i := 33) (N := some 68) (v := ?_) (a' := ?_) W36_ rfl rfl (take_ofW HT_.out HW_.out (by kernel_rfl)) (fun _ _ _ h => h) (Or.inl ⟨by rfl, ?_⟩) hHeld ?_ ?_
              rotate_left
              ·rintro w' ⟨s0, s1, s2, s3, s4, s5, s6, s7⟩
               go_simp
               with_reducible rfl
              rotate_left
              ·simp only [Act.put, List.setIfInBounds_toArray, List.set_cons_zero, List.set_cons_succ, i64_w, i32_w]
               rfl
              refine take_ (i := 36) (N := some 71) (v := ?_) (a' := ?_) W37_ rfl rfl (take_ofW HT_.out HW_.out (by kernel_rfl)) (fun _ _ _ h => h) (Or.inl ⟨by rfl, ?_⟩) hHeld ?_ ?_
              rotate_left
              ·rintro w' ⟨s0, s1, s2, s3, s4, s5, s6, s7⟩
               go_simp
               with_reducible rfl
              rotate_left
              ·simp only [Act.put, List.setIfInBounds_toArray, List.set_cons_zero, List.set_cons_succ, i64_w, i32_w]
               rfl
              refine pz_ (i := 37) (N := some 72) W38_ rfl rfl (any_of HT_.out (by kernel_rfl)) ?_
              refine pz_ (i := 38) (N := some 73) W39_ rfl rfl (any_of HT_.out (by kernel_rfl)) ?_
              refine pz_ (i := 39) (N := some 74) W40_ rfl rfl (any_of HT_.out (by kernel_rfl)) ?_
              refine pu_ (i := 40) (N := some 75) W41_ rfl rfl (any_of HT_.out (by kernel_rfl)) ?_
              refine pu_ (i := 41) (N := some 76) W42_ rfl rfl (any_of HT_.out (by kernel_rfl)) ?_
              refine pu_ (i := 42) (N := some 77) W43_ rfl rfl (any_of HT_.out (by kernel_rfl)) ?_
              refine pu_ (i := 43) (N := some 78) W44_ rfl rfl (any_of HT_.out (by kernel_rfl)) ?_
              refine pu_ (i := 44) (N := some 79) W45_ rfl rfl (any_of HT_.out (by kernel_rfl)) ?_
              refine pu_ (i := 45) (N := some 80) W46_ rfl rfl (any_of HT_.out (by kernel_rfl)) ?_
              refine pu_ (i := 46) (N := some 81) W47_ rfl rfl (any_of HT_.out (by kernel_rfl)) ?_
              refine pz_ (i := 47) (N := some 82) W48_ rfl rfl (any_of HT_.out (by kernel_rfl)) ?_
              refine pz_ (i := 48) (N := some 83) W49_ rfl rfl (any_of HT_.out (by kernel_rfl)) ?_
              refine pu_ (i := 49) (N := some 84) W50_ rfl rfl (any_of HT_.out (by kernel_rfl)) ?_
              refine pu_ (i := 50) (N := some 85) W51_ rfl rfl (any_of HT_.out (by kernel_rfl)) ?_
              refine pu_ (i := 51) (N := some 86) W52_ rfl rfl (any_of HT_.out (by kernel_rfl)) ?_
              refine pu_ (i := 52) (N := some 87) W53_ rfl rfl (any_of HT_.out (by kernel_rfl)) ?_
              refine pu_ (i := 53) (N := some 88) W54_ rfl rfl (any_of HT_.out (by kernel_rfl)) ?_
              refine pu_ (i := 54) (N := some 89) W55_ rfl rfl (any_of HT_.out (by kernel_rfl)) ?_
              refine pu_ (i := 55) (N := some 90) W56_ rfl rfl (any_of HT_.out (by kernel_rfl)) ?_
              refine pz_ (i := 56) (N := some 91) W57_ rfl rfl (any_of HT_.out (by kernel_rfl)) ?_
              refine pz_ (i := 57) (N := some 92) W58_ rfl rfl (any_of HT_.out (by kernel_rfl)) ?_
              refine pz_ (i := 58) (N := some 93) W59_ rfl rfl (any_of HT_.out (by kernel_rfl)) ?_
              refine done_ (done_of HT_.out (by kernel_rfl)) ?_
              try go_wp2
              go_meet
              case rel => exact ⟨_, ((t454 != false)), (by first | rfl | (simp; done) | (simp [*]; done)), H', ⟨by first | omega | exact Nat.le_refl _⟩, ⟨by (with_reducible repeat (first | apply Kd.R_alloc | apply Kd.R_drewN | apply Kd.R_drew)); exact HO452.out⟩, ⟨by (with_reducible repeat (first | refine blk_drewN ?_ _ | refine blk_drew ?_ | refine blk_alloc ?_ _)); exact BK448.out⟩, ⟨by repeat (first | (with_reducible first | exact HB.out | apply below_alloc | apply pw_below_drewN | apply below_drew1 | refine below_set ?_ GE448.out) | exact HB.out)⟩⟩
            ·rw [if_neg c30] at H
             have c30b0 : ((rd t450 1) == (rd t450 2)) = false := beq_eq_false_iff_ne.mpr c30
             have c30b1 : ((rd t450 1) != (rd t450 2)) = true := bne_iff_ne.mpr c30
             by_cases c34 : (rd t450 1) = (rd t450 3)
             ·as_aux_lemma =>
               rw [if_pos c34] at H
               have c34b0 : ((rd t450 1) == (rd t450 3)) = true := beq_iff_eq.mpr c34
               have c34b1 : ((rd t450 1) != (rd t450 3)) = false := bne_eq_false_iff_eq.mpr c34
               clear c34
               have H' := Aside0.mk H
               clear H
               try go_wp2
               have n0_ := Aside0.mk (Kd.R_drew HO452.out)
               have n1_ := Aside0.mk (blk_drew BK448.out)
               have n2_ := Aside0.mk (below_drew1 HB.out)
               clear HO452
               clear BK448
               clear HB
               have HO452 := n0_
               have BK448 := n1_
               have HB := n2_
               clear n0_ n1_ n2_
               have p457 : 0 ≤ (1 : Int) := (by omega)
               have q457 : 1 < (t450.length : Int) := of_decide_eq_true (by first | (with_reducible assumption) | assumption)
               obtain ⟨ad457, e457, hx457_0⟩ := Kd.at_int (Kd.R_reads' HO452.out).2.2 1 p457 q457
               cases e457
               (try simp only [show (1 : Int).toNat = 1 from rfl, Nat.reduceMul, Nat.reduceEqDiff, Go.Addr.add, ↓reduceIte] at hx457_0)
               have qi457 : (1 < t450.length) = True := eq_true (by omega)
               (try rw [show ((1 : Int)).toNat = 1 from rfl] at hx457_0)
               replace p457 := eq_true p457
               replace q457 := eq_true q457
               have p458 : 0 ≤ (2 : Int) := (by omega)
               have q458 : 2 < (t450.length : Int) := of_decide_eq_true (by first | (with_reducible assumption) | assumption)
               obtain ⟨ad458, e458, hx458_0⟩ := Kd.at_int (Kd.R_reads' HO452.out).2.2 2 p458 q458
               obtain rfl : ad457 = ad458 := (by injection e458)
               (try simp only [show (2 : Int).toNat = 2 from rfl, Nat.reduceMul, Nat.reduceEqDiff, Go.Addr.add, ↓reduceIte] at hx458_0)
               have qi458 : (2 < t450.length) = True := eq_true (by omega)
               (try rw [show ((2 : Int)).toNat = 2 from rfl] at hx458_0)
               replace p458 := eq_true p458
               replace q458 := eq_true q458
               have p459 : 0 ≤ (3 : Int) := (by omega)
               have q459 : 3 < (t450.length : Int) := of_decide_eq_true (by first | (with_reducible assumption) | assumption)
               obtain ⟨ad459, e459, hx459_0⟩ := Kd.at_int (Kd.R_reads' HO452.out).2.2 3 p459 q459
               obtain rfl : ad457 = ad459 := (by injection e459)
               (try simp only [show (3 : Int).toNat = 3 from rfl, Nat.reduceMul, Nat.reduceEqDiff, Go.Addr.add, ↓reduceIte] at hx459_0)
               have qi459 : (3 < t450.length) = True := eq_true (by omega)
               (try rw [show ((3 : Int)).toNat = 3 from rfl] at hx459_0)
               replace p459 := eq_true p459
               replace q459 := eq_true q459
               have p460 : 0 ≤ (1 : Int) := (by omega)
               have q460 : 1 < (t450.length : Int) := of_decide_eq_true (by first | (with_reducible assumption) | assumption)
               obtain ⟨ad460, e460, hx460_0⟩ := Kd.at_int (Kd.R_reads' HO452.out).2.2 1 p460 q460
               obtain rfl : ad457 = ad460 := (by injection e460)
               (try simp only [show (1 : Int).toNat = 1 from rfl, Nat.reduceMul, Nat.reduceEqDiff, Go.Addr.add, ↓reduceIte] at hx460_0)
               have qi460 : (1 < t450.length) = True := eq_true (by omega)
               (try rw [show ((1 : Int)).toNat = 1 from rfl] at hx460_0)
               replace p460 := eq_true p460
               replace q460 := eq_true q460
               have p461 : 0 ≤ (2 : Int) := (by omega)
               have q461 : 2 < (t450.length : Int) := of_decide_eq_true (by first | (with_reducible assumption) | assumption)
               obtain ⟨ad461, e461, hx461_0⟩ := Kd.at_int (Kd.R_reads' HO452.out).2.2 2 p461 q461
               obtain rfl : ad457 = ad461 := (by injection e461)
               (try simp only [show (2 : Int).toNat = 2 from rfl, Nat.reduceMul, Nat.reduceEqDiff, Go.Addr.add, ↓reduceIte] at hx461_0)
               have qi461 : (2 < t450.length) = True := eq_true (by omega)
               (try rw [show ((2 : Int)).toNat = 2 from rfl] at hx461_0)
               replace p461 := eq_true p461
               replace q461 := eq_true q461
               have p462 : 0 ≤ (1 : Int) := (by omega)
               have q462 : 1 < (t450.length : Int) := of_decide_eq_true (by first | (with_reducible assumption) | assumption)
               obtain ⟨ad462, e462, hx462_0⟩ := Kd.at_int (Kd.R_reads' HO452.out).2.2 1 p462 q462
               obtain rfl : ad457 = ad462 := (by injection e462)
               (try simp only [show (1 : Int).toNat = 1 from rfl, Nat.reduceMul, Nat.reduceEqDiff, Go.Addr.add, ↓reduceIte] at hx462_0)
               have qi462 : (1 < t450.length) = True := eq_true (by omega)
               (try rw [show ((1 : Int)).toNat = 1 from rfl] at hx462_0)
               replace p462 := eq_true p462
               replace q462 := eq_true q462
               have p463 : 0 ≤ (3 : Int) := (by omega)
               have q463 : 3 < (t450.length : Int) := of_decide_eq_true (by first | (with_reducible assumption) | assumption)
               obtain ⟨ad463, e463, hx463_0⟩ := Kd.at_int (Kd.R_reads' HO452.out).2.2 3 p463 q463
               obtain rfl : ad457 = ad463 := (by injection e463)
               (try simp only [show (3 : Int).toNat = 3 from rfl, Nat.reduceMul, Nat.reduceEqDiff, Go.Addr.add, ↓reduceIte] at hx463_0)
               have qi463 : (3 < t450.length) = True := eq_true (by omega)
               (try rw [show ((3 : Int)).toNat = 3 from rfl] at hx463_0)
               replace p463 := eq_true p463
               replace q463 := eq_true q463
               refine start_ (n := 59) (S := fun w' => w'.cell? ⟨gb448, 0, none⟩ = some (.int .i64 t445) ∧ w'.cell? ⟨gb448, 1, none⟩ = some (.int .i64 t446) ∧ w'.cell? ⟨gb448, 2, none⟩ = some (.int .i64 t447) ∧ w'.cell? ⟨ad457.block, ad457.off + 1, none⟩ = some (.int .i64 (rd t450 1)) ∧ w'.cell? ⟨ad457.block, ad457.off + 2, none⟩ = some (.int .i64 (rd t450 2)) ∧ w'.cell? ⟨ad457.block, ad457.off + 3, none⟩ = some (.int .i64 (rd t450 3)) ∧ w'.cell? ⟨ad457.block, ad457.off + 1, none⟩ = some (.int .i64 (rd t450 1)) ∧ w'.cell? ⟨ad457.block, ad457.off + 2, none⟩ = some (.int .i64 (rd t450 2)) ∧ w'.cell? ⟨ad457.block, ad457.off + 1, none⟩ = some (.int .i64 (rd t450 1)) ∧ w'.cell? ⟨ad457.block, ad457.off + 3, none⟩ = some (.int .i64 (rd t450 3))) (ds := []) W0_ (by kernel_rfl) rfl rfl ⟨(blk_cell BK448.out 0).trans rfl, (blk_cell BK448.out 1).trans rfl, (blk_cell BK448.out 2).trans rfl, hx457_0, hx458_0, hx459_0, hx460_0, hx461_0, hx462_0, hx463_0⟩ (fun hHeld => ?_); refine with_tabW laws_FnWeighings.tab10 laws_FnWeighings.bits10 (fun HT_ HW_ => ?_)
               generalize w19.drew = w35 at HO452 BK448 HB hx457_0 hx458_0 hx459_0 hx460_0 hx461_0 hx462_0 hx463_0 hHeld ⊢
               refine pz_ (i := 1) (N := some 36) W1_ rfl rfl (any_of HT_.out (by kernel_rfl)) ?_
               refine pz_ (i := 2) (N := some 37) W2_ rfl rfl (any_of HT_.out (by kernel_rfl)) ?_
               refine take_ (i := 0) (N := some 35) (v := ?_) (a' := ?_) W3_ rfl rfl (take_ofW HT_.out HW_.out (by kernel_rfl)) (fun _ _ _ h => h) (Or.inl ⟨by rfl, ?_⟩) hHeld ?_ ?_
               rotate_left
               ·rintro w' ⟨s0, s1, s2, s3, s4, s5, s6, s7, s8, s9⟩
                go_simp
                with_reducible rfl
               rotate_left
               ·simp only [Act.put, List.setIfInBounds_toArray, List.set_cons_zero, List.set_cons_succ, i64_w, i32_w]
                rfl
               refine one_ (i := 3) (N := some 38) W4_ rfl rfl (one_of HT_.out (by kernel_rfl)) (by decide) (fun K hK => ?_)
               refine goes_ Try.func13 (by kernel_rfl) rfl #[.agg #[.int .i64 t445, .int .i64 t446, .int .i64 t447], .int .i64 (wrap64 (100 + (wrap64 (t449 * 4)))), .int .i64 t453] (by rfl) rfl rfl (by (try simp only [List.map_toArray, List.map_cons, List.map_nil]); first | done | rfl | (simp only [List.length_drop, List.length_take]; rfl)) ?_
               with_reducible refine (impl_MissingPart.calls k t445 t446 t447 (wrap64 (100 + (wrap64 (t449 * 4)))) t453 t455 _ A20.out).mono ?_
               rintro e w36 ⟨rfl, hb⟩
               have HS3_ := (hb.cell (World.block_lt_of_cell? _ _ (hHeld.2.2.2.1))).trans (hHeld.2.2.2.1)
               have HS4_ := (hb.cell (World.block_lt_of_cell? _ _ (hHeld.2.2.2.2.1))).trans (hHeld.2.2.2.2.1)
               have HS5_ := (hb.cell (World.block_lt_of_cell? _ _ (hHeld.2.2.2.2.2.1))).trans (hHeld.2.2.2.2.2.1)
               have HS6_ := (hb.cell (World.block_lt_of_cell? _ _ (hHeld.2.2.2.2.2.2.1))).trans (hHeld.2.2.2.2.2.2.1)
               have HS7_ := (hb.cell (World.block_lt_of_cell? _ _ (hHeld.2.2.2.2.2.2.2.1))).trans (hHeld.2.2.2.2.2.2.2.1)
               have HS8_ := (hb.cell (World.block_lt_of_cell? _ _ (hHeld.2.2.2.2.2.2.2.2.1))).trans (hHeld.2.2.2.2.2.2.2.2.1)
               have HS9_ := (hb.cell (World.block_lt_of_cell? _ _ (hHeld.2.2.2.2.2.2.2.2.2))).trans (hHeld.2.2.2.2.2.2.2.2.2)
               refine ⟨_, rfl, ?_⟩
               have n0_ := Aside0.mk (Kd.R_below (by (with_reducible repeat (first | apply Kd.R_alloc | apply Kd.R_drewN | apply Kd.R_drew)); exact HO452.out) hb)
               have n1_ := Aside0.mk (blk_below (g := gb448) (o := .cells #[.int .i64 t445, .int .i64 t446, .int .i64 t447] 27 (0, 0)) (by (with_reducible repeat (first | refine blk_drewN ?_ _ | refine blk_drew ?_ | refine blk_alloc ?_ _)); exact BK448.out) hb)
               have n2_ := Aside0.mk (below_step (by repeat (first | (with_reducible first | exact HB.out | apply below_alloc | apply pw_below_drewN | apply below_drew1 | refine below_set ?_ GE448.out) | exact HB.out)) hb)
               clear HO452
               clear BK448
               clear HB
               have HO452 := n0_
               have BK448 := n1_
               have HB := n2_
               clear n0_ n1_ n2_
               (try clear hb)
               (try clear hb2)
               (try clear hk)
               (try clear hi)
               refine hK.out _ _ ⟨(blk_cell BK448.out 0).trans rfl, (blk_cell BK448.out 1).trans rfl, (blk_cell BK448.out 2).trans rfl, HS3_, HS4_, HS5_, HS6_, HS7_, HS8_, HS9_⟩ (fun hHeld => ?_)
               clear hK K
               refine norm_ (a' := ?_) ?_ ?_
               rotate_left
               ·show Act.put _ (some 38) _ = _
                simp only [Act.put, List.setIfInBounds_toArray, List.set_cons_zero, List.set_cons_succ, i64_w, i32_w]
                rfl
               refine pz_ (i := 4) (N := some 39) W5_ rfl rfl (any_of HT_.out (by kernel_rfl)) ?_
               refine pz_ (i := 5) (N := some 40) W6_ rfl rfl (any_of HT_.out (by kernel_rfl)) ?_
               refine pz_ (i := 7) (N := some 42) W7_ rfl rfl (any_of HT_.out (by kernel_rfl)) ?_
               refine pz_ (i := 8) (N := some 43) W8_ rfl rfl (any_of HT_.out (by kernel_rfl)) ?_
               refine take_ (i := 6) (N := some 41) (v := ?_) (a' := ?_) W9_ rfl rfl (take_ofW HT_.out HW_.out (by kernel_rfl)) (fun _ _ _ h => h) (Or.inl ⟨by rfl, ?_⟩) hHeld ?_ ?_
               rotate_left
               ·rintro w' ⟨s0, s1, s2, s3, s4, s5, s6, s7, s8, s9⟩
                go_simp
                with_reducible rfl
               rotate_left
               ·simp only [Act.put, List.setIfInBounds_toArray, List.set_cons_zero, List.set_cons_succ, i64_w, i32_w]
                rfl
               refine one_ (i := 9) (N := some 44) W10_ rfl rfl (one_of HT_.out (by kernel_rfl)) (by decide) (fun K hK => ?_)
               refine goes_ Try.func15 (by kernel_rfl) rfl #[.agg #[.int .i64 t445, .int .i64 t446, .int .i64 t447], .int .i64 (wrap64 (100 + (wrap64 (t449 * 4)))), .int .i64 t453] (by rfl) rfl rfl (by (try simp only [List.map_toArray, List.map_cons, List.map_nil]); first | done | rfl | (simp only [List.length_drop, List.length_take]; rfl)) ?_
               with_reducible refine (impl_TwiceIn.calls k t445 t446 t447 (wrap64 (100 + (wrap64 (t449 * 4)))) t453 t456 _ A22.out).mono ?_
               rintro e w37 ⟨rfl, hb⟩
               have HS3_ := (hb.cell (World.block_lt_of_cell? _ _ (hHeld.2.2.2.1))).trans (hHeld.2.2.2.1)
               have HS4_ := (hb.cell (World.block_lt_of_cell? _ _ (hHeld.2.2.2.2.1))).trans (hHeld.2.2.2.2.1)
               have HS5_ := (hb.cell (World.block_lt_of_cell? _ _ (hHeld.2.2.2.2.2.1))).trans (hHeld.2.2.2.2.2.1)
               have HS6_ := (hb.cell (World.block_lt_of_cell? _ _ (hHeld.2.2.2.2.2.2.1))).trans (hHeld.2.2.2.2.2.2.1)
               have HS7_ := (hb.cell (World.block_lt_of_cell? _ _ (hHeld.2.2.2.2.2.2.2.1))).trans (hHeld.2.2.2.2.2.2.2.1)
               have HS8_ := (hb.cell (World.block_lt_of_cell? _ _ (hHeld.2.2.2.2.2.2.2.2.1))).trans (hHeld.2.2.2.2.2.2.2.2.1)
               have HS9_ := (hb.cell (World.block_lt_of_cell? _ _ (hHeld.2.2.2.2.2.2.2.2.2))).trans (hHeld.2.2.2.2.2.2.2.2.2)
               refine ⟨_, rfl, ?_⟩
               have n0_ := Aside0.mk (Kd.R_below (by (with_reducible repeat (first | apply Kd.R_alloc | apply Kd.R_drewN | apply Kd.R_drew)); exact HO452.out) hb)
               have n1_ := Aside0.mk (blk_below (g := gb448) (o := .cells #[.int .i64 t445, .int .i64 t446, .int .i64 t447] 27 (0, 0)) (by (with_reducible repeat (first | refine blk_drewN ?_ _ | refine blk_drew ?_ | refine blk_alloc ?_ _)); exact BK448.out) hb)
               have n2_ := Aside0.mk (below_step (by repeat (first | (with_reducible first | exact HB.out | apply below_alloc | apply pw_below_drewN | apply below_drew1 | refine below_set ?_ GE448.out) | exact HB.out)) hb)
               clear HO452
               clear BK448
               clear HB
               have HO452 := n0_
               have BK448 := n1_
               have HB := n2_
               clear n0_ n1_ n2_
               (try clear hb)
               (try clear hb2)
               (try clear hk)
               (try clear hi)
               refine hK.out _ _ ⟨(blk_cell BK448.out 0).trans rfl, (blk_cell BK448.out 1).trans rfl, (blk_cell BK448.out 2).trans rfl, HS3_, HS4_, HS5_, HS6_, HS7_, HS8_, HS9_⟩ (fun hHeld => ?_)
               clear hK K
               refine norm_ (a' := ?_) ?_ ?_
               rotate_left
               ·show Act.put _ (some 44) _ = _
                simp only [Act.put, List.setIfInBounds_toArray, List.set_cons_zero, List.set_cons_succ, i64_w, i32_w]
                rfl
               refine pz_ (i := 10) (N := some 45) W11_ rfl rfl (any_of HT_.out (by kernel_rfl)) ?_
               refine pz_ (i := 11) (N := some 46) W12_ rfl rfl (any_of HT_.out (by kernel_rfl)) ?_
               refine pz_ (i := 12) (N := some 47) W13_ rfl rfl (any_of HT_.out (by kernel_rfl)) ?_
               refine pz_ (i := 13) (N := some 48) W14_ rfl rfl (any_of HT_.out (by kernel_rfl)) ?_
               refine pz_ (i := 14) (N := some 49) W15_ rfl rfl (any_of HT_.out (by kernel_rfl)) ?_
               refine pz_ (i := 15) (N := some 50) W16_ rfl rfl (any_of HT_.out (by kernel_rfl)) ?_
               refine take_ (i := 16) (N := some 51) (v := ?_) (a' := ?_) W17_ rfl rfl (take_ofW HT_.out HW_.out (by kernel_rfl)) (fun _ _ _ h => h) (Or.inl ⟨by rfl, ?_⟩) hHeld ?_ ?_
               rotate_left
               ·rintro w' ⟨s0, s1, s2, s3, s4, s5, s6, s7, s8, s9⟩
                go_simp
                with_reducible rfl
               rotate_left
               ·simp only [Act.put, List.setIfInBounds_toArray, List.set_cons_zero, List.set_cons_succ, i64_w, i32_w]
                rfl
               refine pz_ (i := 17) (N := some 52) W18_ rfl rfl (any_of HT_.out (by kernel_rfl)) ?_
               refine pz_ (i := 18) (N := some 53) W19_ rfl rfl (any_of HT_.out (by kernel_rfl)) ?_
               refine pz_ (i := 19) (N := some 54) W20_ rfl rfl (any_of HT_.out (by kernel_rfl)) ?_
               refine pz_ (i := 20) (N := some 55) W21_ rfl rfl (any_of HT_.out (by kernel_rfl)) ?_
               refine take_ (i := 21) (N := some 56) (v := ?_) (a' := ?_) W22_ rfl rfl (take_ofW HT_.out HW_.out (by kernel_rfl)) (fun _ _ _ h => h) (Or.inl ⟨by rfl, ?_⟩) hHeld ?_ ?_
               rotate_left
               ·rintro w' ⟨s0, s1, s2, s3, s4, s5, s6, s7, s8, s9⟩
                go_simp
                with_reducible rfl
               rotate_left
               ·simp only [Act.put, List.setIfInBounds_toArray, List.set_cons_zero, List.set_cons_succ, i64_w, i32_w]
                rfl
               refine pz_ (i := 22) (N := some 57) W23_ rfl rfl (any_of HT_.out (by kernel_rfl)) ?_
               refine pz_ (i := 23) (N := some 58) W24_ rfl rfl (any_of HT_.out (by kernel_rfl)) ?_
               refine pz_ (i := 24) (N := some 59) W25_ rfl rfl (any_of HT_.out (by kernel_rfl)) ?_
               refine pz_ (i := 25) (N := some 60) W26_ rfl rfl (any_of HT_.out (by kernel_rfl)) ?_
               refine pz_ (i := 26) (N := some 61) W27_ rfl rfl (any_of HT_.out (by kernel_rfl)) ?_
               refine take_ (i := 27) (N := some 62) (v := ?_) (a' := ?_) W28_ rfl rfl (take_ofW HT_.out HW_.out (by kernel_rfl)) (fun _ _ _ h => h) (Or.inl ⟨by rfl, ?_⟩) hHeld ?_ ?_
               rotate_left
               ·rintro w' ⟨s0, s1, s2, s3, s4, s5, s6, s7, s8, s9⟩
                go_simp
                with_reducible rfl
               rotate_left
               ·simp only [Act.put, List.setIfInBounds_toArray, List.set_cons_zero, List.set_cons_succ, i64_w, i32_w]
                rfl
               refine pz_ (i := 28) (N := some 63) W29_ rfl rfl (any_of HT_.out (by kernel_rfl)) ?_
               refine pz_ (i := 29) (N := some 64) W30_ rfl rfl (any_of HT_.out (by kernel_rfl)) ?_
               refine pz_ (i := 30) (N := some 65) W31_ rfl rfl (any_of HT_.out (by kernel_rfl)) ?_
               refine pz_ (i := 31) (N := some 66) W32_ rfl rfl (any_of HT_.out (by kernel_rfl)) ?_
               refine pz_ (i := 32) (N := some 67) W33_ rfl rfl (any_of HT_.out (by kernel_rfl)) ?_
               refine pz_ (i := 34) (N := some 69) W34_ rfl rfl (any_of HT_.out (by kernel_rfl)) ?_
               refine pz_ (i := 35) (N := some 70) W35_ rfl rfl (any_of HT_.out (by kernel_rfl)) ?_
               refine take_ (i := 33) (N := some 68) (v := ?_) (a' := ?_) W36_ rfl rfl (take_ofW HT_.out HW_.out (by kernel_rfl)) (fun _ _ _ h => h) (Or.inl ⟨by rfl, ?_⟩) hHeld ?_ ?_
               rotate_left
               ·rintro w' ⟨s0, s1, s2, s3, s4, s5, s6, s7, s8, s9⟩
                go_simp
                with_reducible rfl
               rotate_left
               ·simp only [Act.put, List.setIfInBounds_toArray, List.set_cons_zero, List.set_cons_succ, i64_w, i32_w]
                rfl
               refine take_ (i := 36) (N := some 71) (v := ?_) (a' := ?_) W37_ rfl rfl (take_ofW HT_.out HW_.out (by kernel_rfl)) (fun _ _ _ h => h) (Or.inl ⟨by rfl, ?_⟩) hHeld ?_ ?_
               rotate_left
               ·rintro w' ⟨s0, s1, s2, s3, s4, s5, s6, s7, s8, s9⟩
                go_simp
                with_reducible rfl
               rotate_left
               ·simp only [Act.put, List.setIfInBounds_toArray, List.set_cons_zero, List.set_cons_succ, i64_w, i32_w]
                rfl
               refine pz_ (i := 37) (N := some 72) W38_ rfl rfl (any_of HT_.out (by kernel_rfl)) ?_
               refine pz_ (i := 38) (N := some 73) W39_ rfl rfl (any_of HT_.out (by kernel_rfl)) ?_
               refine pz_ (i := 39) (N := some 74) W40_ rfl rfl (any_of HT_.out (by kernel_rfl)) ?_
               refine pz_ (i := 40) (N := some 75) W41_ rfl rfl (any_of HT_.out (by kernel_rfl)) ?_
               refine pz_ (i := 41) (N := some 76) W42_ rfl rfl (any_of HT_.out (by kernel_rfl)) ?_
               refine pz_ (i := 43) (N := some 78) W60_ rfl rfl (any_of HT_.out (by kernel_rfl)) ?_
               refine pz_ (i := 44) (N := some 79) W61_ rfl rfl (any_of HT_.out (by kernel_rfl)) ?_
               refine take_ (i := 42) (N := some 77) (v := ?_) (a' := ?_) W45_ rfl rfl (take_ofW HT_.out HW_.out (by kernel_rfl)) (fun _ _ _ h => h) (Or.inl ⟨by rfl, ?_⟩) hHeld ?_ ?_
               rotate_left
               ·rintro w' ⟨s0, s1, s2, s3, s4, s5, s6, s7, s8, s9⟩
                go_simp
                with_reducible rfl
               rotate_left
               ·simp only [Act.put, List.setIfInBounds_toArray, List.set_cons_zero, List.set_cons_succ, i64_w, i32_w]
                rfl
               refine take_ (i := 45) (N := some 80) (v := ?_) (a' := ?_) W46_ rfl rfl (take_ofW HT_.out HW_.out (by kernel_rfl)) (fun _ _ _ h => h) (Or.inl ⟨by rfl, ?_⟩) hHeld ?_ ?_
               rotate_left
               ·rintro w' ⟨s0, s1, s2, s3, s4, s5, s6, s7, s8, s9⟩
                go_simp
                with_reducible rfl
               rotate_left
               ·simp only [Act.put, List.setIfInBounds_toArray, List.set_cons_zero, List.set_cons_succ, i64_w, i32_w]
                rfl
               refine pz_ (i := 46) (N := some 81) W47_ rfl rfl (any_of HT_.out (by kernel_rfl)) ?_
               refine pz_ (i := 47) (N := some 82) W48_ rfl rfl (any_of HT_.out (by kernel_rfl)) ?_
               refine pz_ (i := 48) (N := some 83) W49_ rfl rfl (any_of HT_.out (by kernel_rfl)) ?_
               refine pu_ (i := 49) (N := some 84) W50_ rfl rfl (any_of HT_.out (by kernel_rfl)) ?_
               refine pu_ (i := 50) (N := some 85) W51_ rfl rfl (any_of HT_.out (by kernel_rfl)) ?_
               refine pu_ (i := 51) (N := some 86) W52_ rfl rfl (any_of HT_.out (by kernel_rfl)) ?_
               refine pu_ (i := 52) (N := some 87) W53_ rfl rfl (any_of HT_.out (by kernel_rfl)) ?_
               refine pu_ (i := 53) (N := some 88) W54_ rfl rfl (any_of HT_.out (by kernel_rfl)) ?_
               refine pu_ (i := 54) (N := some 89) W55_ rfl rfl (any_of HT_.out (by kernel_rfl)) ?_
               refine pu_ (i := 55) (N := some 90) W56_ rfl rfl (any_of HT_.out (by kernel_rfl)) ?_
               refine pz_ (i := 56) (N := some 91) W57_ rfl rfl (any_of HT_.out (by kernel_rfl)) ?_
               refine pz_ (i := 57) (N := some 92) W58_ rfl rfl (any_of HT_.out (by kernel_rfl)) ?_
               refine pz_ (i := 58) (N := some 93) W59_ rfl rfl (any_of HT_.out (by kernel_rfl)) ?_
               refine done_ (done_of HT_.out (by kernel_rfl)) ?_
               try go_wp2
               go_meet
               case rel => exact ⟨_, ((t454 != false)), (by first | rfl | (simp; done) | (simp [*]; done)), H', ⟨by first | omega | exact Nat.le_refl _⟩, ⟨by (with_reducible repeat (first | apply Kd.R_alloc | apply Kd.R_drewN | apply Kd.R_drew)); exact HO452.out⟩, ⟨by (with_reducible repeat (first | refine blk_drewN ?_ _ | refine blk_drew ?_ | refine blk_alloc ?_ _)); exact BK448.out⟩, ⟨by repeat (first | (with_reducible first | exact HB.out | apply below_alloc | apply pw_below_drewN | apply below_drew1 | refine below_set ?_ GE448.out) | exact HB.out)⟩⟩
             ·as_aux_lemma =>
               rw [if_neg c34] at H
               have c34b0 : ((rd t450 1) == (rd t450 3)) = false := beq_eq_false_iff_ne.mpr c34
               have c34b1 : ((rd t450 1) != (rd t450 3)) = true := bne_iff_ne.mpr c34
               have H' := Aside0.mk H
               clear H
               try go_wp2
               have n0_ := Aside0.mk (Kd.R_drew HO452.out)
               have n1_ := Aside0.mk (blk_drew BK448.out)
               have n2_ := Aside0.mk (below_drew1 HB.out)
               clear HO452
               clear BK448
               clear HB
               have HO452 := n0_
               have BK448 := n1_
               have HB := n2_
               clear n0_ n1_ n2_
               have p457 : 0 ≤ (1 : Int) := (by omega)
               have q457 : 1 < (t450.length : Int) := of_decide_eq_true (by first | (with_reducible assumption) | assumption)
               obtain ⟨ad457, e457, hx457_0⟩ := Kd.at_int (Kd.R_reads' HO452.out).2.2 1 p457 q457
               cases e457
               (try simp only [show (1 : Int).toNat = 1 from rfl, Nat.reduceMul, Nat.reduceEqDiff, Go.Addr.add, ↓reduceIte] at hx457_0)
               have qi457 : (1 < t450.length) = True := eq_true (by omega)
               (try rw [show ((1 : Int)).toNat = 1 from rfl] at hx457_0)
               replace p457 := eq_true p457
               replace q457 := eq_true q457
               have p458 : 0 ≤ (2 : Int) := (by omega)
               have q458 : 2 < (t450.length : Int) := of_decide_eq_true (by first | (with_reducible assumption) | assumption)
               obtain ⟨ad458, e458, hx458_0⟩ := Kd.at_int (Kd.R_reads' HO452.out).2.2 2 p458 q458
               obtain rfl : ad457 = ad458 := (by injection e458)
               (try simp only [show (2 : Int).toNat = 2 from rfl, Nat.reduceMul, Nat.reduceEqDiff, Go.Addr.add, ↓reduceIte] at hx458_0)
               have qi458 : (2 < t450.length) = True := eq_true (by omega)
               (try rw [show ((2 : Int)).toNat = 2 from rfl] at hx458_0)
               replace p458 := eq_true p458
               replace q458 := eq_true q458
               have p459 : 0 ≤ (3 : Int) := (by omega)
               have q459 : 3 < (t450.length : Int) := of_decide_eq_true (by first | (with_reducible assumption) | assumption)
               obtain ⟨ad459, e459, hx459_0⟩ := Kd.at_int (Kd.R_reads' HO452.out).2.2 3 p459 q459
               obtain rfl : ad457 = ad459 := (by injection e459)
               (try simp only [show (3 : Int).toNat = 3 from rfl, Nat.reduceMul, Nat.reduceEqDiff, Go.Addr.add, ↓reduceIte] at hx459_0)
               have qi459 : (3 < t450.length) = True := eq_true (by omega)
               (try rw [show ((3 : Int)).toNat = 3 from rfl] at hx459_0)
               replace p459 := eq_true p459
               replace q459 := eq_true q459
               have p460 : 0 ≤ (1 : Int) := (by omega)
               have q460 : 1 < (t450.length : Int) := of_decide_eq_true (by first | (with_reducible assumption) | assumption)
               obtain ⟨ad460, e460, hx460_0⟩ := Kd.at_int (Kd.R_reads' HO452.out).2.2 1 p460 q460
               obtain rfl : ad457 = ad460 := (by injection e460)
               (try simp only [show (1 : Int).toNat = 1 from rfl, Nat.reduceMul, Nat.reduceEqDiff, Go.Addr.add, ↓reduceIte] at hx460_0)
               have qi460 : (1 < t450.length) = True := eq_true (by omega)
               (try rw [show ((1 : Int)).toNat = 1 from rfl] at hx460_0)
               replace p460 := eq_true p460
               replace q460 := eq_true q460
               have p461 : 0 ≤ (2 : Int) := (by omega)
               have q461 : 2 < (t450.length : Int) := of_decide_eq_true (by first | (with_reducible assumption) | assumption)
               obtain ⟨ad461, e461, hx461_0⟩ := Kd.at_int (Kd.R_reads' HO452.out).2.2 2 p461 q461
               obtain rfl : ad457 = ad461 := (by injection e461)
               (try simp only [show (2 : Int).toNat = 2 from rfl, Nat.reduceMul, Nat.reduceEqDiff, Go.Addr.add, ↓reduceIte] at hx461_0)
               have qi461 : (2 < t450.length) = True := eq_true (by omega)
               (try rw [show ((2 : Int)).toNat = 2 from rfl] at hx461_0)
               replace p461 := eq_true p461
               replace q461 := eq_true q461
               have p462 : 0 ≤ (1 : Int) := (by omega)
               have q462 : 1 < (t450.length : Int) := of_decide_eq_true (by first | (with_reducible assumption) | assumption)
               obtain ⟨ad462, e462, hx462_0⟩ := Kd.at_int (Kd.R_reads' HO452.out).2.2 1 p462 q462
               obtain rfl : ad457 = ad462 := (by injection e462)
               (try simp only [show (1 : Int).toNat = 1 from rfl, Nat.reduceMul, Nat.reduceEqDiff, Go.Addr.add, ↓reduceIte] at hx462_0)
               have qi462 : (1 < t450.length) = True := eq_true (by omega)
               (try rw [show ((1 : Int)).toNat = 1 from rfl] at hx462_0)
               replace p462 := eq_true p462
               replace q462 := eq_true q462
               have p463 : 0 ≤ (3 : Int) := (by omega)
               have q463 : 3 < (t450.length : Int) := of_decide_eq_true (by first | (with_reducible assumption) | assumption)
               obtain ⟨ad463, e463, hx463_0⟩ := Kd.at_int (Kd.R_reads' HO452.out).2.2 3 p463 q463
               obtain rfl : ad457 = ad463 := (by injection e463)
               (try simp only [show (3 : Int).toNat = 3 from rfl, Nat.reduceMul, Nat.reduceEqDiff, Go.Addr.add, ↓reduceIte] at hx463_0)
               have qi463 : (3 < t450.length) = True := eq_true (by omega)
               (try rw [show ((3 : Int)).toNat = 3 from rfl] at hx463_0)
               replace p463 := eq_true p463
               replace q463 := eq_true q463
               have p464 : 0 ≤ (2 : Int) := (by omega)
               have q464 : 2 < (t450.length : Int) := of_decide_eq_true (by first | (with_reducible assumption) | assumption)
               obtain ⟨ad464, e464, hx464_0⟩ := Kd.at_int (Kd.R_reads' HO452.out).2.2 2 p464 q464
               obtain rfl : ad457 = ad464 := (by injection e464)
               (try simp only [show (2 : Int).toNat = 2 from rfl, Nat.reduceMul, Nat.reduceEqDiff, Go.Addr.add, ↓reduceIte] at hx464_0)
               have qi464 : (2 < t450.length) = True := eq_true (by omega)
               (try rw [show ((2 : Int)).toNat = 2 from rfl] at hx464_0)
               replace p464 := eq_true p464
               replace q464 := eq_true q464
               have p465 : 0 ≤ (3 : Int) := (by omega)
               have q465 : 3 < (t450.length : Int) := of_decide_eq_true (by first | (with_reducible assumption) | assumption)
               obtain ⟨ad465, e465, hx465_0⟩ := Kd.at_int (Kd.R_reads' HO452.out).2.2 3 p465 q465
               obtain rfl : ad457 = ad465 := (by injection e465)
               (try simp only [show (3 : Int).toNat = 3 from rfl, Nat.reduceMul, Nat.reduceEqDiff, Go.Addr.add, ↓reduceIte] at hx465_0)
               have qi465 : (3 < t450.length) = True := eq_true (by omega)
               (try rw [show ((3 : Int)).toNat = 3 from rfl] at hx465_0)
               replace p465 := eq_true p465
               replace q465 := eq_true q465
               refine start_ (n := 59) (S := fun w' => w'.cell? ⟨gb448, 0, none⟩ = some (.int .i64 t445) ∧ w'.cell? ⟨gb448, 1, none⟩ = some (.int .i64 t446) ∧ w'.cell? ⟨gb448, 2, none⟩ = some (.int .i64 t447) ∧ w'.cell? ⟨ad457.block, ad457.off + 1, none⟩ = some (.int .i64 (rd t450 1)) ∧ w'.cell? ⟨ad457.block, ad457.off + 2, none⟩ = some (.int .i64 (rd t450 2)) ∧ w'.cell? ⟨ad457.block, ad457.off + 3, none⟩ = some (.int .i64 (rd t450 3)) ∧ w'.cell? ⟨ad457.block, ad457.off + 1, none⟩ = some (.int .i64 (rd t450 1)) ∧ w'.cell? ⟨ad457.block, ad457.off + 2, none⟩ = some (.int .i64 (rd t450 2)) ∧ w'.cell? ⟨ad457.block, ad457.off + 1, none⟩ = some (.int .i64 (rd t450 1)) ∧ w'.cell? ⟨ad457.block, ad457.off + 3, none⟩ = some (.int .i64 (rd t450 3)) ∧ w'.cell? ⟨ad457.block, ad457.off + 2, none⟩ = some (.int .i64 (rd t450 2)) ∧ w'.cell? ⟨ad457.block, ad457.off + 3, none⟩ = some (.int .i64 (rd t450 3))) (ds := []) W0_ (by kernel_rfl) rfl rfl ⟨(blk_cell BK448.out 0).trans rfl, (blk_cell BK448.out 1).trans rfl, (blk_cell BK448.out 2).trans rfl, hx457_0, hx458_0, hx459_0, hx460_0, hx461_0, hx462_0, hx463_0, hx464_0, hx465_0⟩ (fun hHeld => ?_); refine with_tabW laws_FnWeighings.tab10 laws_FnWeighings.bits10 (fun HT_ HW_ => ?_)
               generalize w19.drew = w38 at HO452 BK448 HB hx457_0 hx458_0 hx459_0 hx460_0 hx461_0 hx462_0 hx463_0 hx464_0 hx465_0 hHeld ⊢
               refine pz_ (i := 1) (N := some 36) W1_ rfl rfl (any_of HT_.out (by kernel_rfl)) ?_
               refine pz_ (i := 2) (N := some 37) W2_ rfl rfl (any_of HT_.out (by kernel_rfl)) ?_
               refine take_ (i := 0) (N := some 35) (v := ?_) (a' := ?_) W3_ rfl rfl (take_ofW HT_.out HW_.out (by kernel_rfl)) (fun _ _ _ h => h) (Or.inl ⟨by rfl, ?_⟩) hHeld ?_ ?_
               rotate_left
               ·rintro w' ⟨s0, s1, s2, s3, s4, s5, s6, s7, s8, s9, s10, s11⟩
                go_simp
                with_reducible rfl
               rotate_left
               ·simp only [Act.put, List.setIfInBounds_toArray, List.set_cons_zero, List.set_cons_succ, i64_w, i32_w]
                rfl
               refine one_ (i := 3) (N := some 38) W4_ rfl rfl (one_of HT_.out (by kernel_rfl)) (by decide) (fun K hK => ?_)
               refine goes_ Try.func13 (by kernel_rfl) rfl #[.agg #[.int .i64 t445, .int .i64 t446, .int .i64 t447], .int .i64 (wrap64 (100 + (wrap64 (t449 * 4)))), .int .i64 t453] (by rfl) rfl rfl (by (try simp only [List.map_toArray, List.map_cons, List.map_nil]); first | done | rfl | (simp only [List.length_drop, List.length_take]; rfl)) ?_
               with_reducible refine (impl_MissingPart.calls k t445 t446 t447 (wrap64 (100 + (wrap64 (t449 * 4)))) t453 t455 _ A20.out).mono ?_
               rintro e w39 ⟨rfl, hb⟩
               have HS3_ := (hb.cell (World.block_lt_of_cell? _ _ (hHeld.2.2.2.1))).trans (hHeld.2.2.2.1)
               have HS4_ := (hb.cell (World.block_lt_of_cell? _ _ (hHeld.2.2.2.2.1))).trans (hHeld.2.2.2.2.1)
               have HS5_ := (hb.cell (World.block_lt_of_cell? _ _ (hHeld.2.2.2.2.2.1))).trans (hHeld.2.2.2.2.2.1)
               have HS6_ := (hb.cell (World.block_lt_of_cell? _ _ (hHeld.2.2.2.2.2.2.1))).trans (hHeld.2.2.2.2.2.2.1)
               have HS7_ := (hb.cell (World.block_lt_of_cell? _ _ (hHeld.2.2.2.2.2.2.2.1))).trans (hHeld.2.2.2.2.2.2.2.1)
               have HS8_ := (hb.cell (World.block_lt_of_cell? _ _ (hHeld.2.2.2.2.2.2.2.2.1))).trans (hHeld.2.2.2.2.2.2.2.2.1)
               have HS9_ := (hb.cell (World.block_lt_of_cell? _ _ (hHeld.2.2.2.2.2.2.2.2.2.1))).trans (hHeld.2.2.2.2.2.2.2.2.2.1)
               have HS10_ := (hb.cell (World.block_lt_of_cell? _ _ (hHeld.2.2.2.2.2.2.2.2.2.2.1))).trans (hHeld.2.2.2.2.2.2.2.2.2.2.1)
               have HS11_ := (hb.cell (World.block_lt_of_cell? _ _ (hHeld.2.2.2.2.2.2.2.2.2.2.2))).trans (hHeld.2.2.2.2.2.2.2.2.2.2.2)
               refine ⟨_, rfl, ?_⟩
               have n0_ := Aside0.mk (Kd.R_below (by (with_reducible repeat (first | apply Kd.R_alloc | apply Kd.R_drewN | apply Kd.R_drew)); exact HO452.out) hb)
               have n1_ := Aside0.mk (blk_below (g := gb448) (o := .cells #[.int .i64 t445, .int .i64 t446, .int .i64 t447] 27 (0, 0)) (by (with_reducible repeat (first | refine blk_drewN ?_ _ | refine blk_drew ?_ | refine blk_alloc ?_ _)); exact BK448.out) hb)
               have n2_ := Aside0.mk (below_step (by repeat (first | (with_reducible first | exact HB.out | apply below_alloc | apply pw_below_drewN | apply below_drew1 | refine below_set ?_ GE448.out) | exact HB.out)) hb)
               clear HO452
               clear BK448
               clear HB
               have HO452 := n0_
               have BK448 := n1_
               have HB := n2_
               clear n0_ n1_ n2_
               (try clear hb)
               (try clear hb2)
               (try clear hk)
               (try clear hi)
               refine hK.out _ _ ⟨(blk_cell BK448.out 0).trans rfl, (blk_cell BK448.out 1).trans rfl, (blk_cell BK448.out 2).trans rfl, HS3_, HS4_, HS5_, HS6_, HS7_, HS8_, HS9_, HS10_, HS11_⟩ (fun hHeld => ?_)
               clear hK K
               refine norm_ (a' := ?_) ?_ ?_
               rotate_left
               ·show Act.put _ (some 38) _ = _
                simp only [Act.put, List.setIfInBounds_toArray, List.set_cons_zero, List.set_cons_succ, i64_w, i32_w]
                rfl
               refine pz_ (i := 4) (N := some 39) W5_ rfl rfl (any_of HT_.out (by kernel_rfl)) ?_
               refine pz_ (i := 5) (N := some 40) W6_ rfl rfl (any_of HT_.out (by kernel_rfl)) ?_
               refine pz_ (i := 7) (N := some 42) W7_ rfl rfl (any_of HT_.out (by kernel_rfl)) ?_
               refine pz_ (i := 8) (N := some 43) W8_ rfl rfl (any_of HT_.out (by kernel_rfl)) ?_
               refine take_ (i := 6) (N := some 41) (v := ?_) (a' := ?_) W9_ rfl rfl (take_ofW HT_.out HW_.out (by kernel_rfl)) (fun _ _ _ h => h) (Or.inl ⟨by rfl, ?_⟩) hHeld ?_ ?_
               rotate_left
               ·rintro w' ⟨s0, s1, s2, s3, s4, s5, s6, s7, s8, s9, s10, s11⟩
                go_simp
                with_reducible rfl
               rotate_left
               ·simp only [Act.put, List.setIfInBounds_toArray, List.set_cons_zero, List.set_cons_succ, i64_w, i32_w]
                rfl
               refine one_ (i := 9) (N := some 44) W10_ rfl rfl (one_of HT_.out (by kernel_rfl)) (by decide) (fun K hK => ?_)
               refine goes_ Try.func15 (by kernel_rfl) rfl #[.agg #[.int .i64 t445, .int .i64 t446, .int .i64 t447], .int .i64 (wrap64 (100 + (wrap64 (t449 * 4)))), .int .i64 t453] (by rfl) rfl rfl (by (try simp only [List.map_toArray, List.map_cons, List.map_nil]); first | done | rfl | (simp only [List.length_drop, List.length_take]; rfl)) ?_
               with_reducible refine (impl_TwiceIn.calls k t445 t446 t447 (wrap64 (100 + (wrap64 (t449 * 4)))) t453 t456 _ A22.out).mono ?_
               rintro e w40 ⟨rfl, hb⟩
               have HS3_ := (hb.cell (World.block_lt_of_cell? _ _ (hHeld.2.2.2.1))).trans (hHeld.2.2.2.1)
               have HS4_ := (hb.cell (World.block_lt_of_cell? _ _ (hHeld.2.2.2.2.1))).trans (hHeld.2.2.2.2.1)
               have HS5_ := (hb.cell (World.block_lt_of_cell? _ _ (hHeld.2.2.2.2.2.1))).trans (hHeld.2.2.2.2.2.1)
               have HS6_ := (hb.cell (World.block_lt_of_cell? _ _ (hHeld.2.2.2.2.2.2.1))).trans (hHeld.2.2.2.2.2.2.1)
               have HS7_ := (hb.cell (World.block_lt_of_cell? _ _ (hHeld.2.2.2.2.2.2.2.1))).trans (hHeld.2.2.2.2.2.2.2.1)
               have HS8_ := (hb.cell (World.block_lt_of_cell? _ _ (hHeld.2.2.2.2.2.2.2.2.1))).trans (hHeld.2.2.2.2.2.2.2.2.1)
               have HS9_ := (hb.cell (World.block_lt_of_cell? _ _ (hHeld.2.2.2.2.2.2.2.2.2.1))).trans (hHeld.2.2.2.2.2.2.2.2.2.1)
               have HS10_ := (hb.cell (World.block_lt_of_cell? _ _ (hHeld.2.2.2.2.2.2.2.2.2.2.1))).trans (hHeld.2.2.2.2.2.2.2.2.2.2.1)
               have HS11_ := (hb.cell (World.block_lt_of_cell? _ _ (hHeld.2.2.2.2.2.2.2.2.2.2.2))).trans (hHeld.2.2.2.2.2.2.2.2.2.2.2)
               refine ⟨_, rfl, ?_⟩
               have n0_ := Aside0.mk (Kd.R_below (by (with_reducible repeat (first | apply Kd.R_alloc | apply Kd.R_drewN | apply Kd.R_drew)); exact HO452.out) hb)
               have n1_ := Aside0.mk (blk_below (g := gb448) (o := .cells #[.int .i64 t445, .int .i64 t446, .int .i64 t447] 27 (0, 0)) (by (with_reducible repeat (first | refine blk_drewN ?_ _ | refine blk_drew ?_ | refine blk_alloc ?_ _)); exact BK448.out) hb)
               have n2_ := Aside0.mk (below_step (by repeat (first | (with_reducible first | exact HB.out | apply below_alloc | apply pw_below_drewN | apply below_drew1 | refine below_set ?_ GE448.out) | exact HB.out)) hb)
               clear HO452
               clear BK448
               clear HB
               have HO452 := n0_
               have BK448 := n1_
               have HB := n2_
               clear n0_ n1_ n2_
               (try clear hb)
               (try clear hb2)
               (try clear hk)
               (try clear hi)
               refine hK.out _ _ ⟨(blk_cell BK448.out 0).trans rfl, (blk_cell BK448.out 1).trans rfl, (blk_cell BK448.out 2).trans rfl, HS3_, HS4_, HS5_, HS6_, HS7_, HS8_, HS9_, HS10_, HS11_⟩ (fun hHeld => ?_)
               clear hK K
               refine norm_ (a' := ?_) ?_ ?_
               rotate_left
               ·show Act.put _ (some 44) _ = _
                simp only [Act.put, List.setIfInBounds_toArray, List.set_cons_zero, List.set_cons_succ, i64_w, i32_w]
                rfl
               refine pz_ (i := 10) (N := some 45) W11_ rfl rfl (any_of HT_.out (by kernel_rfl)) ?_
               refine pz_ (i := 11) (N := some 46) W12_ rfl rfl (any_of HT_.out (by kernel_rfl)) ?_
               refine pz_ (i := 12) (N := some 47) W13_ rfl rfl (any_of HT_.out (by kernel_rfl)) ?_
               refine pz_ (i := 13) (N := some 48) W14_ rfl rfl (any_of HT_.out (by kernel_rfl)) ?_
               refine pz_ (i := 14) (N := some 49) W15_ rfl rfl (any_of HT_.out (by kernel_rfl)) ?_
               refine pz_ (i := 15) (N := some 50) W16_ rfl rfl (any_of HT_.out (by kernel_rfl)) ?_
               refine take_ (i := 16) (N := some 51) (v := ?_) (a' := ?_) W17_ rfl rfl (take_ofW HT_.out HW_.out (by kernel_rfl)) (fun _ _ _ h => h) (Or.inl ⟨by rfl, ?_⟩) hHeld ?_ ?_
               rotate_left
               ·rintro w' ⟨s0, s1, s2, s3, s4, s5, s6, s7, s8, s9, s10, s11⟩
                go_simp
                with_reducible rfl
               rotate_left
               ·simp only [Act.put, List.setIfInBounds_toArray, List.set_cons_zero, List.set_cons_succ, i64_w, i32_w]
                rfl
               refine pz_ (i := 17) (N := some 52) W18_ rfl rfl (any_of HT_.out (by kernel_rfl)) ?_
               refine pz_ (i := 18) (N := some 53) W19_ rfl rfl (any_of HT_.out (by kernel_rfl)) ?_
               refine pz_ (i := 19) (N := some 54) W20_ rfl rfl (any_of HT_.out (by kernel_rfl)) ?_
               refine pz_ (i := 20) (N := some 55) W21_ rfl rfl (any_of HT_.out (by kernel_rfl)) ?_
               refine take_ (i := 21) (N := some 56) (v := ?_) (a' := ?_) W22_ rfl rfl (take_ofW HT_.out HW_.out (by kernel_rfl)) (fun _ _ _ h => h) (Or.inl ⟨by rfl, ?_⟩) hHeld ?_ ?_
               rotate_left
               ·rintro w' ⟨s0, s1, s2, s3, s4, s5, s6, s7, s8, s9, s10, s11⟩
                go_simp
                with_reducible rfl
               rotate_left
               ·simp only [Act.put, List.setIfInBounds_toArray, List.set_cons_zero, List.set_cons_succ, i64_w, i32_w]
                rfl
               refine pz_ (i := 22) (N := some 57) W23_ rfl rfl (any_of HT_.out (by kernel_rfl)) ?_
               refine pz_ (i := 23) (N := some 58) W24_ rfl rfl (any_of HT_.out (by kernel_rfl)) ?_
               refine pz_ (i := 24) (N := some 59) W25_ rfl rfl (any_of HT_.out (by kernel_rfl)) ?_
               refine pz_ (i := 25) (N := some 60) W26_ rfl rfl (any_of HT_.out (by kernel_rfl)) ?_
               refine pz_ (i := 26) (N := some 61) W27_ rfl rfl (any_of HT_.out (by kernel_rfl)) ?_
               refine take_ (i := 27) (N := some 62) (v := ?_) (a' := ?_) W28_ rfl rfl (take_ofW HT_.out HW_.out (by kernel_rfl)) (fun _ _ _ h => h) (Or.inl ⟨by rfl, ?_⟩) hHeld ?_ ?_
               rotate_left
               ·rintro w' ⟨s0, s1, s2, s3, s4, s5, s6, s7, s8, s9, s10, s11⟩
                go_simp
                with_reducible rfl
               rotate_left
               ·simp only [Act.put, List.setIfInBounds_toArray, List.set_cons_zero, List.set_cons_succ, i64_w, i32_w]
                rfl
               refine pz_ (i := 28) (N := some 63) W29_ rfl rfl (any_of HT_.out (by kernel_rfl)) ?_
               refine pz_ (i := 29) (N := some 64) W30_ rfl rfl (any_of HT_.out (by kernel_rfl)) ?_
               refine pz_ (i := 30) (N := some 65) W31_ rfl rfl (any_of HT_.out (by kernel_rfl)) ?_
               refine pz_ (i := 31) (N := some 66) W32_ rfl rfl (any_of HT_.out (by kernel_rfl)) ?_
               refine pz_ (i := 32) (N := some 67) W33_ rfl rfl (any_of HT_.out (by kernel_rfl)) ?_
               refine pz_ (i := 34) (N := some 69) W34_ rfl rfl (any_of HT_.out (by kernel_rfl)) ?_
               refine pz_ (i := 35) (N := some 70) W35_ rfl rfl (any_of HT_.out (by kernel_rfl)) ?_
               refine take_ (i := 33) (N := some 68) (v := ?_) (a' := ?_) W36_ rfl rfl (take_ofW HT_.out HW_.out (by kernel_rfl)) (fun _ _ _ h => h) (Or.inl ⟨by rfl, ?_⟩) hHeld ?_ ?_
               rotate_left
               ·rintro w' ⟨s0, s1, s2, s3, s4, s5, s6, s7, s8, s9, s10, s11⟩
                go_simp
                with_reducible rfl
               rotate_left
               ·simp only [Act.put, List.setIfInBounds_toArray, List.set_cons_zero, List.set_cons_succ, i64_w, i32_w]
                rfl
               refine take_ (i := 36) (N := some 71) (v := ?_) (a' := ?_) W37_ rfl rfl (take_ofW HT_.out HW_.out (by kernel_rfl)) (fun _ _ _ h => h) (Or.inl ⟨by rfl, ?_⟩) hHeld ?_ ?_
               rotate_left
               ·rintro w' ⟨s0, s1, s2, s3, s4, s5, s6, s7, s8, s9, s10, s11⟩
                go_simp
                with_reducible rfl
               rotate_left
               ·simp only [Act.put, List.setIfInBounds_toArray, List.set_cons_zero, List.set_cons_succ, i64_w, i32_w]
                rfl
               refine pz_ (i := 37) (N := some 72) W38_ rfl rfl (any_of HT_.out (by kernel_rfl)) ?_
               refine pz_ (i := 38) (N := some 73) W39_ rfl rfl (any_of HT_.out (by kernel_rfl)) ?_
               refine pz_ (i := 39) (N := some 74) W40_ rfl rfl (any_of HT_.out (by kernel_rfl)) ?_
               refine pz_ (i := 40) (N := some 75) W41_ rfl rfl (any_of HT_.out (by kernel_rfl)) ?_
               refine pz_ (i := 41) (N := some 76) W42_ rfl rfl (any_of HT_.out (by kernel_rfl)) ?_
               refine pz_ (i := 43) (N := some 78) W60_ rfl rfl (any_of HT_.out (by kernel_rfl)) ?_
               refine pz_ (i := 44) (N := some 79) W61_ rfl rfl (any_of HT_.out (by kernel_rfl)) ?_
               refine take_ (i := 42) (N := some 77) (v := ?_) (a' := ?_) W45_ rfl rfl (take_ofW HT_.out HW_.out (by kernel_rfl)) (fun _ _ _ h => h) (Or.inl ⟨by rfl, ?_⟩) hHeld ?_ ?_
               rotate_left
               ·rintro w' ⟨s0, s1, s2, s3, s4, s5, s6, s7, s8, s9, s10, s11⟩
                go_simp
                with_reducible rfl
               rotate_left
               ·simp only [Act.put, List.setIfInBounds_toArray, List.set_cons_zero, List.set_cons_succ, i64_w, i32_w]
                rfl
               refine take_ (i := 45) (N := some 80) (v := ?_) (a' := ?_) W46_ rfl rfl (take_ofW HT_.out HW_.out (by kernel_rfl)) (fun _ _ _ h => h) (Or.inl ⟨by rfl, ?_⟩) hHeld ?_ ?_
               rotate_left
               ·rintro w' ⟨s0, s1, s2, s3, s4, s5, s6, s7, s8, s9, s10, s11⟩
                go_simp
                with_reducible rfl
               rotate_left
               ·simp only [Act.put, List.setIfInBounds_toArray, List.set_cons_zero, List.set_cons_succ, i64_w, i32_w]
                rfl
               refine pz_ (i := 46) (N := some 81) W47_ rfl rfl (any_of HT_.out (by kernel_rfl)) ?_
               refine pz_ (i := 47) (N := some 82) W48_ rfl rfl (any_of HT_.out (by kernel_rfl)) ?_
               refine pz_ (i := 48) (N := some 83) W49_ rfl rfl (any_of HT_.out (by kernel_rfl)) ?_
               refine pz_ (i := 49) (N := some 84) W50_ rfl rfl (any_of HT_.out (by kernel_rfl)) ?_
               refine pz_ (i := 50) (N := some 85) W51_ rfl rfl (any_of HT_.out (by kernel_rfl)) ?_
               refine pz_ (i := 52) (N := some 87) W62_ rfl rfl (any_of HT_.out (by kernel_rfl)) ?_
               refine pz_ (i := 53) (N := some 88) W63_ rfl rfl (any_of HT_.out (by kernel_rfl)) ?_
               refine take_ (i := 51) (N := some 86) (v := ?_) (a' := ?_) W54_ rfl rfl (take_ofW HT_.out HW_.out (by kernel_rfl)) (fun _ _ _ h => h) (Or.inl ⟨by rfl, ?_⟩) hHeld ?_ ?_
               rotate_left
               ·rintro w' ⟨s0, s1, s2, s3, s4, s5, s6, s7, s8, s9, s10, s11⟩
                go_simp
                with_reducible rfl
               rotate_left
               ·simp only [Act.put, List.setIfInBounds_toArray, List.set_cons_zero, List.set_cons_succ, i64_w, i32_w]
                rfl
               refine take_ (i := 54) (N := some 89) (v := ?_) (a' := ?_) W55_ rfl rfl (take_ofW HT_.out HW_.out (by kernel_rfl)) (fun _ _ _ h => h) (Or.inl ⟨by rfl, ?_⟩) hHeld ?_ ?_
               rotate_left
               ·rintro w' ⟨s0, s1, s2, s3, s4, s5, s6, s7, s8, s9, s10, s11⟩
                go_simp
                with_reducible rfl
               rotate_left
               ·simp only [Act.put, List.setIfInBounds_toArray, List.set_cons_zero, List.set_cons_succ, i64_w, i32_w]
                rfl
               refine pz_ (i := 55) (N := some 90) W56_ rfl rfl (any_of HT_.out (by kernel_rfl)) ?_
               refine pz_ (i := 56) (N := some 91) W57_ rfl rfl (any_of HT_.out (by kernel_rfl)) ?_
               refine pz_ (i := 57) (N := some 92) W58_ rfl rfl (any_of HT_.out (by kernel_rfl)) ?_
               refine pz_ (i := 58) (N := some 93) W59_ rfl rfl (any_of HT_.out (by kernel_rfl)) ?_
               refine done_ (done_of HT_.out (by kernel_rfl)) ?_
               try go_wp2
               go_meet
               case rel => exact ⟨_, ((t454 != ((rd t450 2) != (rd t450 3)))), (by first | rfl | (simp; done) | (simp [*]; done)), H', ⟨by first | omega | exact Nat.le_refl _⟩, ⟨by (with_reducible repeat (first | apply Kd.R_alloc | apply Kd.R_drewN | apply Kd.R_drew)); exact HO452.out⟩, ⟨by (with_reducible repeat (first | refine blk_drewN ?_ _ | refine blk_drew ?_ | refine blk_alloc ?_ _)); exact BK448.out⟩, ⟨by repeat (first | (with_reducible first | exact HB.out | apply below_alloc | apply pw_below_drewN | apply below_drew1 | refine below_set ?_ GE448.out) | exact HB.out)⟩⟩
           ·as_aux_lemma =>
             rw [if_neg c29] at H
             have c29b0 : decide (0 < (rd t450 3)) = false := decide_eq_false c29
             clear c29
             have H' := Aside0.mk H
             clear H
             try go_wp2
             have n0_ := Aside0.mk (Kd.R_drew HO452.out)
             have n1_ := Aside0.mk (blk_drew BK448.out)
             have n2_ := Aside0.mk (below_drew1 HB.out)
             clear HO452
             clear BK448
             clear HB
             have HO452 := n0_
             have BK448 := n1_
             have HB := n2_
             clear n0_ n1_ n2_
             have p457 : 0 ≤ (1 : Int) := (by omega)
             have q457 : 1 < (t450.length : Int) := of_decide_eq_true (by first | (with_reducible assumption) | assumption)
             obtain ⟨ad457, e457, hx457_0⟩ := Kd.at_int (Kd.R_reads' HO452.out).2.2 1 p457 q457
             cases e457
             (try simp only [show (1 : Int).toNat = 1 from rfl, Nat.reduceMul, Nat.reduceEqDiff, Go.Addr.add, ↓reduceIte] at hx457_0)
             have qi457 : (1 < t450.length) = True := eq_true (by omega)
             (try rw [show ((1 : Int)).toNat = 1 from rfl] at hx457_0)
             replace p457 := eq_true p457
             replace q457 := eq_true q457
             have p458 : 0 ≤ (2 : Int) := (by omega)
             have q458 : 2 < (t450.length : Int) := of_decide_eq_true (by first | (with_reducible assumption) | assumption)
             obtain ⟨ad458, e458, hx458_0⟩ := Kd.at_int (Kd.R_reads' HO452.out).2.2 2 p458 q458
             obtain rfl : ad457 = ad458 := (by injection e458)
             (try simp only [show (2 : Int).toNat = 2 from rfl, Nat.reduceMul, Nat.reduceEqDiff, Go.Addr.add, ↓reduceIte] at hx458_0)
             have qi458 : (2 < t450.length) = True := eq_true (by omega)
             (try rw [show ((2 : Int)).toNat = 2 from rfl] at hx458_0)
             replace p458 := eq_true p458
             replace q458 := eq_true q458
             have p459 : 0 ≤ (3 : Int) := (by omega)
             have q459 : 3 < (t450.length : Int) := of_decide_eq_true (by first | (with_reducible assumption) | assumption)
             obtain ⟨ad459, e459, hx459_0⟩ := Kd.at_int (Kd.R_reads' HO452.out).2.2 3 p459 q459
             obtain rfl : ad457 = ad459 := (by injection e459)
             (try simp only [show (3 : Int).toNat = 3 from rfl, Nat.reduceMul, Nat.reduceEqDiff, Go.Addr.add, ↓reduceIte] at hx459_0)
             have qi459 : (3 < t450.length) = True := eq_true (by omega)
             (try rw [show ((3 : Int)).toNat = 3 from rfl] at hx459_0)
             replace p459 := eq_true p459
             replace q459 := eq_true q459
             refine start_ (n := 59) (S := fun w' => w'.cell? ⟨gb448, 0, none⟩ = some (.int .i64 t445) ∧ w'.cell? ⟨gb448, 1, none⟩ = some (.int .i64 t446) ∧ w'.cell? ⟨gb448, 2, none⟩ = some (.int .i64 t447) ∧ w'.cell? ⟨ad457.block, ad457.off + 1, none⟩ = some (.int .i64 (rd t450 1)) ∧ w'.cell? ⟨ad457.block, ad457.off + 2, none⟩ = some (.int .i64 (rd t450 2)) ∧ w'.cell? ⟨ad457.block, ad457.off + 3, none⟩ = some (.int .i64 (rd t450 3))) (ds := []) W0_ (by kernel_rfl) rfl rfl ⟨(blk_cell BK448.out 0).trans rfl, (blk_cell BK448.out 1).trans rfl, (blk_cell BK448.out 2).trans rfl, hx457_0, hx458_0, hx459_0⟩ (fun hHeld => ?_); refine with_tabW laws_FnWeighings.tab10 laws_FnWeighings.bits10 (fun HT_ HW_ => ?_)
             generalize w19.drew = w41 at HO452 BK448 HB hx457_0 hx458_0 hx459_0 hHeld ⊢
             refine pz_ (i := 1) (N := some 36) W1_ rfl rfl (any_of HT_.out (by kernel_rfl)) ?_
             refine pz_ (i := 2) (N := some 37) W2_ rfl rfl (any_of HT_.out (by kernel_rfl)) ?_
             refine take_ (i := 0) (N := some 35) (v := ?_) (a' := ?_) W3_ rfl rfl (take_ofW HT_.out HW_.out (by kernel_rfl)) (fun _ _ _ h => h) (Or.inl ⟨by rfl, ?_⟩) hHeld ?_ ?_
             rotate_left
             ·rintro w' ⟨s0, s1, s2, s3, s4, s5⟩
              go_simp
              with_reducible rfl
             rotate_left
             ·simp only [Act.put, List.setIfInBounds_toArray, List.set_cons_zero, List.set_cons_succ, i64_w, i32_w]
              rfl
             refine one_ (i := 3) (N := some 38) W4_ rfl rfl (one_of HT_.out (by kernel_rfl)) (by decide) (fun K hK => ?_)
             refine goes_ Try.func13 (by kernel_rfl) rfl #[.agg #[.int .i64 t445, .int .i64 t446, .int .i64 t447], .int .i64 (wrap64 (100 + (wrap64 (t449 * 4)))), .int .i64 t453] (by rfl) rfl rfl (by (try simp only [List.map_toArray, List.map_cons, List.map_nil]); first | done | rfl | (simp only [List.length_drop, List.length_take]; rfl)) ?_
             with_reducible refine (impl_MissingPart.calls k t445 t446 t447 (wrap64 (100 + (wrap64 (t449 * 4)))) t453 t455 _ A20.out).mono ?_
             rintro e w42 ⟨rfl, hb⟩
             have HS3_ := (hb.cell (World.block_lt_of_cell? _ _ (hHeld.2.2.2.1))).trans (hHeld.2.2.2.1)
             have HS4_ := (hb.cell (World.block_lt_of_cell? _ _ (hHeld.2.2.2.2.1))).trans (hHeld.2.2.2.2.1)
             have HS5_ := (hb.cell (World.block_lt_of_cell? _ _ (hHeld.2.2.2.2.2))).trans (hHeld.2.2.2.2.2)
             refine ⟨_, rfl, ?_⟩
             have n0_ := Aside0.mk (Kd.R_below (by (with_reducible repeat (first | apply Kd.R_alloc | apply Kd.R_drewN | apply Kd.R_drew)); exact HO452.out) hb)
             have n1_ := Aside0.mk (blk_below (g := gb448) (o := .cells #[.int .i64 t445, .int .i64 t446, .int .i64 t447] 27 (0, 0)) (by (with_reducible repeat (first | refine blk_drewN ?_ _ | refine blk_drew ?_ | refine blk_alloc ?_ _)); exact BK448.out) hb)
             have n2_ := Aside0.mk (below_step (by repeat (first | (with_reducible first | exact HB.out | apply below_alloc | apply pw_below_drewN | apply below_drew1 | refine below_set ?_ GE448.out) | exact HB.out)) hb)
             clear HO452
             clear BK448
             clear HB
             have HO452 := n0_
             have BK448 := n1_
             have HB := n2_
             clear n0_ n1_ n2_
             (try clear hb)
             (try clear hb2)
             (try clear hk)
             (try clear hi)
             refine hK.out _ _ ⟨(blk_cell BK448.out 0).trans rfl, (blk_cell BK448.out 1).trans rfl, (blk_cell BK448.out 2).trans rfl, HS3_, HS4_, HS5_⟩ (fun hHeld => ?_)
             clear hK K
             refine norm_ (a' := ?_) ?_ ?_
             rotate_left
             ·show Act.put _ (some 38) _ = _
              simp only [Act.put, List.setIfInBounds_toArray, List.set_cons_zero, List.set_cons_succ, i64_w, i32_w]
              rfl
             refine pz_ (i := 4) (N := some 39) W5_ rfl rfl (any_of HT_.out (by kernel_rfl)) ?_
             refine pz_ (i := 5) (N := some 40) W6_ rfl rfl (any_of HT_.out (by kernel_rfl)) ?_
             refine pz_ (i := 7) (N := some 42) W7_ rfl rfl (any_of HT_.out (by kernel_rfl)) ?_
             refine pz_ (i := 8) (N := some 43) W8_ rfl rfl (any_of HT_.out (by kernel_rfl)) ?_
             refine take_ (i := 6) (N := some 41) (v := ?_) (a' := ?_) W9_ rfl rfl (take_ofW HT_.out HW_.out (by kernel_rfl)) (fun _ _ _ h => h) (Or.inl ⟨by rfl, ?_⟩) hHeld ?_ ?_
             rotate_left
             ·rintro w' ⟨s0, s1, s2, s3, s4, s5⟩
              go_simp
              with_reducible rfl
             rotate_left
             ·simp only [Act.put, List.setIfInBounds_toArray, List.set_cons_zero, List.set_cons_succ, i64_w, i32_w]
              rfl
             refine one_ (i := 9) (N := some 44) W10_ rfl rfl (one_of HT_.out (by kernel_rfl)) (by decide) (fun K hK => ?_)
             refine goes_ Try.func15 (by kernel_rfl) rfl #[.agg #[.int .i64 t445, .int .i64 t446, .int .i64 t447], .int .i64 (wrap64 (100 + (wrap64 (t449 * 4)))), .int .i64 t453] (by rfl) rfl rfl (by (try simp only [List.map_toArray, List.map_cons, List.map_nil]); first | done | rfl | (simp only [List.length_drop, List.length_take]; rfl)) ?_
             with_reducible refine (impl_TwiceIn.calls k t445 t446 t447 (wrap64 (100 + (wrap64 (t449 * 4)))) t453 t456 _ A22.out).mono ?_
             rintro e w43 ⟨rfl, hb⟩
             have HS3_ := (hb.cell (World.block_lt_of_cell? _ _ (hHeld.2.2.2.1))).trans (hHeld.2.2.2.1)
             have HS4_ := (hb.cell (World.block_lt_of_cell? _ _ (hHeld.2.2.2.2.1))).trans (hHeld.2.2.2.2.1)
             have HS5_ := (hb.cell (World.block_lt_of_cell? _ _ (hHeld.2.2.2.2.2))).trans (hHeld.2.2.2.2.2)
             refine ⟨_, rfl, ?_⟩
             have n0_ := Aside0.mk (Kd.R_below (by (with_reducible repeat (first | apply Kd.R_alloc | apply Kd.R_drewN | apply Kd.R_drew)); exact HO452.out) hb)
             have n1_ := Aside0.mk (blk_below (g := gb448) (o := .cells #[.int .i64 t445, .int .i64 t446, .int .i64 t447] 27 (0, 0)) (by (with_reducible repeat (first | refine blk_drewN ?_ _ | refine blk_drew ?_ | refine blk_alloc ?_ _)); exact BK448.out) hb)
             have n2_ := Aside0.mk (below_step (by repeat (first | (with_reducible first | exact HB.out | apply below_alloc | apply pw_below_drewN | apply below_drew1 | refine below_set ?_ GE448.out) | exact HB.out)) hb)
             clear HO452
             clear BK448
             clear HB
             have HO452 := n0_
             have BK448 := n1_
             have HB := n2_
             clear n0_ n1_ n2_
             (try clear hb)
             (try clear hb2)
             (try clear hk)
             (try clear hi)
             refine hK.out _ _ ⟨(blk_cell BK448.out 0).trans rfl, (blk_cell BK448.out 1).trans rfl, (blk_cell BK448.out 2).trans rfl, HS3_, HS4_, HS5_⟩ (fun hHeld => ?_)
             clear hK K
             refine norm_ (a' := ?_) ?_ ?_
             rotate_left
             ·show Act.put _ (some 44) _ = _
              simp only [Act.put, List.setIfInBounds_toArray, List.set_cons_zero, List.set_cons_succ, i64_w, i32_w]
              rfl
             refine pz_ (i := 10) (N := some 45) W11_ rfl rfl (any_of HT_.out (by kernel_rfl)) ?_
             refine pz_ (i := 11) (N := some 46) W12_ rfl rfl (any_of HT_.out (by kernel_rfl)) ?_
             refine pz_ (i := 12) (N := some 47) W13_ rfl rfl (any_of HT_.out (by kernel_rfl)) ?_
             refine pz_ (i := 13) (N := some 48) W14_ rfl rfl (any_of HT_.out (by kernel_rfl)) ?_
             refine pz_ (i := 14) (N := some 49) W15_ rfl rfl (any_of HT_.out (by kernel_rfl)) ?_
             refine pz_ (i := 15) (N := some 50) W16_ rfl rfl (any_of HT_.out (by kernel_rfl)) ?_
             refine take_ (i := 16) (N := some 51) (v := ?_) (a' := ?_) W17_ rfl rfl (take_ofW HT_.out HW_.out (by kernel_rfl)) (fun _ _ _ h => h) (Or.inl ⟨by rfl, ?_⟩) hHeld ?_ ?_
             rotate_left
             ·rintro w' ⟨s0, s1, s2, s3, s4, s5⟩
              go_simp
              with_reducible rfl
             rotate_left
             ·simp only [Act.put, List.setIfInBounds_toArray, List.set_cons_zero, List.set_cons_succ, i64_w, i32_w]
              rfl
             refine pz_ (i := 17) (N := some 52) W18_ rfl rfl (any_of HT_.out (by kernel_rfl)) ?_
             refine pz_ (i := 18) (N := some 53) W19_ rfl rfl (any_of HT_.out (by kernel_rfl)) ?_
             refine pz_ (i := 19) (N := some 54) W20_ rfl rfl (any_of HT_.out (by kernel_rfl)) ?_
             refine pz_ (i := 20) (N := some 55) W21_ rfl rfl (any_of HT_.out (by kernel_rfl)) ?_
             refine take_ (i := 21) (N := some 56) (v := ?_) (a' := ?_) W22_ rfl rfl (take_ofW HT_.out HW_.out (by kernel_rfl)) (fun _ _ _ h => h) (Or.inl ⟨by rfl, ?_⟩) hHeld ?_ ?_
             rotate_left
             ·rintro w' ⟨s0, s1, s2, s3, s4, s5⟩
              go_simp
              with_reducible rfl
             rotate_left
             ·simp only [Act.put, List.setIfInBounds_toArray, List.set_cons_zero, List.set_cons_succ, i64_w, i32_w]
              rfl
             refine pz_ (i := 22) (N := some 57) W23_ rfl rfl (any_of HT_.out (by kernel_rfl)) ?_
             refine pz_ (i := 23) (N := some 58) W24_ rfl rfl (any_of HT_.out (by kernel_rfl)) ?_
             refine pz_ (i := 24) (N := some 59) W25_ rfl rfl (any_of HT_.out (by kernel_rfl)) ?_
             refine pz_ (i := 25) (N := some 60) W26_ rfl rfl (any_of HT_.out (by kernel_rfl)) ?_
             refine pz_ (i := 26) (N := some 61) W27_ rfl rfl (any_of HT_.out (by kernel_rfl)) ?_
             refine take_ (i := 27) (N := some 62) (v := ?_) (a' := ?_) W28_ rfl rfl (take_ofW HT_.out HW_.out (by kernel_rfl)) (fun _ _ _ h => h) (Or.inl ⟨by rfl, ?_⟩) hHeld ?_ ?_
             rotate_left
             ·rintro w' ⟨s0, s1, s2, s3, s4, s5⟩
              go_simp
              with_reducible rfl
             rotate_left
             ·simp only [Act.put, List.setIfInBounds_toArray, List.set_cons_zero, List.set_cons_succ, i64_w, i32_w]
              rfl
             refine pz_ (i := 28) (N := some 63) W29_ rfl rfl (any_of HT_.out (by kernel_rfl)) ?_
             refine pz_ (i := 29) (N := some 64) W30_ rfl rfl (any_of HT_.out (by kernel_rfl)) ?_
             refine pz_ (i := 30) (N := some 65) W31_ rfl rfl (any_of HT_.out (by kernel_rfl)) ?_
             refine pu_ (i := 31) (N := some 66) W32_ rfl rfl (any_of HT_.out (by kernel_rfl)) ?_
             refine pu_ (i := 32) (N := some 67) W33_ rfl rfl (any_of HT_.out (by kernel_rfl)) ?_
             refine pu_ (i := 33) (N := some 68) W64_ rfl rfl (any_of HT_.out (by kernel_rfl)) ?_
             refine pu_ (i := 34) (N := some 69) W65_ rfl rfl (any_of HT_.out (by kernel_rfl)) ?_
             refine pu_ (i := 35) (N := some 70) W36_ rfl rfl (any_of HT_.out (by kernel_rfl)) ?_
             refine pu_ (i := 36) (N := some 71) W37_ rfl rfl (any_of HT_.out (by kernel_rfl)) ?_
             refine pu_ (i := 37) (N := some 72) W38_ rfl rfl (any_of HT_.out (by kernel_rfl)) ?_
             refine pz_ (i := 38) (N := some 73) W39_ rfl rfl (any_of HT_.out (by kernel_rfl)) ?_
             refine pz_ (i := 39) (N := some 74) W40_ rfl rfl (any_of HT_.out (by kernel_rfl)) ?_
             refine pu_ (i := 40) (N := some 75) W41_ rfl rfl (any_of HT_.out (by kernel_rfl)) ?_
             refine pu_ (i := 41) (N := some 76) W42_ rfl rfl (any_of HT_.out (by kernel_rfl)) ?_
             refine pu_ (i := 42) (N := some 77) W43_ rfl rfl (any_of HT_.out (by kernel_rfl)) ?_
             refine pu_ (i := 43) (N := some 78) W44_ rfl rfl (any_of HT_.out (by kernel_rfl)) ?_
             refine pu_ (i := 44) (N := some 79) W45_ rfl rfl (any_of HT_.out (by kernel_rfl)) ?_
             refine pu_ (i := 45) (N := some 80) W46_ rfl rfl (any_of HT_.out (by kernel_rfl)) ?_
             refine pu_ (i := 46) (N := some 81) W47_ rfl rfl (any_of HT_.out (by kernel_rfl)) ?_
             refine pz_ (i := 47) (N := some 82) W48_ rfl rfl (any_of HT_.out (by kernel_rfl)) ?_
             refine pz_ (i := 48) (N := some 83) W49_ rfl rfl (any_of HT_.out (by kernel_rfl)) ?_
             refine pu_ (i := 49) (N := some 84) W50_ rfl rfl (any_of HT_.out (by kernel_rfl)) ?_
             refine pu_ (i := 50) (N := some 85) W51_ rfl rfl (any_of HT_.out (by kernel_rfl)) ?_
             refine pu_ (i := 51) (N := some 86) W52_ rfl rfl (any_of HT_.out (by kernel_rfl)) ?_
             refine pu_ (i := 52) (N := some 87) W53_ rfl rfl (any_of HT_.out (by kernel_rfl)) ?_
             refine pu_ (i := 53) (N := some 88) W54_ rfl rfl (any_of HT_.out (by kernel_rfl)) ?_
             refine pu_ (i := 54) (N := some 89) W55_ rfl rfl (any_of HT_.out (by kernel_rfl)) ?_
             refine pu_ (i := 55) (N := some 90) W56_ rfl rfl (any_of HT_.out (by kernel_rfl)) ?_
             refine pz_ (i := 56) (N := some 91) W57_ rfl rfl (any_of HT_.out (by kernel_rfl)) ?_
             refine pz_ (i := 57) (N := some 92) W58_ rfl rfl (any_of HT_.out (by kernel_rfl)) ?_
             refine pz_ (i := 58) (N := some 93) W59_ rfl rfl (any_of HT_.out (by kernel_rfl)) ?_
             refine done_ (done_of HT_.out (by kernel_rfl)) ?_
             try go_wp2
             go_meet
             case rel => exact ⟨_, ((t454 != false)), (by first | rfl | (simp; done) | (simp [*]; done)), H', ⟨by first | omega | exact Nat.le_refl _⟩, ⟨by (with_reducible repeat (first | apply Kd.R_alloc | apply Kd.R_drewN | apply Kd.R_drew)); exact HO452.out⟩, ⟨by (with_reducible repeat (first | refine blk_drewN ?_ _ | refine blk_drew ?_ | refine blk_alloc ?_ _)); exact BK448.out⟩, ⟨by repeat (first | (with_reducible first | exact HB.out | apply below_alloc | apply pw_below_drewN | apply below_drew1 | refine below_set ?_ GE448.out) | exact HB.out)⟩⟩
          ·rw [if_neg c28] at H
           exact absurd H (by simp)
         ·as_aux_lemma =>
           rw [if_neg c27] at H
           have c27b0 : decide (0 < (rd t450 2)) = false := decide_eq_false c27
           clear c27
           have H' := Aside0.mk H
           clear H
           try go_wp2
           have n0_ := Aside0.mk (Kd.R_drew HO452.out)
           have n1_ := Aside0.mk (blk_drew BK448.out)
           have n2_ := Aside0.mk (below_drew1 HB.out)
           clear HO452
           clear BK448
           clear HB
           have HO452 := n0_
           have BK448 := n1_
           have HB := n2_
           clear n0_ n1_ n2_
           have p457 : 0 ≤ (1 : Int) := (by omega)
           have q457 : 1 < (t450.length : Int) := of_decide_eq_true (by first | (with_reducible assumption) | assumption)
           obtain ⟨ad457, e457, hx457_0⟩ := Kd.at_int (Kd.R_reads' HO452.out).2.2 1 p457 q457
           cases e457
           (try simp only [show (1 : Int).toNat = 1 from rfl, Nat.reduceMul, Nat.reduceEqDiff, Go.Addr.add, ↓reduceIte] at hx457_0)
           have qi457 : (1 < t450.length) = True := eq_true (by omega)
           (try rw [show ((1 : Int)).toNat = 1 from rfl] at hx457_0)
           replace p457 := eq_true p457
           replace q457 := eq_true q457
           have p458 : 0 ≤ (2 : Int) := (by omega)
           have q458 : 2 < (t450.length : Int) := of_decide_eq_true (by first | (with_reducible assumption) | assumption)
           obtain ⟨ad458, e458, hx458_0⟩ := Kd.at_int (Kd.R_reads' HO452.out).2.2 2 p458 q458
           obtain rfl : ad457 = ad458 := (by injection e458)
           (try simp only [show (2 : Int).toNat = 2 from rfl, Nat.reduceMul, Nat.reduceEqDiff, Go.Addr.add, ↓reduceIte] at hx458_0)
           have qi458 : (2 < t450.length) = True := eq_true (by omega)
           (try rw [show ((2 : Int)).toNat = 2 from rfl] at hx458_0)
           replace p458 := eq_true p458
           replace q458 := eq_true q458
           refine start_ (n := 59) (S := fun w' => w'.cell? ⟨gb448, 0, none⟩ = some (.int .i64 t445) ∧ w'.cell? ⟨gb448, 1, none⟩ = some (.int .i64 t446) ∧ w'.cell? ⟨gb448, 2, none⟩ = some (.int .i64 t447) ∧ w'.cell? ⟨ad457.block, ad457.off + 1, none⟩ = some (.int .i64 (rd t450 1)) ∧ w'.cell? ⟨ad457.block, ad457.off + 2, none⟩ = some (.int .i64 (rd t450 2))) (ds := []) W0_ (by kernel_rfl) rfl rfl ⟨(blk_cell BK448.out 0).trans rfl, (blk_cell BK448.out 1).trans rfl, (blk_cell BK448.out 2).trans rfl, hx457_0, hx458_0⟩ (fun hHeld => ?_); refine with_tabW laws_FnWeighings.tab10 laws_FnWeighings.bits10 (fun HT_ HW_ => ?_)
           generalize w19.drew = w44 at HO452 BK448 HB hx457_0 hx458_0 hHeld ⊢
           refine pz_ (i := 1) (N := some 36) W1_ rfl rfl (any_of HT_.out (by kernel_rfl)) ?_
           refine pz_ (i := 2) (N := some 37) W2_ rfl rfl (any_of HT_.out (by kernel_rfl)) ?_
           refine take_ (i := 0) (N := some 35) (v := ?_) (a' := ?_) W3_ rfl rfl (take_ofW HT_.out HW_.out (by kernel_rfl)) (fun _ _ _ h => h) (Or.inl ⟨by rfl, ?_⟩) hHeld ?_ ?_
           rotate_left
           ·rintro w' ⟨s0, s1, s2, s3, s4⟩
            go_simp
            with_reducible rfl
           rotate_left
           ·simp only [Act.put, List.setIfInBounds_toArray, List.set_cons_zero, List.set_cons_succ, i64_w, i32_w]
            rfl
           refine one_ (i := 3) (N := some 38) W4_ rfl rfl (one_of HT_.out (by kernel_rfl)) (by decide) (fun K hK => ?_)
           refine goes_ Try.func13 (by kernel_rfl) rfl #[.agg #[.int .i64 t445, .int .i64 t446, .int .i64 t447], .int .i64 (wrap64 (100 + (wrap64 (t449 * 4)))), .int .i64 t453] (by rfl) rfl rfl (by (try simp only [List.map_toArray, List.map_cons, List.map_nil]); first | done | rfl | (simp only [List.length_drop, List.length_take]; rfl)) ?_
           with_reducible refine (impl_MissingPart.calls k t445 t446 t447 (wrap64 (100 + (wrap64 (t449 * 4)))) t453 t455 _ A20.out).mono ?_
           rintro e w45 ⟨rfl, hb⟩
           have HS3_ := (hb.cell (World.block_lt_of_cell? _ _ (hHeld.2.2.2.1))).trans (hHeld.2.2.2.1)
           have HS4_ := (hb.cell (World.block_lt_of_cell? _ _ (hHeld.2.2.2.2))).trans (hHeld.2.2.2.2)
           refine ⟨_, rfl, ?_⟩
           have n0_ := Aside0.mk (Kd.R_below (by (with_reducible repeat (first | apply Kd.R_alloc | apply Kd.R_drewN | apply Kd.R_drew)); exact HO452.out) hb)
           have n1_ := Aside0.mk (blk_below (g := gb448) (o := .cells #[.int .i64 t445, .int .i64 t446, .int .i64 t447] 27 (0, 0)) (by (with_reducible repeat (first | refine blk_drewN ?_ _ | refine blk_drew ?_ | refine blk_alloc ?_ _)); exact BK448.out) hb)
           have n2_ := Aside0.mk (below_step (by repeat (first | (with_reducible first | exact HB.out | apply below_alloc | apply pw_below_drewN | apply below_drew1 | refine below_set ?_ GE448.out) | exact HB.out)) hb)
           clear HO452
           clear BK448
           clear HB
           have HO452 := n0_
           have BK448 := n1_
           have HB := n2_
           clear n0_ n1_ n2_
           (try clear hb)
           (try clear hb2)
           (try clear hk)
           (try clear hi)
           refine hK.out _ _ ⟨(blk_cell BK448.out 0).trans rfl, (blk_cell BK448.out 1).trans rfl, (blk_cell BK448.out 2).trans rfl, HS3_, HS4_⟩ (fun hHeld => ?_)
           clear hK K
           refine norm_ (a' := ?_) ?_ ?_
           rotate_left
           ·show Act.put _ (some 38) _ = _
            simp only [Act.put, List.setIfInBounds_toArray, List.set_cons_zero, List.set_cons_succ, i64_w, i32_w]
            rfl
           refine pz_ (i := 4) (N := some 39) W5_ rfl rfl (any_of HT_.out (by kernel_rfl)) ?_
           refine pz_ (i := 5) (N := some 40) W6_ rfl rfl (any_of HT_.out (by kernel_rfl)) ?_
           refine pz_ (i := 7) (N := some 42) W7_ rfl rfl (any_of HT_.out (by kernel_rfl)) ?_
           refine pz_ (i := 8) (N := some 43) W8_ rfl rfl (any_of HT_.out (by kernel_rfl)) ?_
           refine take_ (i := 6) (N := some 41) (v := ?_) (a' := ?_) W9_ rfl rfl (take_ofW HT_.out HW_.out (by kernel_rfl)) (fun _ _ _ h => h) (Or.inl ⟨by rfl, ?_⟩) hHeld ?_ ?_
           rotate_left
           ·rintro w' ⟨s0, s1, s2, s3, s4⟩
            go_simp
            with_reducible rfl
           rotate_left
           ·simp only [Act.put, List.setIfInBounds_toArray, List.set_cons_zero, List.set_cons_succ, i64_w, i32_w]
            rfl
           refine one_ (i := 9) (N := some 44) W10_ rfl rfl (one_of HT_.out (by kernel_rfl)) (by decide) (fun K hK => ?_)
           refine goes_ Try.func15 (by kernel_rfl) rfl #[.agg #[.int .i64 t445, .int .i64 t446, .int .i64 t447], .int .i64 (wrap64 (100 + (wrap64 (t449 * 4)))), .int .i64 t453] (by rfl) rfl rfl (by (try simp only [List.map_toArray, List.map_cons, List.map_nil]); first | done | rfl | (simp only [List.length_drop, List.length_take]; rfl)) ?_
           with_reducible refine (impl_TwiceIn.calls k t445 t446 t447 (wrap64 (100 + (wrap64 (t449 * 4)))) t453 t456 _ A22.out).mono ?_
           rintro e w46 ⟨rfl, hb⟩
           have HS3_ := (hb.cell (World.block_lt_of_cell? _ _ (hHeld.2.2.2.1))).trans (hHeld.2.2.2.1)
           have HS4_ := (hb.cell (World.block_lt_of_cell? _ _ (hHeld.2.2.2.2))).trans (hHeld.2.2.2.2)
           refine ⟨_, rfl, ?_⟩
           have n0_ := Aside0.mk (Kd.R_below (by (with_reducible repeat (first | apply Kd.R_alloc | apply Kd.R_drewN | apply Kd.R_drew)); exact HO452.out) hb)
           have n1_ := Aside0.mk (blk_below (g := gb448) (o := .cells #[.int .i64 t445, .int .i64 t446, .int .i64 t447] 27 (0, 0)) (by (with_reducible repeat (first | refine blk_drewN ?_ _ | refine blk_drew ?_ | refine blk_alloc ?_ _)); exact BK448.out) hb)
           have n2_ := Aside0.mk (below_step (by repeat (first | (with_reducible first | exact HB.out | apply below_alloc | apply pw_below_drewN | apply below_drew1 | refine below_set ?_ GE448.out) | exact HB.out)) hb)
           clear HO452
           clear BK448
           clear HB
           have HO452 := n0_
           have BK448 := n1_
           have HB := n2_
           clear n0_ n1_ n2_
           (try clear hb)
           (try clear hb2)
           (try clear hk)
           (try clear hi)
           refine hK.out _ _ ⟨(blk_cell BK448.out 0).trans rfl, (blk_cell BK448.out 1).trans rfl, (blk_cell BK448.out 2).trans rfl, HS3_, HS4_⟩ (fun hHeld => ?_)
           clear hK K
           refine norm_ (a' := ?_) ?_ ?_
           rotate_left
           ·show Act.put _ (some 44) _ = _
            simp only [Act.put, List.setIfInBounds_toArray, List.set_cons_zero, List.set_cons_succ, i64_w, i32_w]
            rfl
           refine pz_ (i := 10) (N := some 45) W11_ rfl rfl (any_of HT_.out (by kernel_rfl)) ?_
           refine pz_ (i := 11) (N := some 46) W12_ rfl rfl (any_of HT_.out (by kernel_rfl)) ?_
           refine pz_ (i := 12) (N := some 47) W13_ rfl rfl (any_of HT_.out (by kernel_rfl)) ?_
           refine pz_ (i := 13) (N := some 48) W14_ rfl rfl (any_of HT_.out (by kernel_rfl)) ?_
           refine pz_ (i := 14) (N := some 49) W15_ rfl rfl (any_of HT_.out (by kernel_rfl)) ?_
           refine pz_ (i := 15) (N := some 50) W16_ rfl rfl (any_of HT_.out (by kernel_rfl)) ?_
           refine take_ (i := 16) (N := some 51) (v := ?_) (a' := ?_) W17_ rfl rfl (take_ofW HT_.out HW_.out (by kernel_rfl)) (fun _ _ _ h => h) (Or.inl ⟨by rfl, ?_⟩) hHeld ?_ ?_
           rotate_left
           ·rintro w' ⟨s0, s1, s2, s3, s4⟩
            go_simp
            with_reducible rfl
           rotate_left
           ·simp only [Act.put, List.setIfInBounds_toArray, List.set_cons_zero, List.set_cons_succ, i64_w, i32_w]
            rfl
           refine pz_ (i := 17) (N := some 52) W18_ rfl rfl (any_of HT_.out (by kernel_rfl)) ?_
           refine pz_ (i := 18) (N := some 53) W19_ rfl rfl (any_of HT_.out (by kernel_rfl)) ?_
           refine pz_ (i := 19) (N := some 54) W20_ rfl rfl (any_of HT_.out (by kernel_rfl)) ?_
           refine pz_ (i := 20) (N := some 55) W21_ rfl rfl (any_of HT_.out (by kernel_rfl)) ?_
           refine take_ (i := 21) (N := some 56) (v := ?_) (a' := ?_) W22_ rfl rfl (take_ofW HT_.out HW_.out (by kernel_rfl)) (fun _ _ _ h => h) (Or.inl ⟨by rfl, ?_⟩) hHeld ?_ ?_
           rotate_left
           ·rintro w' ⟨s0, s1, s2, s3, s4⟩
            go_simp
            with_reducible rfl
           rotate_left
           ·simp only [Act.put, List.setIfInBounds_toArray, List.set_cons_zero, List.set_cons_succ, i64_w, i32_w]
            rfl
           refine pz_ (i := 22) (N := some 57) W23_ rfl rfl (any_of HT_.out (by kernel_rfl)) ?_
           refine pz_ (i := 23) (N := some 58) W24_ rfl rfl (any_of HT_.out (by kernel_rfl)) ?_
           refine pz_ (i := 24) (N := some 59) W25_ rfl rfl (any_of HT_.out (by kernel_rfl)) ?_
           refine pu_ (i := 25) (N := some 60) W26_ rfl rfl (any_of HT_.out (by kernel_rfl)) ?_
           refine pu_ (i := 26) (N := some 61) W27_ rfl rfl (any_of HT_.out (by kernel_rfl)) ?_
           refine pu_ (i := 27) (N := some 62) W28_ rfl rfl (any_of HT_.out (by kernel_rfl)) ?_
           refine pu_ (i := 28) (N := some 63) W29_ rfl rfl (any_of HT_.out (by kernel_rfl)) ?_
           refine pz_ (i := 29) (N := some 64) W30_ rfl rfl (any_of HT_.out (by kernel_rfl)) ?_
           refine pz_ (i := 30) (N := some 65) W31_ rfl rfl (any_of HT_.out (by kernel_rfl)) ?_
           refine pu_ (i := 31) (N := some 66) W32_ rfl rfl (any_of HT_.out (by kernel_rfl)) ?_
           refine pu_ (i := 32) (N := some 67) W33_ rfl rfl (any_of HT_.out (by kernel_rfl)) ?_
           refine pu_ (i := 33) (N := some 68) W64_ rfl rfl (any_of HT_.out (by kernel_rfl)) ?_
           refine pu_ (i := 34) (N := some 69) W65_ rfl rfl (any_of HT_.out (by kernel_rfl)) ?_
           refine pu_ (i := 35) (N := some 70) W36_ rfl rfl (any_of HT_.out (by kernel_rfl)) ?_
           refine pu_ (i := 36) (N := some 71) W37_ rfl rfl (any_of HT_.out (by kernel_rfl)) ?_
           refine pu_ (i := 37) (N := some 72) W38_ rfl rfl (any_of HT_.out (by kernel_rfl)) ?_
           refine pz_ (i := 38) (N := some 73) W39_ rfl rfl (any_of HT_.out (by kernel_rfl)) ?_
           refine pz_ (i := 39) (N := some 74) W40_ rfl rfl (any_of HT_.out (by kernel_rfl)) ?_
           refine pu_ (i := 40) (N := some 75) W41_ rfl rfl (any_of HT_.out (by kernel_rfl)) ?_
           refine pu_ (i := 41) (N := some 76) W42_ rfl rfl (any_of HT_.out (by kernel_rfl)) ?_
           refine pu_ (i := 42) (N := some 77) W43_ rfl rfl (any_of HT_.out (by kernel_rfl)) ?_
           refine pu_ (i := 43) (N := some 78) W44_ rfl rfl (any_of HT_.out (by kernel_rfl)) ?_
           refine pu_ (i := 44) (N := some 79) W45_ rfl rfl (any_of HT_.out (by kernel_rfl)) ?_
           refine pu_ (i := 45) (N := some 80) W46_ rfl rfl (any_of HT_.out (by kernel_rfl)) ?_
           refine pu_ (i := 46) (N := some 81) W47_ rfl rfl (any_of HT_.out (by kernel_rfl)) ?_
           refine pz_ (i := 47) (N := some 82) W48_ rfl rfl (any_of HT_.out (by kernel_rfl)) ?_
           refine pz_ (i := 48) (N := some 83) W49_ rfl rfl (any_of HT_.out (by kernel_rfl)) ?_
           refine pu_ (i := 49) (N := some 84) W50_ rfl rfl (any_of HT_.out (by kernel_rfl)) ?_
           refine pu_ (i := 50) (N := some 85) W51_ rfl rfl (any_of HT_.out (by kernel_rfl)) ?_
           refine pu_ (i := 51) (N := some 86) W52_ rfl rfl (any_of HT_.out (by kernel_rfl)) ?_
           refine pu_ (i := 52) (N := some 87) W53_ rfl rfl (any_of HT_.out (by kernel_rfl)) ?_
           refine pu_ (i := 53) (N := some 88) W54_ rfl rfl (any_of HT_.out (by kernel_rfl)) ?_
           refine pu_ (i := 54) (N := some 89) W55_ rfl rfl (any_of HT_.out (by kernel_rfl)) ?_
           refine pu_ (i := 55) (N := some 90) W56_ rfl rfl (any_of HT_.out (by kernel_rfl)) ?_
           refine pz_ (i := 56) (N := some 91) W57_ rfl rfl (any_of HT_.out (by kernel_rfl)) ?_
           refine pz_ (i := 57) (N := some 92) W58_ rfl rfl (any_of HT_.out (by kernel_rfl)) ?_
           refine pz_ (i := 58) (N := some 93) W59_ rfl rfl (any_of HT_.out (by kernel_rfl)) ?_
           refine done_ (done_of HT_.out (by kernel_rfl)) ?_
           try go_wp2
           go_meet
           case rel => exact ⟨_, ((t454 != false)), (by first | rfl | (simp; done) | (simp [*]; done)), H', ⟨by first | omega | exact Nat.le_refl _⟩, ⟨by (with_reducible repeat (first | apply Kd.R_alloc | apply Kd.R_drewN | apply Kd.R_drew)); exact HO452.out⟩, ⟨by (with_reducible repeat (first | refine blk_drewN ?_ _ | refine blk_drew ?_ | refine blk_alloc ?_ _)); exact BK448.out⟩, ⟨by repeat (first | (with_reducible first | exact HB.out | apply below_alloc | apply pw_below_drewN | apply below_drew1 | refine below_set ?_ GE448.out) | exact HB.out)⟩⟩
        ·rw [if_neg c26] at H
         exact absurd H (by simp)
       ·as_aux_lemma =>
         rw [if_neg c25] at H
         have c25b0 : decide (0 < (rd t450 1)) = false := decide_eq_false c25
         clear c25
         have H' := Aside0.mk H
         clear H
         try go_wp2
         have n0_ := Aside0.mk (Kd.R_drew HO452.out)
         have n1_ := Aside0.mk (blk_drew BK448.out)
         have n2_ := Aside0.mk (below_drew1 HB.out)
         clear HO452
         clear BK448
         clear HB
         have HO452 := n0_
         have BK448 := n1_
         have HB := n2_
         clear n0_ n1_ n2_
         have p457 : 0 ≤ (1 : Int) := (by omega)
         have q457 : 1 < (t450.length : Int) := of_decide_eq_true (by first | (with_reducible assumption) | assumption)
         obtain ⟨ad457, e457, hx457_0⟩ := Kd.at_int (Kd.R_reads' HO452.out).2.2 1 p457 q457
         cases e457
         (try simp only [show (1 : Int).toNat = 1 from rfl, Nat.reduceMul, Nat.reduceEqDiff, Go.Addr.add, ↓reduceIte] at hx457_0)
         have qi457 : (1 < t450.length) = True := eq_true (by omega)
         (try rw [show ((1 : Int)).toNat = 1 from rfl] at hx457_0)
         replace p457 := eq_true p457
         replace q457 := eq_true q457
         refine start_ (n := 59) (S := fun w' => w'.cell? ⟨gb448, 0, none⟩ = some (.int .i64 t445) ∧ w'.cell? ⟨gb448, 1, none⟩ = some (.int .i64 t446) ∧ w'.cell? ⟨gb448, 2, none⟩ = some (.int .i64 t447) ∧ w'.cell? ⟨ad457.block, ad457.off + 1, none⟩ = some (.int .i64 (rd t450 1))) (ds := []) W0_ (by kernel_rfl) rfl rfl ⟨(blk_cell BK448.out 0).trans rfl, (blk_cell BK448.out 1).trans rfl, (blk_cell BK448.out 2).trans rfl, hx457_0⟩ (fun hHeld => ?_); refine with_tabW laws_FnWeighings.tab10 laws_FnWeighings.bits10 (fun HT_ HW_ => ?_)
         generalize w19.drew = w47 at HO452 BK448 HB hx457_0 hHeld ⊢
         refine pz_ (i := 1) (N := some 36) W1_ rfl rfl (any_of HT_.out (by kernel_rfl)) ?_
         refine pz_ (i := 2) (N := some 37) W2_ rfl rfl (any_of HT_.out (by kernel_rfl)) ?_
         refine take_ (i := 0) (N := some 35) (v := ?_) (a' := ?_) W3_ rfl rfl (take_ofW HT_.out HW_.out (by kernel_rfl)) (fun _ _ _ h => h) (Or.inl ⟨by rfl, ?_⟩) hHeld ?_ ?_
         rotate_left
         ·rintro w' ⟨s0, s1, s2, s3⟩
          go_simp
          with_reducible rfl
         rotate_left
         ·simp only [Act.put, List.setIfInBounds_toArray, List.set_cons_zero, List.set_cons_succ, i64_w, i32_w]
          rfl
         refine one_ (i := 3) (N := some 38) W4_ rfl rfl (one_of HT_.out (by kernel_rfl)) (by decide) (fun K hK => ?_)
         refine goes_ Try.func13 (by kernel_rfl) rfl #[.agg #[.int .i64 t445, .int .i64 t446, .int .i64 t447], .int .i64 (wrap64 (100 + (wrap64 (t449 * 4)))), .int .i64 t453] (by rfl) rfl rfl (by (try simp only [List.map_toArray, List.map_cons, List.map_nil]); first | done | rfl | (simp only [List.length_drop, List.length_take]; rfl)) ?_
         with_reducible refine (impl_MissingPart.calls k t445 t446 t447 (wrap64 (100 + (wrap64 (t449 * 4)))) t453 t455 _ A20.out).mono ?_
         rintro e w48 ⟨rfl, hb⟩
         have HS3_ := (hb.cell (World.block_lt_of_cell? _ _ (hHeld.2.2.2))).trans (hHeld.2.2.2)
         refine ⟨_, rfl, ?_⟩
         have n0_ := Aside0.mk (Kd.R_below (by (with_reducible repeat (first | apply Kd.R_alloc | apply Kd.R_drewN | apply Kd.R_drew)); exact HO452.out) hb)
         have n1_ := Aside0.mk (blk_below (g := gb448) (o := .cells #[.int .i64 t445, .int .i64 t446, .int .i64 t447] 27 (0, 0)) (by (with_reducible repeat (first | refine blk_drewN ?_ _ | refine blk_drew ?_ | refine blk_alloc ?_ _)); exact BK448.out) hb)
         have n2_ := Aside0.mk (below_step (by repeat (first | (with_reducible first | exact HB.out | apply below_alloc | apply pw_below_drewN | apply below_drew1 | refine below_set ?_ GE448.out) | exact HB.out)) hb)
         clear HO452
         clear BK448
         clear HB
         have HO452 := n0_
         have BK448 := n1_
         have HB := n2_
         clear n0_ n1_ n2_
         (try clear hb)
         (try clear hb2)
         (try clear hk)
         (try clear hi)
         refine hK.out _ _ ⟨(blk_cell BK448.out 0).trans rfl, (blk_cell BK448.out 1).trans rfl, (blk_cell BK448.out 2).trans rfl, HS3_⟩ (fun hHeld => ?_)
         clear hK K
         refine norm_ (a' := ?_) ?_ ?_
         rotate_left
         ·show Act.put _ (some 38) _ = _
          simp only [Act.put, List.setIfInBounds_toArray, List.set_cons_zero, List.set_cons_succ, i64_w, i32_w]
          rfl
         refine pz_ (i := 4) (N := some 39) W5_ rfl rfl (any_of HT_.out (by kernel_rfl)) ?_
         refine pz_ (i := 5) (N := some 40) W6_ rfl rfl (any_of HT_.out (by kernel_rfl)) ?_
         refine pz_ (i := 7) (N := some 42) W7_ rfl rfl (any_of HT_.out (by kernel_rfl)) ?_
         refine pz_ (i := 8) (N := some 43) W8_ rfl rfl (any_of HT_.out (by kernel_rfl)) ?_
         refine take_ (i := 6) (N := some 41) (v := ?_) (a' := ?_) W9_ rfl rfl (take_ofW HT_.out HW_.out (by kernel_rfl)) (fun _ _ _ h => h) (Or.inl ⟨by rfl, ?_⟩) hHeld ?_ ?_
         rotate_left
         ·rintro w' ⟨s0, s1, s2, s3⟩
          go_simp
          with_reducible rfl
         rotate_left
         ·simp only [Act.put, List.setIfInBounds_toArray, List.set_cons_zero, List.set_cons_succ, i64_w, i32_w]
          rfl
         refine one_ (i := 9) (N := some 44) W10_ rfl rfl (one_of HT_.out (by kernel_rfl)) (by decide) (fun K hK => ?_)
         refine goes_ Try.func15 (by kernel_rfl) rfl #[.agg #[.int .i64 t445, .int .i64 t446, .int .i64 t447], .int .i64 (wrap64 (100 + (wrap64 (t449 * 4)))), .int .i64 t453] (by rfl) rfl rfl (by (try simp only [List.map_toArray, List.map_cons, List.map_nil]); first | done | rfl | (simp only [List.length_drop, List.length_take]; rfl)) ?_
         with_reducible refine (impl_TwiceIn.calls k t445 t446 t447 (wrap64 (100 + (wrap64 (t449 * 4)))) t453 t456 _ A22.out).mono ?_
         rintro e w49 ⟨rfl, hb⟩
         have HS3_ := (hb.cell (World.block_lt_of_cell? _ _ (hHeld.2.2.2))).trans (hHeld.2.2.2)
         refine ⟨_, rfl, ?_⟩
         have n0_ := Aside0.mk (Kd.R_below (by (with_reducible repeat (first | apply Kd.R_alloc | apply Kd.R_drewN | apply Kd.R_drew)); exact HO452.out) hb)
         have n1_ := Aside0.mk (blk_below (g := gb448) (o := .cells #[.int .i64 t445, .int .i64 t446, .int .i64 t447] 27 (0, 0)) (by (with_reducible repeat (first | refine blk_drewN ?_ _ | refine blk_drew ?_ | refine blk_alloc ?_ _)); exact BK448.out) hb)
         have n2_ := Aside0.mk (below_step (by repeat (first | (with_reducible first | exact HB.out | apply below_alloc | apply pw_below_drewN | apply below_drew1 | refine below_set ?_ GE448.out) | exact HB.out)) hb)
         clear HO452
         clear BK448
         clear HB
         have HO452 := n0_
         have BK448 := n1_
         have HB := n2_
         clear n0_ n1_ n2_
         (try clear hb)
         (try clear hb2)
         (try clear hk)
         (try clear hi)
         refine hK.out _ _ ⟨(blk_cell BK448.out 0).trans rfl, (blk_cell BK448.out 1).trans rfl, (blk_cell BK448.out 2).trans rfl, HS3_⟩ (fun hHeld => ?_)
         clear hK K
         refine norm_ (a' := ?_) ?_ ?_
         rotate_left
         ·show Act.put _ (some 44) _ = _
          simp only [Act.put, List.setIfInBounds_toArray, List.set_cons_zero, List.set_cons_succ, i64_w, i32_w]
          rfl
         refine pz_ (i := 10) (N := some 45) W11_ rfl rfl (any_of HT_.out (by kernel_rfl)) ?_
         refine pz_ (i := 11) (N := some 46) W12_ rfl rfl (any_of HT_.out (by kernel_rfl)) ?_
         refine pz_ (i := 12) (N := some 47) W13_ rfl rfl (any_of HT_.out (by kernel_rfl)) ?_
         refine pz_ (i := 13) (N := some 48) W14_ rfl rfl (any_of HT_.out (by kernel_rfl)) ?_
         refine pz_ (i := 14) (N := some 49) W15_ rfl rfl (any_of HT_.out (by kernel_rfl)) ?_
         refine pz_ (i := 15) (N := some 50) W16_ rfl rfl (any_of HT_.out (by kernel_rfl)) ?_
         refine take_ (i := 16) (N := some 51) (v := ?_) (a' := ?_) W17_ rfl rfl (take_ofW HT_.out HW_.out (by kernel_rfl)) (fun _ _ _ h => h) (Or.inl ⟨by rfl, ?_⟩) hHeld ?_ ?_
         rotate_left
         ·rintro w' ⟨s0, s1, s2, s3⟩
          go_simp
          with_reducible rfl
         rotate_left
         ·simp only [Act.put, List.setIfInBounds_toArray, List.set_cons_zero, List.set_cons_succ, i64_w, i32_w]
          rfl
         refine pz_ (i := 17) (N := some 52) W18_ rfl rfl (any_of HT_.out (by kernel_rfl)) ?_
         refine pz_ (i := 18) (N := some 53) W19_ rfl rfl (any_of HT_.out (by kernel_rfl)) ?_
         refine pu_ (i := 19) (N := some 54) W20_ rfl rfl (any_of HT_.out (by kernel_rfl)) ?_
         refine pu_ (i := 20) (N := some 55) W21_ rfl rfl (any_of HT_.out (by kernel_rfl)) ?_
         refine pu_ (i := 21) (N := some 56) W22_ rfl rfl (any_of HT_.out (by kernel_rfl)) ?_
         refine pu_ (i := 22) (N := some 57) W23_ rfl rfl (any_of HT_.out (by kernel_rfl)) ?_
         refine pz_ (i := 23) (N := some 58) W24_ rfl rfl (any_of HT_.out (by kernel_rfl)) ?_
         refine pz_ (i := 24) (N := some 59) W25_ rfl rfl (any_of HT_.out (by kernel_rfl)) ?_
         refine pu_ (i := 25) (N := some 60) W26_ rfl rfl (any_of HT_.out (by kernel_rfl)) ?_
         refine pu_ (i := 26) (N := some 61) W27_ rfl rfl (any_of HT_.out (by kernel_rfl)) ?_
         refine pu_ (i := 27) (N := some 62) W28_ rfl rfl (any_of HT_.out (by kernel_rfl)) ?_
         refine pu_ (i := 28) (N := some 63) W29_ rfl rfl (any_of HT_.out (by kernel_rfl)) ?_
         refine pz_ (i := 29) (N := some 64) W30_ rfl rfl (any_of HT_.out (by kernel_rfl)) ?_
         refine pz_ (i := 30) (N := some 65) W31_ rfl rfl (any_of HT_.out (by kernel_rfl)) ?_
         refine pu_ (i := 31) (N := some 66) W32_ rfl rfl (any_of HT_.out (by kernel_rfl)) ?_
         refine pu_ (i := 32) (N := some 67) W33_ rfl rfl (any_of HT_.out (by kernel_rfl)) ?_
         refine pu_ (i := 33) (N := some 68) W64_ rfl rfl (any_of HT_.out (by kernel_rfl)) ?_
         refine pu_ (i := 34) (N := some 69) W65_ rfl rfl (any_of HT_.out (by kernel_rfl)) ?_
         refine pu_ (i := 35) (N := some 70) W36_ rfl rfl (any_of HT_.out (by kernel_rfl)) ?_
         refine pu_ (i := 36) (N := some 71) W37_ rfl rfl (any_of HT_.out (by kernel_rfl)) ?_
         refine pu_ (i := 37) (N := some 72) W38_ rfl rfl (any_of HT_.out (by kernel_rfl)) ?_
         refine pz_ (i := 38) (N := some 73) W39_ rfl rfl (any_of HT_.out (by kernel_rfl)) ?_
         refine pz_ (i := 39) (N := some 74) W40_ rfl rfl (any_of HT_.out (by kernel_rfl)) ?_
         refine pu_ (i := 40) (N := some 75) W41_ rfl rfl (any_of HT_.out (by kernel_rfl)) ?_
         refine pu_ (i := 41) (N := some 76) W42_ rfl rfl (any_of HT_.out (by kernel_rfl)) ?_
         refine pu_ (i := 42) (N := some 77) W43_ rfl rfl (any_of HT_.out (by kernel_rfl)) ?_
         refine pu_ (i := 43) (N := some 78) W44_ rfl rfl (any_of HT_.out (by kernel_rfl)) ?_
         refine pu_ (i := 44) (N := some 79) W45_ rfl rfl (any_of HT_.out (by kernel_rfl)) ?_
         refine pu_ (i := 45) (N := some 80) W46_ rfl rfl (any_of HT_.out (by kernel_rfl)) ?_
         refine pu_ (i := 46) (N := some 81) W47_ rfl rfl (any_of HT_.out (by kernel_rfl)) ?_
         refine pz_ (i := 47) (N := some 82) W48_ rfl rfl (any_of HT_.out (by kernel_rfl)) ?_
         refine pz_ (i := 48) (N := some 83) W49_ rfl rfl (any_of HT_.out (by kernel_rfl)) ?_
         refine pu_ (i := 49) (N := some 84) W50_ rfl rfl (any_of HT_.out (by kernel_rfl)) ?_
         refine pu_ (i := 50) (N := some 85) W51_ rfl rfl (any_of HT_.out (by kernel_rfl)) ?_
         refine pu_ (i := 51) (N := some 86) W52_ rfl rfl (any_of HT_.out (by kernel_rfl)) ?_
         refine pu_ (i := 52) (N := some 87) W53_ rfl rfl (any_of HT_.out (by kernel_rfl)) ?_
         refine pu_ (i := 53) (N := some 88) W54_ rfl rfl (any_of HT_.out (by kernel_rfl)) ?_
         refine pu_ (i := 54) (N := some 89) W55_ rfl rfl (any_of HT_.out (by kernel_rfl)) ?_
         refine pu_ (i := 55) (N := some 90) W56_ rfl rfl (any_of HT_.out (by kernel_rfl)) ?_
         refine pz_ (i := 56) (N := some 91) W57_ rfl rfl (any_of HT_.out (by kernel_rfl)) ?_
         refine pz_ (i := 57) (N := some 92) W58_ rfl rfl (any_of HT_.out (by kernel_rfl)) ?_
         refine pz_ (i := 58) (N := some 93) W59_ rfl rfl (any_of HT_.out (by kernel_rfl)) ?_
         refine done_ (done_of HT_.out (by kernel_rfl)) ?_
         try go_wp2
         go_meet
         case rel => exact ⟨_, ((t454 != false)), (by first | rfl | (simp; done) | (simp [*]; done)), H', ⟨by first | omega | exact Nat.le_refl _⟩, ⟨by (with_reducible repeat (first | apply Kd.R_alloc | apply Kd.R_drewN | apply Kd.R_drew)); exact HO452.out⟩, ⟨by (with_reducible repeat (first | refine blk_drewN ?_ _ | refine blk_drew ?_ | refine blk_alloc ?_ _)); exact BK448.out⟩, ⟨by repeat (first | (with_reducible first | exact HB.out | apply below_alloc | apply pw_below_drewN | apply below_drew1 | refine below_set ?_ GE448.out) | exact HB.out)⟩⟩
      ·rw [if_neg c24] at H
       exact absurd H (by simp)
     ·as_aux_lemma =>
       rw [if_neg c23] at H
       have c23b0 : (t456 == 0) = false := beq_eq_false_iff_ne.mpr c23
       have c23b1 : (t456 != 0) = true := bne_iff_ne.mpr c23
       have H' := Aside0.mk H
       clear H
       try go_wp2
       have n0_ := Aside0.mk (Kd.R_drew HO452.out)
       have n1_ := Aside0.mk (blk_drew BK448.out)
       have n2_ := Aside0.mk (below_drew1 HB.out)
       clear HO452
       clear BK448
       clear HB
       have HO452 := n0_
       have BK448 := n1_
       have HB := n2_
       clear n0_ n1_ n2_
       refine start_ (n := 59) (S := fun w' => w'.cell? ⟨gb448, 0, none⟩ = some (.int .i64 t445) ∧ w'.cell? ⟨gb448, 1, none⟩ = some (.int .i64 t446) ∧ w'.cell? ⟨gb448, 2, none⟩ = some (.int .i64 t447)) (ds := []) W0_ (by kernel_rfl) rfl rfl ⟨(blk_cell BK448.out 0).trans rfl, (blk_cell BK448.out 1).trans rfl, (blk_cell BK448.out 2).trans rfl⟩ (fun hHeld => ?_); refine with_tabW laws_FnWeighings.tab10 laws_FnWeighings.bits10 (fun HT_ HW_ => ?_)
       generalize w19.drew = w50 at HO452 BK448 HB hHeld ⊢
       refine pz_ (i := 1) (N := some 36) W1_ rfl rfl (any_of HT_.out (by kernel_rfl)) ?_
       refine pz_ (i := 2) (N := some 37) W2_ rfl rfl (any_of HT_.out (by kernel_rfl)) ?_
       refine take_ (i := 0) (N := some 35) (v := ?_) (a' := ?_) W3_ rfl rfl (take_ofW HT_.out HW_.out (by kernel_rfl)) (fun _ _ _ h => h) (Or.inl ⟨by rfl, ?_⟩) hHeld ?_ ?_
       rotate_left
       ·rintro w' ⟨s0, s1, s2⟩
        go_simp
        with_reducible rfl
       rotate_left
       ·simp only [Act.put, List.setIfInBounds_toArray, List.set_cons_zero, List.set_cons_succ, i64_w, i32_w]
        rfl
       refine one_ (i := 3) (N := some 38) W4_ rfl rfl (one_of HT_.out (by kernel_rfl)) (by decide) (fun K hK => ?_)
       refine goes_ Try.func13 (by kernel_rfl) rfl #[.agg #[.int .i64 t445, .int .i64 t446, .int .i64 t447], .int .i64 (wrap64 (100 + (wrap64 (t449 * 4)))), .int .i64 t453] (by rfl) rfl rfl (by (try simp only [List.map_toArray, List.map_cons, List.map_nil]); first | done | rfl | (simp only [List.length_drop, List.length_take]; rfl)) ?_
       with_reducible refine (impl_MissingPart.calls k t445 t446 t447 (wrap64 (100 + (wrap64 (t449 * 4)))) t453 t455 _ A20.out).mono ?_
       rintro e w51 ⟨rfl, hb⟩
       refine ⟨_, rfl, ?_⟩
       have n0_ := Aside0.mk (Kd.R_below (by (with_reducible repeat (first | apply Kd.R_alloc | apply Kd.R_drewN | apply Kd.R_drew)); exact HO452.out) hb)
       have n1_ := Aside0.mk (blk_below (g := gb448) (o := .cells #[.int .i64 t445, .int .i64 t446, .int .i64 t447] 27 (0, 0)) (by (with_reducible repeat (first | refine blk_drewN ?_ _ | refine blk_drew ?_ | refine blk_alloc ?_ _)); exact BK448.out) hb)
       have n2_ := Aside0.mk (below_step (by repeat (first | (with_reducible first | exact HB.out | apply below_alloc | apply pw_below_drewN | apply below_drew1 | refine below_set ?_ GE448.out) | exact HB.out)) hb)
       clear HO452
       clear BK448
       clear HB
       have HO452 := n0_
       have BK448 := n1_
       have HB := n2_
       clear n0_ n1_ n2_
       (try clear hb)
       (try clear hb2)
       (try clear hk)
       (try clear hi)
       refine hK.out _ _ ⟨(blk_cell BK448.out 0).trans rfl, (blk_cell BK448.out 1).trans rfl, (blk_cell BK448.out 2).trans rfl⟩ (fun hHeld => ?_)
       clear hK K
       refine norm_ (a' := ?_) ?_ ?_
       rotate_left
       ·show Act.put _ (some 38) _ = _
        simp only [Act.put, List.setIfInBounds_toArray, List.set_cons_zero, List.set_cons_succ, i64_w, i32_w]
        rfl
       refine pz_ (i := 4) (N := some 39) W5_ rfl rfl (any_of HT_.out (by kernel_rfl)) ?_
       refine pz_ (i := 5) (N := some 40) W6_ rfl rfl (any_of HT_.out (by kernel_rfl)) ?_
       refine pz_ (i := 7) (N := some 42) W7_ rfl rfl (any_of HT_.out (by kernel_rfl)) ?_
       refine pz_ (i := 8) (N := some 43) W8_ rfl rfl (any_of HT_.out (by kernel_rfl)) ?_
       refine take_ (i := 6) (N := some 41) (v := ?_) (a' := ?_) W9_ rfl rfl (take_ofW HT_.out HW_.out (by kernel_rfl)) (fun _ _ _ h => h) (Or.inl ⟨by rfl, ?_⟩) hHeld ?_ ?_
       rotate_left
       ·rintro w' ⟨s0, s1, s2⟩
        go_simp
        with_reducible rfl
       rotate_left
       ·simp only [Act.put, List.setIfInBounds_toArray, List.set_cons_zero, List.set_cons_succ, i64_w, i32_w]
        rfl
       refine one_ (i := 9) (N := some 44) W10_ rfl rfl (one_of HT_.out (by kernel_rfl)) (by decide) (fun K hK => ?_)
       refine goes_ Try.func15 (by kernel_rfl) rfl #[.agg #[.int .i64 t445, .int .i64 t446, .int .i64 t447], .int .i64 (wrap64 (100 + (wrap64 (t449 * 4)))), .int .i64 t453] (by rfl) rfl rfl (by (try simp only [List.map_toArray, List.map_cons, List.map_nil]); first | done | rfl | (simp only [List.length_drop, List.length_take]; rfl)) ?_
       with_reducible refine (impl_TwiceIn.calls k t445 t446 t447 (wrap64 (100 + (wrap64 (t449 * 4)))) t453 t456 _ A22.out).mono ?_
       rintro e w52 ⟨rfl, hb⟩
       refine ⟨_, rfl, ?_⟩
       have n0_ := Aside0.mk (Kd.R_below (by (with_reducible repeat (first | apply Kd.R_alloc | apply Kd.R_drewN | apply Kd.R_drew)); exact HO452.out) hb)
       have n1_ := Aside0.mk (blk_below (g := gb448) (o := .cells #[.int .i64 t445, .int .i64 t446, .int .i64 t447] 27 (0, 0)) (by (with_reducible repeat (first | refine blk_drewN ?_ _ | refine blk_drew ?_ | refine blk_alloc ?_ _)); exact BK448.out) hb)
       have n2_ := Aside0.mk (below_step (by repeat (first | (with_reducible first | exact HB.out | apply below_alloc | apply pw_below_drewN | apply below_drew1 | refine below_set ?_ GE448.out) | exact HB.out)) hb)
       clear HO452
       clear BK448
       clear HB
       have HO452 := n0_
       have BK448 := n1_
       have HB := n2_
       clear n0_ n1_ n2_
       (try clear hb)
       (try clear hb2)
       (try clear hk)
       (try clear hi)
       refine hK.out _ _ ⟨(blk_cell BK448.out 0).trans rfl, (blk_cell BK448.out 1).trans rfl, (blk_cell BK448.out 2).trans rfl⟩ (fun hHeld => ?_)
       clear hK K
       refine norm_ (a' := ?_) ?_ ?_
       rotate_left
       ·show Act.put _ (some 44) _ = _
        simp only [Act.put, List.setIfInBounds_toArray, List.set_cons_zero, List.set_cons_succ, i64_w, i32_w]
        rfl
       refine pz_ (i := 10) (N := some 45) W11_ rfl rfl (any_of HT_.out (by kernel_rfl)) ?_
       refine pz_ (i := 11) (N := some 46) W12_ rfl rfl (any_of HT_.out (by kernel_rfl)) ?_
       refine pz_ (i := 12) (N := some 47) W13_ rfl rfl (any_of HT_.out (by kernel_rfl)) ?_
       refine pu_ (i := 13) (N := some 48) W14_ rfl rfl (any_of HT_.out (by kernel_rfl)) ?_
       refine pu_ (i := 14) (N := some 49) W15_ rfl rfl (any_of HT_.out (by kernel_rfl)) ?_
       refine pu_ (i := 15) (N := some 50) W16_ rfl rfl (any_of HT_.out (by kernel_rfl)) ?_
       refine pu_ (i := 16) (N := some 51) W17_ rfl rfl (any_of HT_.out (by kernel_rfl)) ?_
       refine pu_ (i := 17) (N := some 52) W18_ rfl rfl (any_of HT_.out (by kernel_rfl)) ?_
       refine pu_ (i := 18) (N := some 53) W19_ rfl rfl (any_of HT_.out (by kernel_rfl)) ?_
       refine pu_ (i := 19) (N := some 54) W20_ rfl rfl (any_of HT_.out (by kernel_rfl)) ?_
       refine pu_ (i := 20) (N := some 55) W21_ rfl rfl (any_of HT_.out (by kernel_rfl)) ?_
       refine pu_ (i := 21) (N := some 56) W22_ rfl rfl (any_of HT_.out (by kernel_rfl)) ?_
       refine pu_ (i := 22) (N := some 57) W23_ rfl rfl (any_of HT_.out (by kernel_rfl)) ?_
       refine pu_ (i := 23) (N := some 58) W24_ rfl rfl (any_of HT_.out (by kernel_rfl)) ?_
       refine pu_ (i := 24) (N := some 59) W25_ rfl rfl (any_of HT_.out (by kernel_rfl)) ?_
       refine pu_ (i := 25) (N := some 60) W26_ rfl rfl (any_of HT_.out (by kernel_rfl)) ?_
       refine pu_ (i := 26) (N := some 61) W27_ rfl rfl (any_of HT_.out (by kernel_rfl)) ?_
       refine pu_ (i := 27) (N := some 62) W28_ rfl rfl (any_of HT_.out (by kernel_rfl)) ?_
       refine pu_ (i := 28) (N := some 63) W29_ rfl rfl (any_of HT_.out (by kernel_rfl)) ?_
       refine pu_ (i := 29) (N := some 64) W30_ rfl rfl (any_of HT_.out (by kernel_rfl)) ?_
       refine pu_ (i := 30) (N := some 65) W31_ rfl rfl (any_of HT_.out (by kernel_rfl)) ?_
       refine pu_ (i := 31) (N := some 66) W32_ rfl rfl (any_of HT_.out (by kernel_rfl)) ?_
       refine pu_ (i := 32) (N := some 67) W33_ rfl rfl (any_of HT_.out (by kernel_rfl)) ?_
       refine pu_ (i := 33) (N := some 68) W64_ rfl rfl (any_of HT_.out (by kernel_rfl)) ?_
       refine pu_ (i := 34) (N := some 69) W65_ rfl rfl (any_of HT_.out (by kernel_rfl)) ?_
       refine pu_ (i := 35) (N := some 70) W36_ rfl rfl (any_of HT_.out (by kernel_rfl)) ?_
       refine pu_ (i := 36) (N := some 71) W37_ rfl rfl (any_of HT_.out (by kernel_rfl)) ?_
       refine pu_ (i := 37) (N := some 72) W38_ rfl rfl (any_of HT_.out (by kernel_rfl)) ?_
       refine pu_ (i := 38) (N := some 73) W39_ rfl rfl (any_of HT_.out (by kernel_rfl)) ?_
       refine pu_ (i := 39) (N := some 74) W40_ rfl rfl (any_of HT_.out (by kernel_rfl)) ?_
       refine pu_ (i := 40) (N := some 75) W41_ rfl rfl (any_of HT_.out (by kernel_rfl)) ?_
       refine pu_ (i := 41) (N := some 76) W42_ rfl rfl (any_of HT_.out (by kernel_rfl)) ?_
       refine pu_ (i := 42) (N := some 77) W43_ rfl rfl (any_of HT_.out (by kernel_rfl)) ?_
       refine pu_ (i := 43) (N := some 78) W44_ rfl rfl (any_of HT_.out (by kernel_rfl)) ?_
       refine pu_ (i := 44) (N := some 79) W45_ rfl rfl (any_of HT_.out (by kernel_rfl)) ?_
       refine pu_ (i := 45) (N := some 80) W46_ rfl rfl (any_of HT_.out (by kernel_rfl)) ?_
       refine pu_ (i := 46) (N := some 81) W47_ rfl rfl (any_of HT_.out (by kernel_rfl)) ?_
       refine pu_ (i := 47) (N := some 82) W48_ rfl rfl (any_of HT_.out (by kernel_rfl)) ?_
       refine pu_ (i := 48) (N := some 83) W49_ rfl rfl (any_of HT_.out (by kernel_rfl)) ?_
       refine pu_ (i := 49) (N := some 84) W50_ rfl rfl (any_of HT_.out (by kernel_rfl)) ?_
       refine pu_ (i := 50) (N := some 85) W51_ rfl rfl (any_of HT_.out (by kernel_rfl)) ?_
       refine pu_ (i := 51) (N := some 86) W52_ rfl rfl (any_of HT_.out (by kernel_rfl)) ?_
       refine pu_ (i := 52) (N := some 87) W53_ rfl rfl (any_of HT_.out (by kernel_rfl)) ?_
       refine pu_ (i := 53) (N := some 88) W54_ rfl rfl (any_of HT_.out (by kernel_rfl)) ?_
       refine pu_ (i := 54) (N := some 89) W55_ rfl rfl (any_of HT_.out (by kernel_rfl)) ?_
       refine pu_ (i := 55) (N := some 90) W56_ rfl rfl (any_of HT_.out (by kernel_rfl)) ?_
       refine pu_ (i := 56) (N := some 91) W57_ rfl rfl (any_of HT_.out (by kernel_rfl)) ?_
       refine pu_ (i := 57) (N := some 92) W58_ rfl rfl (any_of HT_.out (by kernel_rfl)) ?_
       refine pz_ (i := 58) (N := some 93) W59_ rfl rfl (any_of HT_.out (by kernel_rfl)) ?_
       refine done_ (done_of HT_.out (by kernel_rfl)) ?_
       try go_wp2
       go_meet
       case rel => exact ⟨_, (true), (by first | rfl | (simp; done) | (simp [*]; done)), H', ⟨by first | omega | exact Nat.le_refl _⟩, ⟨by (with_reducible repeat (first | apply Kd.R_alloc | apply Kd.R_drewN | apply Kd.R_drew)); exact HO452.out⟩, ⟨by (with_reducible repeat (first | refine blk_drewN ?_ _ | refine blk_drew ?_ | refine blk_alloc ?_ _)); exact BK448.out⟩, ⟨by repeat (first | (with_reducible first | exact HB.out | apply below_alloc | apply pw_below_drewN | apply below_drew1 | refine below_set ?_ GE448.out) | exact HB.out)⟩⟩
    ·as_aux_lemma =>
      rw [if_neg c21] at H
      have c21b0 : (t455 == 0) = false := beq_eq_false_iff_ne.mpr c21
      have c21b1 : (t455 != 0) = true := bne_iff_ne.mpr c21
      (first | rw [c21b0] | (simp only [i64_w, i32_w]; rw [c21b0]) | skip)
      have H' := Aside0.mk H
      clear H
      try go_wp2
      have n0_ := Aside0.mk (Kd.R_drew HO452.out)
      have n1_ := Aside0.mk (blk_drew BK448.out)
      have n2_ := Aside0.mk (below_drew1 HB.out)
      clear HO452
      clear BK448
      clear HB
      have HO452 := n0_
      have BK448 := n1_
      have HB := n2_
      clear n0_ n1_ n2_
      refine start_ (n := 59) (S := fun w' => w'.cell? ⟨gb448, 0, none⟩ = some (.int .i64 t445) ∧ w'.cell? ⟨gb448, 1, none⟩ = some (.int .i64 t446) ∧ w'.cell? ⟨gb448, 2, none⟩ = some (.int .i64 t447)) (ds := []) W0_ (by kernel_rfl) rfl rfl ⟨(blk_cell BK448.out 0).trans rfl, (blk_cell BK448.out 1).trans rfl, (blk_cell BK448.out 2).trans rfl⟩ (fun hHeld => ?_); refine with_tabW laws_FnWeighings.tab10 laws_FnWeighings.bits10 (fun HT_ HW_ => ?_)
      generalize w19.drew = w53 at HO452 BK448 HB hHeld ⊢
      refine pz_ (i := 1) (N := some 36) W1_ rfl rfl (any_of HT_.out (by kernel_rfl)) ?_
      refine pz_ (i := 2) (N := some 37) W2_ rfl rfl (any_of HT_.out (by kernel_rfl)) ?_
      refine take_ (i := 0) (N := some 35) (v := ?_) (a' := ?_) W3_ rfl rfl (take_ofW HT_.out HW_.out (by kernel_rfl)) (fun _ _ _ h => h) (Or.inl ⟨by rfl, ?_⟩) hHeld ?_ ?_
      rotate_left
      ·rintro w' ⟨s0, s1, s2⟩
       go_simp
       with_reducible rfl
      rotate_left
      ·simp only [Act.put, List.setIfInBounds_toArray, List.set_cons_zero, List.set_cons_succ, i64_w, i32_w]
       rfl
      refine one_ (i := 3) (N := some 38) W4_ rfl rfl (one_of HT_.out (by kernel_rfl)) (by decide) (fun K hK => ?_)
      refine goes_ Try.func13 (by kernel_rfl) rfl #[.agg #[.int .i64 t445, .int .i64 t446, .int .i64 t447], .int .i64 (wrap64 (100 + (wrap64 (t449 * 4)))), .int .i64 t453] (by rfl) rfl rfl (by (try simp only [List.map_toArray, List.map_cons, List.map_nil]); first | done | rfl | (simp only [List.length_drop, List.length_take]; rfl)) ?_
      with_reducible refine (impl_MissingPart.calls k t445 t446 t447 (wrap64 (100 + (wrap64 (t449 * 4)))) t453 t455 _ A20.out).mono ?_
      rintro e w54 ⟨rfl, hb⟩
      refine ⟨_, rfl, ?_⟩
      have n0_ := Aside0.mk (Kd.R_below (by (with_reducible repeat (first | apply Kd.R_alloc | apply Kd.R_drewN | apply Kd.R_drew)); exact HO452.out) hb)
      have n1_ := Aside0.mk (blk_below (g := gb448) (o := .cells #[.int .i64 t445, .int .i64 t446, .int .i64 t447] 27 (0, 0)) (by (with_reducible repeat (first | refine blk_drewN ?_ _ | refine blk_drew ?_ | refine blk_alloc ?_ _)); exact BK448.out) hb)
      have n2_ := Aside0.mk (below_step (by repeat (first | (with_reducible first | exact HB.out | apply below_alloc | apply pw_below_drewN | apply below_drew1 | refine below_set ?_ GE448.out) | exact HB.out)) hb)
      clear HO452
      clear BK448
      clear HB
      have HO452 := n0_
      have BK448 := n1_
      have HB := n2_
      clear n0_ n1_ n2_
      (try clear hb)
      (try clear hb2)
      (try clear hk)
      (try clear hi)
      refine hK.out _ _ ⟨(blk_cell BK448.out 0).trans rfl, (blk_cell BK448.out 1).trans rfl, (blk_cell BK448.out 2).trans rfl⟩ (fun hHeld => ?_)
      clear hK K
      refine norm_ (a' := ?_) ?_ ?_
      rotate_left
      ·show Act.put _ (some 38) _ = _
       simp only [Act.put, List.setIfInBounds_toArray, List.set_cons_zero, List.set_cons_succ, i64_w, i32_w]
       rfl
      refine pz_ (i := 4) (N := some 39) W5_ rfl rfl (any_of HT_.out (by kernel_rfl)) ?_
      refine pz_ (i := 5) (N := some 40) W6_ rfl rfl (any_of HT_.out (by kernel_rfl)) ?_
      refine pu_ (i := 6) (N := some 41) W66_ rfl rfl (any_of HT_.out (by kernel_rfl)) ?_
      refine pu_ (i := 7) (N := some 42) W67_ rfl rfl (any_of HT_.out (by kernel_rfl)) ?_
      refine pu_ (i := 8) (N := some 43) W9_ rfl rfl (any_of HT_.out (by kernel_rfl)) ?_
      refine pu_ (i := 9) (N := some 44) W10_ rfl rfl (any_of HT_.out (by kernel_rfl)) ?_
      refine pu_ (i := 10) (N := some 45) W11_ rfl rfl (any_of HT_.out (by kernel_rfl)) ?_
      refine pz_ (i := 11) (N := some 46) W12_ rfl rfl (any_of HT_.out (by kernel_rfl)) ?_
      refine pz_ (i := 12) (N := some 47) W13_ rfl rfl (any_of HT_.out (by kernel_rfl)) ?_
      refine pu_ (i := 13) (N := some 48) W14_ rfl rfl (any_of HT_.out (by kernel_rfl)) ?_
      refine pu_ (i := 14) (N := some 49) W15_ rfl rfl (any_of HT_.out (by kernel_rfl)) ?_
      refine pu_ (i := 15) (N := some 50) W16_ rfl rfl (any_of HT_.out (by kernel_rfl)) ?_
      refine pu_ (i := 16) (N := some 51) W17_ rfl rfl (any_of HT_.out (by kernel_rfl)) ?_
      refine pu_ (i := 17) (N := some 52) W18_ rfl rfl (any_of HT_.out (by kernel_rfl)) ?_
      refine pu_ (i := 18) (N := some 53) W19_ rfl rfl (any_of HT_.out (by kernel_rfl)) ?_
      refine pu_ (i := 19) (N := some 54) W20_ rfl rfl (any_of HT_.out (by kernel_rfl)) ?_
      refine pu_ (i := 20) (N := some 55) W21_ rfl rfl (any_of HT_.out (by kernel_rfl)) ?_
      refine pu_ (i := 21) (N := some 56) W22_ rfl rfl (any_of HT_.out (by kernel_rfl)) ?_
      refine pu_ (i := 22) (N := some 57) W23_ rfl rfl (any_of HT_.out (by kernel_rfl)) ?_
      refine pu_ (i := 23) (N := some 58) W24_ rfl rfl (any_of HT_.out (by kernel_rfl)) ?_
      refine pu_ (i := 24) (N := some 59) W25_ rfl rfl (any_of HT_.out (by kernel_rfl)) ?_
      refine pu_ (i := 25) (N := some 60) W26_ rfl rfl (any_of HT_.out (by kernel_rfl)) ?_
      refine pu_ (i := 26) (N := some 61) W27_ rfl rfl (any_of HT_.out (by kernel_rfl)) ?_
      refine pu_ (i := 27) (N := some 62) W28_ rfl rfl (any_of HT_.out (by kernel_rfl)) ?_
      refine pu_ (i := 28) (N := some 63) W29_ rfl rfl (any_of HT_.out (by kernel_rfl)) ?_
      refine pu_ (i := 29) (N := some 64) W30_ rfl rfl (any_of HT_.out (by kernel_rfl)) ?_
      refine pu_ (i := 30) (N := some 65) W31_ rfl rfl (any_of HT_.out (by kernel_rfl)) ?_
      refine pu_ (i := 31) (N := some 66) W32_ rfl rfl (any_of HT_.out (by kernel_rfl)) ?_
      refine pu_ (i := 32) (N := some 67) W33_ rfl rfl (any_of HT_.out (by kernel_rfl)) ?_
      refine pu_ (i := 33) (N := some 68) W64_ rfl rfl (any_of HT_.out (by kernel_rfl)) ?_
      refine pu_ (i := 34) (N := some 69) W65_ rfl rfl (any_of HT_.out (by kernel_rfl)) ?_
      refine pu_ (i := 35) (N := some 70) W36_ rfl rfl (any_of HT_.out (by kernel_rfl)) ?_
      refine pu_ (i := 36) (N := some 71) W37_ rfl rfl (any_of HT_.out (by kernel_rfl)) ?_
      refine pu_ (i := 37) (N := some 72) W38_ rfl rfl (any_of HT_.out (by kernel_rfl)) ?_
      refine pu_ (i := 38) (N := some 73) W39_ rfl rfl (any_of HT_.out (by kernel_rfl)) ?_
      refine pu_ (i := 39) (N := some 74) W40_ rfl rfl (any_of HT_.out (by kernel_rfl)) ?_
      refine pu_ (i := 40) (N := some 75) W41_ rfl rfl (any_of HT_.out (by kernel_rfl)) ?_
      refine pu_ (i := 41) (N := some 76) W42_ rfl rfl (any_of HT_.out (by kernel_rfl)) ?_
      refine pu_ (i := 42) (N := some 77) W43_ rfl rfl (any_of HT_.out (by kernel_rfl)) ?_
      refine pu_ (i := 43) (N := some 78) W44_ rfl rfl (any_of HT_.out (by kernel_rfl)) ?_
      refine pu_ (i := 44) (N := some 79) W45_ rfl rfl (any_of HT_.out (by kernel_rfl)) ?_
      refine pu_ (i := 45) (N := some 80) W46_ rfl rfl (any_of HT_.out (by kernel_rfl)) ?_
      refine pu_ (i := 46) (N := some 81) W47_ rfl rfl (any_of HT_.out (by kernel_rfl)) ?_
      refine pu_ (i := 47) (N := some 82) W48_ rfl rfl (any_of HT_.out (by kernel_rfl)) ?_
      refine pu_ (i := 48) (N := some 83) W49_ rfl rfl (any_of HT_.out (by kernel_rfl)) ?_
      refine pu_ (i := 49) (N := some 84) W50_ rfl rfl (any_of HT_.out (by kernel_rfl)) ?_
      refine pu_ (i := 50) (N := some 85) W51_ rfl rfl (any_of HT_.out (by kernel_rfl)) ?_
      refine pu_ (i := 51) (N := some 86) W52_ rfl rfl (any_of HT_.out (by kernel_rfl)) ?_
      refine pu_ (i := 52) (N := some 87) W53_ rfl rfl (any_of HT_.out (by kernel_rfl)) ?_
      refine pu_ (i := 53) (N := some 88) W54_ rfl rfl (any_of HT_.out (by kernel_rfl)) ?_
      refine pu_ (i := 54) (N := some 89) W55_ rfl rfl (any_of HT_.out (by kernel_rfl)) ?_
      refine pu_ (i := 55) (N := some 90) W56_ rfl rfl (any_of HT_.out (by kernel_rfl)) ?_
      refine pu_ (i := 56) (N := some 91) W57_ rfl rfl (any_of HT_.out (by kernel_rfl)) ?_
      refine pu_ (i := 57) (N := some 92) W58_ rfl rfl (any_of HT_.out (by kernel_rfl)) ?_
      refine pz_ (i := 58) (N := some 93) W59_ rfl rfl (any_of HT_.out (by kernel_rfl)) ?_
      refine done_ (done_of HT_.out (by kernel_rfl)) ?_
      try go_wp2
      go_meet
      case rel => exact ⟨_, (true), (by first | rfl | (simp; done) | (simp [*]; done)), H', ⟨by first | omega | exact Nat.le_refl _⟩, ⟨by (with_reducible repeat (first | apply Kd.R_alloc | apply Kd.R_drewN | apply Kd.R_drew)); exact HO452.out⟩, ⟨by (with_reducible repeat (first | refine blk_drewN ?_ _ | refine blk_drew ?_ | refine blk_alloc ?_ _)); exact BK448.out⟩, ⟨by repeat (first | (with_reducible first | exact HB.out | apply below_alloc | apply pw_below_drewN | apply below_drew1 | refine below_set ?_ GE448.out) | exact HB.out)⟩⟩
   case rest =>
    clear HC10
    try clear c1
    try clear c2
    try clear p2
    try clear p6
    try clear c13
    try clear c15
    try clear c21
    try clear c21b0
    try clear c21b1
    obtain ⟨kq, x93_9, rfl, HA, HJ9, HO_5, BK448, HB⟩ := hcut
    cases kq with
    | zero => exact absurd HA.out (by simp [laws_FnWeighings.j0])
    | succ kj9 =>
     have H := HA.out
     clear HA
     simp only [laws_FnWeighings.j0] at H
     by_cases c55 : x93_9 = true
     ·subst c55
      have H1 : (some false) = some r := by rw [if_pos rfl] at H; exact H
      clear H
      have H := H1
      clear H1
      exact absurd ((Option.some.inj H).trans HR_.out) (by decide)
     ·replace c55 := Bool.eq_false_iff.mpr c55
      subst c55
      have H1 : (laws_FnWeighings.l0 kj9 (wrap64 (100 + (wrap64 (t449 * 4)))) t450 t453 t454 1 t445 t446 t447) = some r := by rw [if_neg (show ¬ (false = true) by decide)] at H; exact H
      clear H
      have H := H1
      clear H1
      have H' := Aside0.mk H
      clear H
      go_wp2
      go_loopg [8] kj9 (fun kq v8 w' => ∃ (x8_2 : Int), v8 = .int .i64 x8_2 ∧ Aside0 (laws_FnWeighings.l0 kq (wrap64 (100 + (wrap64 (t449 * 4)))) t450 t453 t454 x8_2 t445 t446 t447 = some r) ∧ Aside0 (kq ≤ kj9) ∧ Aside0 (Kd.R (Kd.int .i64) 3 w' w.heap.size (fun _ => True) (.slice Ao17 t450.length co17) t450) ∧ Aside0 (w'.heap[gb448]? = some (.cells #[.int .i64 t445, .int .i64 t446, .int .i64 t447] 27 (0, 0))) ∧ Aside0 (Below w.heap.size w w'))
      case atStart => exact ⟨(1), (by first | rfl | (simp; done) | (simp [*]; done)), H', ⟨Nat.le_refl _⟩, ⟨by (with_reducible repeat (first | apply Kd.R_alloc | apply Kd.R_drewN | apply Kd.R_drew)); exact HO_5.out⟩, ⟨by (with_reducible repeat (first | refine blk_drewN ?_ _ | refine blk_drew ?_ | refine blk_alloc ?_ _)); exact BK448.out⟩, ⟨by repeat (first | (with_reducible first | exact HB.out | apply below_alloc | apply pw_below_drewN | apply below_drew1 | refine below_set ?_ GE448.out) | exact HB.out)⟩⟩
      case round =>
       clear H'
       try clear c1
       try clear c2
       try clear p2
       try clear c5
       try clear p6
       try clear c13
       try clear c15
       try clear c21
       try clear c21b0
       try clear c21b1
       try clear c55
       try clear p2
       try clear p6
       obtain ⟨x8_2, rfl, HA, HK2, HO_5, BK448, HB⟩ := hrel
       cases gk with
       | zero => exact absurd HA.out (by simp [laws_FnWeighings.l0])
       | succ k2 =>
        have H := HA.out
        clear HA
        simp only [laws_FnWeighings.l0] at H
        by_cases c56 : x8_2 ≤ 3
        ·rw [if_pos c56] at H
         have c56b0 : decide (x8_2 ≤ 3) = true := decide_eq_true c56
         clear c56
         by_cases c57 : 0 ≤ x8_2
         ·rw [if_pos c57] at H
          have c57b0 : decide (0 ≤ x8_2) = true := decide_eq_true c57
          clear c57
          by_cases c58 : x8_2 < (t450.length : Int)
          ·rw [if_pos c58] at H
           have c58b0 : decide (x8_2 < (t450.length : Int)) = true := decide_eq_true c58
           clear c58
           replace H := Option.bind_eq_some_iff.mp H
           obtain ⟨t467, A590, H⟩ := H
           replace H : ((impl_TwiceIn.f k2 t445 t446 t447 (wrap64 (100 + (wrap64 (t449 * 4)))) (wrap64 (t453 + (rd t450 x8_2)))).bind fun t469 => (if t454 = true then (if t467 = x8_2 then (if t469 = x8_2 then (if (rd t450 x8_2) > 0 then (if t467 < 1 then (some false) else (if t467 > x8_2 then (some false) else (if t469 < 1 then (some false) else (if t469 > x8_2 then (some false) else (laws_FnWeighings.l0 k2 (wrap64 (100 + (wrap64 (t449 * 4)))) t450 t453 t454 (wrap64 (x8_2 + 1)) t445 t446 t447))))) else (laws_FnWeighings.l0 k2 (wrap64 (100 + (wrap64 (t449 * 4)))) t450 t453 t454 (wrap64 (x8_2 + 1)) t445 t446 t447)) else (some false)) else (some false)) else (if (rd t450 x8_2) > 0 then (if t467 < 1 then (some false) else (if t467 > x8_2 then (some false) else (if t469 < 1 then (some false) else (if t469 > x8_2 then (some false) else (laws_FnWeighings.l0 k2 (wrap64 (100 + (wrap64 (t449 * 4)))) t450 t453 t454 (wrap64 (x8_2 + 1)) t445 t446 t447))))) else (laws_FnWeighings.l0 k2 (wrap64 (100 + (wrap64 (t449 * 4)))) t450 t453 t454 (wrap64 (x8_2 + 1)) t445 t446 t447)))) = some r := H
           have A59 := Aside0.mk A590
           clear A590
           replace H := Option.bind_eq_some_iff.mp H
           obtain ⟨t469, A600, H⟩ := H
           replace H : (if t454 = true then (if t467 = x8_2 then (if t469 = x8_2 then (if (rd t450 x8_2) > 0 then (if t467 < 1 then (some false) else (if t467 > x8_2 then (some false) else (if t469 < 1 then (some false) else (if t469 > x8_2 then (some false) else (laws_FnWeighings.l0 k2 (wrap64 (100 + (wrap64 (t449 * 4)))) t450 t453 t454 (wrap64 (x8_2 + 1)) t445 t446 t447))))) else (laws_FnWeighings.l0 k2 (wrap64 (100 + (wrap64 (t449 * 4)))) t450 t453 t454 (wrap64 (x8_2 + 1)) t445 t446 t447)) else (some false)) else (some false)) else (if (rd t450 x8_2) > 0 then (if t467 < 1 then (some false) else (if t467 > x8_2 then (some false) else (if t469 < 1 then (some false) else (if t469 > x8_2 then (some false) else (laws_FnWeighings.l0 k2 (wrap64 (100 + (wrap64 (t449 * 4)))) t450 t453 t454 (wrap64 (x8_2 + 1)) t445 t446 t447))))) else (laws_FnWeighings.l0 k2 (wrap64 (100 + (wrap64 (t449 * 4)))) t450 t453 t454 (wrap64 (x8_2 + 1)) t445 t446 t447))) = some r := H
           have A60 := Aside0.mk A600
           clear A600
           by_cases c61 : t454 = true
           ·as_aux_lemma =>
             subst c61
             have H1 : (if t467 = x8_2 then (if t469 = x8_2 then (if (rd t450 x8_2) > 0 then (if t467 < 1 then (some false) else (if t467 > x8_2 then (some false) else (if t469 < 1 then (some false) else (if t469 > x8_2 then (some false) else (laws_FnWeighings.l0 k2 (wrap64 (100 + (wrap64 (t449 * 4)))) t450 t453 true (wrap64 (x8_2 + 1)) t445 t446 t447))))) else (laws_FnWeighings.l0 k2 (wrap64 (100 + (wrap64 (t449 * 4)))) t450 t453 true (wrap64 (x8_2 + 1)) t445 t446 t447)) else (some false)) else (some false)) = some r := by rw [if_pos rfl] at H; exact H
             clear H
             have H := H1
             clear H1
             by_cases c62 : t467 = x8_2
             ·rw [if_pos c62] at H
              have c62b0 : (t467 == x8_2) = true := beq_iff_eq.mpr c62
              have c62b1 : (t467 != x8_2) = false := bne_eq_false_iff_eq.mpr c62
              clear c62
              by_cases c63 : t469 = x8_2
              ·rw [if_pos c63] at H
               have c63b0 : (t469 == x8_2) = true := beq_iff_eq.mpr c63
               have c63b1 : (t469 != x8_2) = false := bne_eq_false_iff_eq.mpr c63
               clear c63
               by_cases c64 : (rd t450 x8_2) > 0
               ·rw [if_pos c64] at H
                have c64b0 : decide (0 < (rd t450 x8_2)) = true := decide_eq_true c64
                clear c64
                by_cases c65 : t467 < 1
                ·rw [if_pos c65] at H
                 have c65b0 : decide (t467 < 1) = true := decide_eq_true c65
                 clear c65
                 exact absurd ((Option.some.inj H).trans HR_.out) (by decide)
                ·rw [if_neg c65] at H
                 have c65b0 : decide (t467 < 1) = false := decide_eq_false c65
                 clear c65
                 by_cases c66 : t467 > x8_2
                 ·rw [if_pos c66] at H
                  have c66b0 : decide (x8_2 < t467) = true := decide_eq_true c66
                  clear c66
                  exact absurd ((Option.some.inj H).trans HR_.out) (by decide)
                 ·rw [if_neg c66] at H
                  have c66b0 : decide (x8_2 < t467) = false := decide_eq_false c66
                  clear c66
                  by_cases c67 : t469 < 1
                  ·rw [if_pos c67] at H
                   have c67b0 : decide (t469 < 1) = true := decide_eq_true c67
                   clear c67
                   exact absurd ((Option.some.inj H).trans HR_.out) (by decide)
                  ·rw [if_neg c67] at H
                   have c67b0 : decide (t469 < 1) = false := decide_eq_false c67
                   clear c67
                   by_cases c68 : t469 > x8_2
                   ·rw [if_pos c68] at H
                    have c68b0 : decide (x8_2 < t469) = true := decide_eq_true c68
                    clear c68
                    exact absurd ((Option.some.inj H).trans HR_.out) (by decide)
                   ·rw [if_neg c68] at H
                    have c68b0 : decide (x8_2 < t469) = false := decide_eq_false c68
                    clear c68
                    have H' := Aside0.mk H
                    clear H
                    try go_wp2
                    have n0_ := Aside0.mk (Kd.R_drew HO_5.out)
                    have n1_ := Aside0.mk (blk_drew BK448.out)
                    have n2_ := Aside0.mk (below_drew1 HB.out)
                    clear HO_5
                    clear BK448
                    clear HB
                    have HO_5 := n0_
                    have BK448 := n1_
                    have HB := n2_
                    clear n0_ n1_ n2_
                    have p466 : 0 ≤ (x8_2 : Int) := of_decide_eq_true (by first | (with_reducible assumption) | assumption)
                    have q466 : x8_2 < (t450.length : Int) := of_decide_eq_true (by first | (with_reducible assumption) | assumption)
                    obtain ⟨ad466, e466, hx466_0⟩ := Kd.at_int (Kd.R_reads' HO_5.out).2.2 x8_2 p466 q466
                    cases e466
                    replace p466 := eq_true p466
                    replace q466 := eq_true q466
                    refine start_ (n := 10) (S := fun w' => w'.cell? ⟨gb448, 0, none⟩ = some (.int .i64 t445) ∧ w'.cell? ⟨gb448, 1, none⟩ = some (.int .i64 t446) ∧ w'.cell? ⟨gb448, 2, none⟩ = some (.int .i64 t447) ∧ w'.cell? (ad466.add (x8_2).toNat) = some (.int .i64 (rd t450 x8_2))) (ds := []) W68_ (by kernel_rfl) rfl rfl ⟨(blk_cell BK448.out 0).trans rfl, (blk_cell BK448.out 1).trans rfl, (blk_cell BK448.out 2).trans rfl, hx466_0⟩ (fun hHeld => ?_); refine with_tabW laws_FnWeighings.tab15 laws_FnWeighings.bits15 (fun HT_ HW_ => ?_)
                    generalize wr.drew = w69 at HO_5 BK448 HB hx466_0 hHeld ⊢
                    refine pz_ (i := 1) (N := some 99) W69_ rfl rfl (any_of HT_.out (by kernel_rfl)) ?_
                    refine pz_ (i := 2) (N := some 100) W70_ rfl rfl (any_of HT_.out (by kernel_rfl)) ?_
                    refine pz_ (i := 3) (N := some 101) W71_ rfl rfl (any_of HT_.out (by kernel_rfl)) ?_
                    refine pz_ (i := 4) (N := some 102) W72_ rfl rfl (any_of HT_.out (by kernel_rfl)) ?_
                    refine pz_ (i := 5) (N := some 103) W73_ rfl rfl (any_of HT_.out (by kernel_rfl)) ?_
                    refine take_ (i := 0) (N := some 98) (v := ?_) (a' := ?_) W74_ rfl rfl (take_ofW HT_.out HW_.out (by kernel_rfl)) (fun _ _ _ h => h) (Or.inl ⟨by rfl, ?_⟩) hHeld ?_ ?_
                    rotate_left
                    ·rintro w' ⟨s0, s1, s2, s3⟩
                     go_simp
                     with_reducible rfl
                    rotate_left
                    ·simp only [Act.put, List.setIfInBounds_toArray, List.set_cons_zero, List.set_cons_succ, i64_w, i32_w]
                     rfl
                    refine take_ (i := 6) (N := some 104) (v := ?_) (a' := ?_) W75_ rfl rfl (take_ofW HT_.out HW_.out (by kernel_rfl)) (fun _ _ _ h => h) (Or.inl ⟨by rfl, ?_⟩) hHeld ?_ ?_
                    rotate_left
                    ·rintro w' ⟨s0, s1, s2, s3⟩
                     go_simp
                     with_reducible rfl
                    rotate_left
                    ·simp only [Act.put, List.setIfInBounds_toArray, List.set_cons_zero, List.set_cons_succ, i64_w, i32_w]
                     rfl
                    refine pz_ (i := 7) (N := some 105) W76_ rfl rfl (any_of HT_.out (by kernel_rfl)) ?_
                    refine one_ (i := 8) (N := some 106) W77_ rfl rfl (one_of HT_.out (by kernel_rfl)) (by decide) (fun K hK => ?_)
                    refine goes_ Try.func13 (by kernel_rfl) rfl #[.agg #[.int .i64 t445, .int .i64 t446, .int .i64 t447], .int .i64 (wrap64 (100 + (wrap64 (t449 * 4)))), .int .i64 (wrap64 (t453 - (rd t450 x8_2)))] (by rfl) rfl rfl (by (try simp only [List.map_toArray, List.map_cons, List.map_nil]); first | done | rfl | (simp only [List.length_drop, List.length_take]; rfl)) ?_
                    with_reducible refine (impl_MissingPart.calls k2 t445 t446 t447 (wrap64 (100 + (wrap64 (t449 * 4)))) (wrap64 (t453 - (rd t450 x8_2))) t467 _ A59.out).mono ?_
                    rintro e w70 ⟨rfl, hb⟩
                    have HS3_ := (hb.cell (World.block_lt_of_cell? _ _ (hHeld.2.2.2))).trans (hHeld.2.2.2)
                    refine ⟨_, rfl, ?_⟩
                    have n0_ := Aside0.mk (Kd.R_below (by (with_reducible repeat (first | apply Kd.R_alloc | apply Kd.R_drewN | apply Kd.R_drew)); exact HO_5.out) hb)
                    have n1_ := Aside0.mk (blk_below (g := gb448) (o := .cells #[.int .i64 t445, .int .i64 t446, .int .i64 t447] 27 (0, 0)) (by (with_reducible repeat (first | refine blk_drewN ?_ _ | refine blk_drew ?_ | refine blk_alloc ?_ _)); exact BK448.out) hb)
                    have n2_ := Aside0.mk (below_step (by repeat (first | (with_reducible first | exact HB.out | apply below_alloc | apply pw_below_drewN | apply below_drew1 | refine below_set ?_ GE448.out) | exact HB.out)) hb)
                    clear HO_5
                    clear BK448
                    clear HB
                    have HO_5 := n0_
                    have BK448 := n1_
                    have HB := n2_
                    clear n0_ n1_ n2_
                    (try clear hb)
                    (try clear hb2)
                    (try clear hk)
                    (try clear hi)
                    refine hK.out _ _ ⟨(blk_cell BK448.out 0).trans rfl, (blk_cell BK448.out 1).trans rfl, (blk_cell BK448.out 2).trans rfl, HS3_⟩ (fun hHeld => ?_)
                    clear hK K
                    refine norm_ (a' := ?_) ?_ ?_
                    rotate_left
                    ·show Act.put _ (some 106) _ = _
                     simp only [Act.put, List.setIfInBounds_toArray, List.set_cons_zero, List.set_cons_succ, i64_w, i32_w]
                     rfl
                    refine pz_ (i := 9) (N := some 9) W78_ rfl rfl (any_of HT_.out (by kernel_rfl)) ?_
                    refine done_ (done_of HT_.out (by kernel_rfl)) ?_
                    try go_wp2
                    have n0_ := Aside0.mk (Kd.R_drew HO_5.out)
                    have n1_ := Aside0.mk (blk_drew BK448.out)
                    have n2_ := Aside0.mk (below_drew1 HB.out)
                    clear HO_5
                    clear BK448
                    clear HB
                    have HO_5 := n0_
                    have BK448 := n1_
                    have HB := n2_
                    clear n0_ n1_ n2_
                    have p468 : 0 ≤ (x8_2 : Int) := of_decide_eq_true (by first | (with_reducible assumption) | assumption)
                    have q468 : x8_2 < (t450.length : Int) := of_decide_eq_true (by first | (with_reducible assumption) | assumption)
                    obtain ⟨ad468, e468, hx468_0⟩ := Kd.at_int (Kd.R_reads' HO_5.out).2.2 x8_2 p468 q468
                    obtain rfl : ad466 = ad468 := (by injection e468)
                    replace p468 := eq_true p468
                    replace q468 := eq_true q468
                    refine start_ (n := 10) (S := fun w' => w'.cell? ⟨gb448, 0, none⟩ = some (.int .i64 t445) ∧ w'.cell? ⟨gb448, 1, none⟩ = some (.int .i64 t446) ∧ w'.cell? ⟨gb448, 2, none⟩ = some (.int .i64 t447) ∧ w'.cell? (ad466.add (x8_2).toNat) = some (.int .i64 (rd t450 x8_2))) (ds := []) W68_ (by kernel_rfl) rfl rfl ⟨(blk_cell BK448.out 0).trans rfl, (blk_cell BK448.out 1).trans rfl, (blk_cell BK448.out 2).trans rfl, hx468_0⟩ (fun hHeld => ?_); refine with_tabW laws_FnWeighings.tab16 laws_FnWeighings.bits16 (fun HT_ HW_ => ?_)
                    generalize w70.drew = w71 at HO_5 BK448 HB hx468_0 hHeld ⊢
                    refine pz_ (i := 1) (N := some 108) W69_ rfl rfl (any_of HT_.out (by kernel_rfl)) ?_
                    refine pz_ (i := 2) (N := some 109) W70_ rfl rfl (any_of HT_.out (by kernel_rfl)) ?_
                    refine pz_ (i := 3) (N := some 110) W71_ rfl rfl (any_of HT_.out (by kernel_rfl)) ?_
                    refine pz_ (i := 4) (N := some 111) W72_ rfl rfl (any_of HT_.out (by kernel_rfl)) ?_
                    refine pz_ (i := 5) (N := some 112) W73_ rfl rfl (any_of HT_.out (by kernel_rfl)) ?_
                    refine take_ (i := 0) (N := some 107) (v := ?_) (a' := ?_) W74_ rfl rfl (take_ofW HT_.out HW_.out (by kernel_rfl)) (fun _ _ _ h => h) (Or.inl ⟨by rfl, ?_⟩) hHeld ?_ ?_
                    rotate_left
                    ·rintro w' ⟨s0, s1, s2, s3⟩
                     go_simp
                     with_reducible rfl
                    rotate_left
                    ·simp only [Act.put, List.setIfInBounds_toArray, List.set_cons_zero, List.set_cons_succ, i64_w, i32_w]
                     rfl
                    refine take_ (i := 6) (N := some 113) (v := ?_) (a' := ?_) W75_ rfl rfl (take_ofW HT_.out HW_.out (by kernel_rfl)) (fun _ _ _ h => h) (Or.inl ⟨by rfl, ?_⟩) hHeld ?_ ?_
                    rotate_left
                    ·rintro w' ⟨s0, s1, s2, s3⟩
                     go_simp
                     with_reducible rfl
                    rotate_left
                    ·simp only [Act.put, List.setIfInBounds_toArray, List.set_cons_zero, List.set_cons_succ, i64_w, i32_w]
                     rfl
                    refine pz_ (i := 7) (N := some 114) W76_ rfl rfl (any_of HT_.out (by kernel_rfl)) ?_
                    refine one_ (i := 8) (N := some 115) W77_ rfl rfl (one_of HT_.out (by kernel_rfl)) (by decide) (fun K hK => ?_)
                    refine goes_ Try.func15 (by kernel_rfl) rfl #[.agg #[.int .i64 t445, .int .i64 t446, .int .i64 t447], .int .i64 (wrap64 (100 + (wrap64 (t449 * 4)))), .int .i64 (wrap64 (t453 + (rd t450 x8_2)))] (by rfl) rfl rfl (by (try simp only [List.map_toArray, List.map_cons, List.map_nil]); first | done | rfl | (simp only [List.length_drop, List.length_take]; rfl)) ?_
                    with_reducible refine (impl_TwiceIn.calls k2 t445 t446 t447 (wrap64 (100 + (wrap64 (t449 * 4)))) (wrap64 (t453 + (rd t450 x8_2))) t469 _ A60.out).mono ?_
                    rintro e w72 ⟨rfl, hb⟩
                    have HS3_ := (hb.cell (World.block_lt_of_cell? _ _ (hHeld.2.2.2))).trans (hHeld.2.2.2)
                    refine ⟨_, rfl, ?_⟩
                    have n0_ := Aside0.mk (Kd.R_below (by (with_reducible repeat (first | apply Kd.R_alloc | apply Kd.R_drewN | apply Kd.R_drew)); exact HO_5.out) hb)
                    have n1_ := Aside0.mk (blk_below (g := gb448) (o := .cells #[.int .i64 t445, .int .i64 t446, .int .i64 t447] 27 (0, 0)) (by (with_reducible repeat (first | refine blk_drewN ?_ _ | refine blk_drew ?_ | refine blk_alloc ?_ _)); exact BK448.out) hb)
                    have n2_ := Aside0.mk (below_step (by repeat (first | (with_reducible first | exact HB.out | apply below_alloc | apply pw_below_drewN | apply below_drew1 | refine below_set ?_ GE448.out) | exact HB.out)) hb)
                    clear HO_5
                    clear BK448
                    clear HB
                    have HO_5 := n0_
                    have BK448 := n1_
                    have HB := n2_
                    clear n0_ n1_ n2_
                    (try clear hb)
                    (try clear hb2)
                    (try clear hk)
                    (try clear hi)
                    refine hK.out _ _ ⟨(blk_cell BK448.out 0).trans rfl, (blk_cell BK448.out 1).trans rfl, (blk_cell BK448.out 2).trans rfl, HS3_⟩ (fun hHeld => ?_)
                    clear hK K
                    refine norm_ (a' := ?_) ?_ ?_
                    rotate_left
                    ·show Act.put _ (some 115) _ = _
                     simp only [Act.put, List.setIfInBounds_toArray, List.set_cons_zero, List.set_cons_succ, i64_w, i32_w]
                     rfl
                    refine pz_ (i := 9) (N := some 10) W78_ rfl rfl (any_of HT_.out (by kernel_rfl)) ?_
                    refine done_ (done_of HT_.out (by kernel_rfl)) ?_
                    have p470 : 0 ≤ (x8_2 : Int) := of_decide_eq_true (by first | (with_reducible assumption) | assumption)
                    have q470 : x8_2 < (t450.length : Int) := of_decide_eq_true (by first | (with_reducible assumption) | assumption)
                    obtain ⟨ad470, e470, hx470_0⟩ := Kd.at_int (Kd.R_reads' HO_5.out).2.2 x8_2 p470 q470
                    obtain rfl : ad466 = ad470 := (by injection e470)
                    replace p470 := eq_true p470
                    replace q470 := eq_true q470
                    try go_wp2
                    go_roundg k2
                    case measure => have := HJ9.out; have := HK2.out; omega
                    case rel => exact ⟨(wrap64 (x8_2 + 1)), (by first | rfl | (simp; done) | (simp [*]; done)), H', ⟨by have := HJ9.out; have := HK2.out; omega⟩, ⟨by (with_reducible repeat (first | apply Kd.R_alloc | apply Kd.R_drewN | apply Kd.R_drew)); exact HO_5.out⟩, ⟨by (with_reducible repeat (first | refine blk_drewN ?_ _ | refine blk_drew ?_ | refine blk_alloc ?_ _)); exact BK448.out⟩, ⟨by repeat (first | (with_reducible first | exact HB.out | apply below_alloc | apply pw_below_drewN | apply below_drew1 | refine below_set ?_ GE448.out) | exact HB.out)⟩⟩
               ·rw [if_neg c64] at H
                have c64b0 : decide (0 < (rd t450 x8_2)) = false := decide_eq_false c64
                clear c64
                have H' := Aside0.mk H
                clear H
                try go_wp2
                have n0_ := Aside0.mk (Kd.R_drew HO_5.out)
                have n1_ := Aside0.mk (blk_drew BK448.out)
                have n2_ := Aside0.mk (below_drew1 HB.out)
                clear HO_5
                clear BK448
                clear HB
                have HO_5 := n0_
                have BK448 := n1_
                have HB := n2_
                clear n0_ n1_ n2_
                have p466 : 0 ≤ (x8_2 : Int) := of_decide_eq_true (by first | (with_reducible assumption) | assumption)
                have q466 : x8_2 < (t450.length : Int) := of_decide_eq_true (by first | (with_reducible assumption) | assumption)
                obtain ⟨ad466, e466, hx466_0⟩ := Kd.at_int (Kd.R_reads' HO_5.out).2.2 x8_2 p466 q466
                cases e466
                replace p466 := eq_true p466
                replace q466 := eq_true q466
                refine start_ (n := 10) (S := fun w' => w'.cell? ⟨gb448, 0, none⟩ = some (.int .i64 t445) ∧ w'.cell? ⟨gb448, 1, none⟩ = some (.int .i64 t446) ∧ w'.cell? ⟨gb448, 2, none⟩ = some (.int .i64 t447) ∧ w'.cell? (ad466.add (x8_2).toNat) = some (.int .i64 (rd t450 x8_2))) (ds := []) W68_ (by kernel_rfl) rfl rfl ⟨(blk_cell BK448.out 0).trans rfl, (blk_cell BK448.out 1).trans rfl, (blk_cell BK448.out 2).trans rfl, hx466_0⟩ (fun hHeld => ?_); refine with_tabW laws_FnWeighings.tab15 laws_FnWeighings.bits15 (fun HT_ HW_ => ?_)
                generalize wr.drew = w73 at HO_5 BK448 HB hx466_0 hHeld ⊢
                refine pz_ (i := 1) (N := some 99) W69_ rfl rfl (any_of HT_.out (by kernel_rfl)) ?_
                refine pz_ (i := 2) (N := some 100) W70_ rfl rfl (any_of HT_.out (by kernel_rfl)) ?_
                refine pz_ (i := 3) (N := some 101) W71_ rfl rfl (any_of HT_.out (by kernel_rfl)) ?_
                refine pz_ (i := 4) (N := some 102) W72_ rfl rfl (any_of HT_.out (by kernel_rfl)) ?_
                refine pz_ (i := 5) (N := some 103) W73_ rfl rfl (any_of HT_.out (by kernel_rfl)) ?_
                refine take_ (i := 0) (N := some 98) (v := ?_) (a' := ?_) W74_ rfl rfl (take_ofW HT_.out HW_.out (by kernel_rfl)) (fun _ _ _ h => h) (Or.inl ⟨by rfl, ?_⟩) hHeld ?_ ?_
                rotate_left
                ·rintro w' ⟨s0, s1, s2, s3⟩
                 go_simp
                 with_reducible rfl
                rotate_left
                ·simp only [Act.put, List.setIfInBounds_toArray, List.set_cons_zero, List.set_cons_succ, i64_w, i32_w]
                 rfl
                refine take_ (i := 6) (N := some 104) (v := ?_) (a' := ?_) W75_ rfl rfl (take_ofW HT_.out HW_.out (by kernel_rfl)) (fun _ _ _ h => h) (Or.inl ⟨by rfl, ?_⟩) hHeld ?_ ?_
                rotate_left
                ·rintro w' ⟨s0, s1, s2, s3⟩
                 go_simp
                 with_reducible rfl
                rotate_left
                ·simp only [Act.put, List.setIfInBounds_toArray, List.set_cons_zero, List.set_cons_succ, i64_w, i32_w]
                 rfl
                refine pz_ (i := 7) (N := some 105) W76_ rfl rfl (any_of HT_.out (by kernel_rfl)) ?_
                refine one_ (i := 8) (N := some 106) W77_ rfl rfl (one_of HT_.out (by kernel_rfl)) (by decide) (fun K hK => ?_)
                refine goes_ Try.func13 (by kernel_rfl) rfl #[.agg #[.int .i64 t445, .int .i64 t446, .int .i64 t447], .int .i64 (wrap64 (100 + (wrap64 (t449 * 4)))), .int .i64 (wrap64 (t453 - (rd t450 x8_2)))] (by rfl) rfl rfl (by (try simp only [List.map_toArray, List.map_cons, List.map_nil]); first | done | rfl | (simp only [List.length_drop, List.length_take]; rfl)) ?_
                with_reducible refine (impl_MissingPart.calls k2 t445 t446 t447 (wrap64 (100 + (wrap64 (t449 * 4)))) (wrap64 (t453 - (rd t450 x8_2))) t467 _ A59.out).mono ?_
                rintro e w74 ⟨rfl, hb⟩
                have HS3_ := (hb.cell (World.block_lt_of_cell? _ _ (hHeld.2.2.2))).trans (hHeld.2.2.2)
                refine ⟨_, rfl, ?_⟩
                have n0_ := Aside0.mk (Kd.R_below (by (with_reducible repeat (first | apply Kd.R_alloc | apply Kd.R_drewN | apply Kd.R_drew)); exact HO_5.out) hb)
                have n1_ := Aside0.mk (blk_below (g := gb448) (o := .cells #[.int .i64 t445, .int .i64 t446, .int .i64 t447] 27 (0, 0)) (by (with_reducible repeat (first | refine blk_drewN ?_ _ | refine blk_drew ?_ | refine blk_alloc ?_ _)); exact BK448.out) hb)
                have n2_ := Aside0.mk (below_step (by repeat (first | (with_reducible first | exact HB.out | apply below_alloc | apply pw_below_drewN | apply below_drew1 | refine below_set ?_ GE448.out) | exact HB.out)) hb)
                clear HO_5
                clear BK448
                clear HB
                have HO_5 := n0_
                have BK448 := n1_
                have HB := n2_
                clear n0_ n1_ n2_
                (try clear hb)
                (try clear hb2)
                (try clear hk)
                (try clear hi)
                refine hK.out _ _ ⟨(blk_cell BK448.out 0).trans rfl, (blk_cell BK448.out 1).trans rfl, (blk_cell BK448.out 2).trans rfl, HS3_⟩ (fun hHeld => ?_)
                clear hK K
                refine norm_ (a' := ?_) ?_ ?_
                rotate_left
                ·show Act.put _ (some 106) _ = _
                 simp only [Act.put, List.setIfInBounds_toArray, List.set_cons_zero, List.set_cons_succ, i64_w, i32_w]
                 rfl
                refine pz_ (i := 9) (N := some 9) W78_ rfl rfl (any_of HT_.out (by kernel_rfl)) ?_
                refine done_ (done_of HT_.out (by kernel_rfl)) ?_
                try go_wp2
                have n0_ := Aside0.mk (Kd.R_drew HO_5.out)
                have n1_ := Aside0.mk (blk_drew BK448.out)
                have n2_ := Aside0.mk (below_drew1 HB.out)
                clear HO_5
                clear BK448
                clear HB
                have HO_5 := n0_
                have BK448 := n1_
                have HB := n2_
                clear n0_ n1_ n2_
                have p468 : 0 ≤ (x8_2 : Int) := of_decide_eq_true (by first | (with_reducible assumption) | assumption)
                have q468 : x8_2 < (t450.length : Int) := of_decide_eq_true (by first | (with_reducible assumption) | assumption)
                obtain ⟨ad468, e468, hx468_0⟩ := Kd.at_int (Kd.R_reads' HO_5.out).2.2 x8_2 p468 q468
                obtain rfl : ad466 = ad468 := (by injection e468)
                replace p468 := eq_true p468
                replace q468 := eq_true q468
                refine start_ (n := 10) (S := fun w' => w'.cell? ⟨gb448, 0, none⟩ = some (.int .i64 t445) ∧ w'.cell? ⟨gb448, 1, none⟩ = some (.int .i64 t446) ∧ w'.cell? ⟨gb448, 2, none⟩ = some (.int .i64 t447) ∧ w'.cell? (ad466.add (x8_2).toNat) = some (.int .i64 (rd t450 x8_2))) (ds := []) W68_ (by kernel_rfl) rfl rfl ⟨(blk_cell BK448.out 0).trans rfl, (blk_cell BK448.out 1).trans rfl, (blk_cell BK448.out 2).trans rfl, hx468_0⟩ (fun hHeld => ?_); refine with_tabW laws_FnWeighings.tab16 laws_FnWeighings.bits16 (fun HT_ HW_ => ?_)
                generalize w74.drew = w75 at HO_5 BK448 HB hx468_0 hHeld ⊢
                refine pz_ (i := 1) (N := some 108) W69_ rfl rfl (any_of HT_.out (by kernel_rfl)) ?_
                refine pz_ (i := 2) (N := some 109) W70_ rfl rfl (any_of HT_.out (by kernel_rfl)) ?_
                refine pz_ (i := 3) (N := some 110) W71_ rfl rfl (any_of HT_.out (by kernel_rfl)) ?_
                refine pz_ (i := 4) (N := some 111) W72_ rfl rfl (any_of HT_.out (by kernel_rfl)) ?_
                refine pz_ (i := 5) (N := some 112) W73_ rfl rfl (any_of HT_.out (by kernel_rfl)) ?_
                refine take_ (i := 0) (N := some 107) (v := ?_) (a' := ?_) W74_ rfl rfl (take_ofW HT_.out HW_.out (by kernel_rfl)) (fun _ _ _ h => h) (Or.inl ⟨by rfl, ?_⟩) hHeld ?_ ?_
                rotate_left
                ·rintro w' ⟨s0, s1, s2, s3⟩
                 go_simp
                 with_reducible rfl
                rotate_left
                ·simp only [Act.put, List.setIfInBounds_toArray, List.set_cons_zero, List.set_cons_succ, i64_w, i32_w]
                 rfl
                refine take_ (i := 6) (N := some 113) (v := ?_) (a' := ?_) W75_ rfl rfl (take_ofW HT_.out HW_.out (by kernel_rfl)) (fun _ _ _ h => h) (Or.inl ⟨by rfl, ?_⟩) hHeld ?_ ?_
                rotate_left
                ·rintro w' ⟨s0, s1, s2, s3⟩
                 go_simp
                 with_reducible rfl
                rotate_left
                ·simp only [Act.put, List.setIfInBounds_toArray, List.set_cons_zero, List.set_cons_succ, i64_w, i32_w]
                 rfl
                refine pz_ (i := 7) (N := some 114) W76_ rfl rfl (any_of HT_.out (by kernel_rfl)) ?_
                refine one_ (i := 8) (N := some 115) W77_ rfl rfl (one_of HT_.out (by kernel_rfl)) (by decide) (fun K hK => ?_)
                refine goes_ Try.func15 (by kernel_rfl) rfl #[.agg #[.int .i64 t445, .int .i64 t446, .int .i64 t447], .int .i64 (wrap64 (100 + (wrap64 (t449 * 4)))), .int .i64 (wrap64 (t453 + (rd t450 x8_2)))] (by rfl) rfl rfl (by (try simp only [List.map_toArray, List.map_cons, List.map_nil]); first | done | rfl | (simp only [List.length_drop, List.length_take]; rfl)) ?_
                with_reducible refine (impl_TwiceIn.calls k2 t445 t446 t447 (wrap64 (100 + (wrap64 (t449 * 4)))) (wrap64 (t453 + (rd t450 x8_2))) t469 _ A60.out).mono ?_
                rintro e w76 ⟨rfl, hb⟩
                have HS3_ := (hb.cell (World.block_lt_of_cell? _ _ (hHeld.2.2.2))).trans (hHeld.2.2.2)
                refine ⟨_, rfl, ?_⟩
                have n0_ := Aside0.mk (Kd.R_below (by (with_reducible repeat (first | apply Kd.R_alloc | apply Kd.R_drewN | apply Kd.R_drew)); exact HO_5.out) hb)
                have n1_ := Aside0.mk (blk_below (g := gb448) (o := .cells #[.int .i64 t445, .int .i64 t446, .int .i64 t447] 27 (0, 0)) (by (with_reducible repeat (first | refine blk_drewN ?_ _ | refine blk_drew ?_ | refine blk_alloc ?_ _)); exact BK448.out) hb)
                have n2_ := Aside0.mk (below_step (by repeat (first | (with_reducible first | exact HB.out | apply below_alloc | apply pw_below_drewN | apply below_drew1 | refine below_set ?_ GE448.out) | exact HB.out)) hb)
                clear HO_5
                clear BK448
                clear HB
                have HO_5 := n0_
                have BK448 := n1_
                have HB := n2_
                clear n0_ n1_ n2_
                (try clear hb)
                (try clear hb2)
                (try clear hk)
                (try clear hi)
                refine hK.out _ _ ⟨(blk_cell BK448.out 0).trans rfl, (blk_cell BK448.out 1).trans rfl, (blk_cell BK448.out 2).trans rfl, HS3_⟩ (fun hHeld => ?_)
                clear hK K
                refine norm_ (a' := ?_) ?_ ?_
                rotate_left
                ·show Act.put _ (some 115) _ = _
                 simp only [Act.put, List.setIfInBounds_toArray, List.set_cons_zero, List.set_cons_succ, i64_w, i32_w]
                 rfl
                refine pz_ (i := 9) (N := some 10) W78_ rfl rfl (any_of HT_.out (by kernel_rfl)) ?_
                refine done_ (done_of HT_.out (by kernel_rfl)) ?_
                have p470 : 0 ≤ (x8_2 : Int) := of_decide_eq_true (by first | (with_reducible assumption) | assumption)
                have q470 : x8_2 < (t450.length : Int) := of_decide_eq_true (by first | (with_reducible assumption) | assumption)
                obtain ⟨ad470, e470, hx470_0⟩ := Kd.at_int (Kd.R_reads' HO_5.out).2.2 x8_2 p470 q470
                obtain rfl : ad466 = ad470 := (by injection e470)
                replace p470 := eq_true p470
                replace q470 := eq_true q470
                try go_wp2
                go_roundg k2
                case measure => have := HJ9.out; have := HK2.out; omega
                case rel => exact ⟨(wrap64 (x8_2 + 1)), (by first | rfl | (simp; done) | (simp [*]; done)), H', ⟨by have := HJ9.out; have := HK2.out; omega⟩, ⟨by (with_reducible repeat (first | apply Kd.R_alloc | apply Kd.R_drewN | apply Kd.R_drew)); exact HO_5.out⟩, ⟨by (with_reducible repeat (first | refine blk_drewN ?_ _ | refine blk_drew ?_ | refine blk_alloc ?_ _)); exact BK448.out⟩, ⟨by repeat (first | (with_reducible first | exact HB.out | apply below_alloc | apply pw_below_drewN | apply below_drew1 | refine below_set ?_ GE448.out) | exact HB.out)⟩⟩
              ·rw [if_neg c63] at H
               have c63b0 : (t469 == x8_2) = false := beq_eq_false_iff_ne.mpr c63
               have c63b1 : (t469 != x8_2) = true := bne_iff_ne.mpr c63
               exact absurd ((Option.some.inj H).trans HR_.out) (by decide)
             ·rw [if_neg c62] at H
              have c62b0 : (t467 == x8_2) = false := beq_eq_false_iff_ne.mpr c62
              have c62b1 : (t467 != x8_2) = true := bne_iff_ne.mpr c62
              exact absurd ((Option.some.inj H).trans HR_.out) (by decide)
           ·as_aux_lemma =>
             replace c61 := Bool.eq_false_iff.mpr c61
             subst c61
             have H1 : (if (rd t450 x8_2) > 0 then (if t467 < 1 then (some false) else (if t467 > x8_2 then (some false) else (if t469 < 1 then (some false) else (if t469 > x8_2 then (some false) else (laws_FnWeighings.l0 k2 (wrap64 (100 + (wrap64 (t449 * 4)))) t450 t453 false (wrap64 (x8_2 + 1)) t445 t446 t447))))) else (laws_FnWeighings.l0 k2 (wrap64 (100 + (wrap64 (t449 * 4)))) t450 t453 false (wrap64 (x8_2 + 1)) t445 t446 t447)) = some r := by rw [if_neg (show ¬ (false = true) by decide)] at H; exact H
             clear H
             have H := H1
             clear H1
             by_cases c77 : (rd t450 x8_2) > 0
             ·rw [if_pos c77] at H
              have c77b0 : decide (0 < (rd t450 x8_2)) = true := decide_eq_true c77
              clear c77
              by_cases c78 : t467 < 1
              ·rw [if_pos c78] at H
               have c78b0 : decide (t467 < 1) = true := decide_eq_true c78
               clear c78
               exact absurd ((Option.some.inj H).trans HR_.out) (by decide)
              ·rw [if_neg c78] at H
               have c78b0 : decide (t467 < 1) = false := decide_eq_false c78
               clear c78
               by_cases c79 : t467 > x8_2
               ·rw [if_pos c79] at H
                have c79b0 : decide (x8_2 < t467) = true := decide_eq_true c79
                clear c79
                exact absurd ((Option.some.inj H).trans HR_.out) (by decide)
               ·rw [if_neg c79] at H
                have c79b0 : decide (x8_2 < t467) = false := decide_eq_false c79
                clear c79
                by_cases c80 : t469 < 1
                ·rw [if_pos c80] at H
                 have c80b0 : decide (t469 < 1) = true := decide_eq_true c80
                 clear c80
                 exact absurd ((Option.some.inj H).trans HR_.out) (by decide)
                ·rw [if_neg c80] at H
                 have c80b0 : decide (t469 < 1) = false := decide_eq_false c80
                 clear c80
                 by_cases c81 : t469 > x8_2
                 ·rw [if_pos c81] at H
                  have c81b0 : decide (x8_2 < t469) = true := decide_eq_true c81
                  clear c81
                  exact absurd ((Option.some.inj H).trans HR_.out) (by decide)
                 ·rw [if_neg c81] at H
                  have c81b0 : decide (x8_2 < t469) = false := decide_eq_false c81
                  clear c81
                  have H' := Aside0.mk H
                  clear H
                  try go_wp2
                  have n0_ := Aside0.mk (Kd.R_drew HO_5.out)
                  have n1_ := Aside0.mk (blk_drew BK448.out)
                  have n2_ := Aside0.mk (below_drew1 HB.out)
                  clear HO_5
                  clear BK448
                  clear HB
                  have HO_5 := n0_
                  have BK448 := n1_
                  have HB := n2_
                  clear n0_ n1_ n2_
                  have p466 : 0 ≤ (x8_2 : Int) := of_decide_eq_true (by first | (with_reducible assumption) | assumption)
                  have q466 : x8_2 < (t450.length : Int) := of_decide_eq_true (by first | (with_reducible assumption) | assumption)
                  obtain ⟨ad466, e466, hx466_0⟩ := Kd.at_int (Kd.R_reads' HO_5.out).2.2 x8_2 p466 q466
                  cases e466
                  replace p466 := eq_true p466
                  replace q466 := eq_true q466
                  refine start_ (n := 10) (S := fun w' => w'.cell? ⟨gb448, 0, none⟩ = some (.int .i64 t445) ∧ w'.cell? ⟨gb448, 1, none⟩ = some (.int .i64 t446) ∧ w'.cell? ⟨gb448, 2, none⟩ = some (.int .i64 t447) ∧ w'.cell? (ad466.add (x8_2).toNat) = some (.int .i64 (rd t450 x8_2))) (ds := []) W68_ (by kernel_rfl) rfl rfl ⟨(blk_cell BK448.out 0).trans rfl, (blk_cell BK448.out 1).trans rfl, (blk_cell BK448.out 2).trans rfl, hx466_0⟩ (fun hHeld => ?_); refine with_tabW laws_FnWeighings.tab15 laws_FnWeighings.bits15 (fun HT_ HW_ => ?_)
                  generalize wr.drew = w82 at HO_5 BK448 HB hx466_0 hHeld ⊢
                  refine pz_ (i := 1) (N := some 99) W69_ rfl rfl (any_of HT_.out (by kernel_rfl)) ?_
                  refine pz_ (i := 2) (N := some 100) W70_ rfl rfl (any_of HT_.out (by kernel_rfl)) ?_
                  refine pz_ (i := 3) (N := some 101) W71_ rfl rfl (any_of HT_.out (by kernel_rfl)) ?_
                  refine pz_ (i := 4) (N := some 102) W72_ rfl rfl (any_of HT_.out (by kernel_rfl)) ?_
                  refine pz_ (i := 5) (N := some 103) W73_ rfl rfl (any_of HT_.out (by kernel_rfl)) ?_
                  refine take_ (i := 0) (N := some 98) (v := ?_) (a' := ?_) W74_ rfl rfl (take_ofW HT_.out HW_.out (by kernel_rfl)) (fun _ _ _ h => h) (Or.inl ⟨by rfl, ?_⟩) hHeld ?_ ?_
                  rotate_left
                  ·rintro w' ⟨s0, s1, s2, s3⟩
                   go_simp
                   with_reducible rfl
                  rotate_left
                  ·simp only [Act.put, List.setIfInBounds_toArray, List.set_cons_zero, List.set_cons_succ, i64_w, i32_w]
                   rfl
                  refine take_ (i := 6) (N := some 104) (v := ?_) (a' := ?_) W75_ rfl rfl (take_ofW HT_.out HW_.out (by kernel_rfl)) (fun _ _ _ h => h) (Or.inl ⟨by rfl, ?_⟩) hHeld ?_ ?_
                  rotate_left
                  ·rintro w' ⟨s0, s1, s2, s3⟩
                   go_simp
                   with_reducible rfl
                  rotate_left
                  ·simp only [Act.put, List.setIfInBounds_toArray, List.set_cons_zero, List.set_cons_succ, i64_w, i32_w]
                   rfl
                  refine pz_ (i := 7) (N := some 105) W76_ rfl rfl (any_of HT_.out (by kernel_rfl)) ?_
                  refine one_ (i := 8) (N := some 106) W77_ rfl rfl (one_of HT_.out (by kernel_rfl)) (by decide) (fun K hK => ?_)
                  refine goes_ Try.func13 (by kernel_rfl) rfl #[.agg #[.int .i64 t445, .int .i64 t446, .int .i64 t447], .int .i64 (wrap64 (100 + (wrap64 (t449 * 4)))), .int .i64 (wrap64 (t453 - (rd t450 x8_2)))] (by rfl) rfl rfl (by (try simp only [List.map_toArray, List.map_cons, List.map_nil]); first | done | rfl | (simp only [List.length_drop, List.length_take]; rfl)) ?_
                  with_reducible refine (impl_MissingPart.calls k2 t445 t446 t447 (wrap64 (100 + (wrap64 (t449 * 4)))) (wrap64 (t453 - (rd t450 x8_2))) t467 _ A59.out).mono ?_
                  rintro e w83 ⟨rfl, hb⟩
                  have HS3_ := (hb.cell (World.block_lt_of_cell? _ _ (hHeld.2.2.2))).trans (hHeld.2.2.2)
                  refine ⟨_, rfl, ?_⟩
                  have n0_ := Aside0.mk (Kd.R_below (by (with_reducible repeat (first | apply Kd.R_alloc | apply Kd.R_drewN | apply Kd.R_drew)); exact HO_5.out) hb)
                  have n1_ := Aside0.mk (blk_below (g := gb448) (o := .cells #[.int .i64 t445, .int .i64 t446, .int .i64 t447] 27 (0, 0)) (by (with_reducible repeat (first | refine blk_drewN ?_ _ | refine blk_drew ?_ | refine blk_alloc ?_ _)); exact BK448.out) hb)
                  have n2_ := Aside0.mk (below_step (by repeat (first | (with_reducible first | exact HB.out | apply below_alloc | apply pw_below_drewN | apply below_drew1 | refine below_set ?_ GE448.out) | exact HB.out)) hb)
                  clear HO_5
                  clear BK448
                  clear HB
                  have HO_5 := n0_
                  have BK448 := n1_
                  have HB := n2_
                  clear n0_ n1_ n2_
                  (try clear hb)
                  (try clear hb2)
                  (try clear hk)
                  (try clear hi)
                  refine hK.out _ _ ⟨(blk_cell BK448.out 0).trans rfl, (blk_cell BK448.out 1).trans rfl, (blk_cell BK448.out 2).trans rfl, HS3_⟩ (fun hHeld => ?_)
                  clear hK K
                  refine norm_ (a' := ?_) ?_ ?_
                  rotate_left
                  ·show Act.put _ (some 106) _ = _
                   simp only [Act.put, List.setIfInBounds_toArray, List.set_cons_zero, List.set_cons_succ, i64_w, i32_w]
                   rfl
                  refine pz_ (i := 9) (N := some 9) W78_ rfl rfl (any_of HT_.out (by kernel_rfl)) ?_
                  refine done_ (done_of HT_.out (by kernel_rfl)) ?_
                  try go_wp2
                  have n0_ := Aside0.mk (Kd.R_drew HO_5.out)
                  have n1_ := Aside0.mk (blk_drew BK448.out)
                  have n2_ := Aside0.mk (below_drew1 HB.out)
                  clear HO_5
                  clear BK448
                  clear HB
                  have HO_5 := n0_
                  have BK448 := n1_
                  have HB := n2_
                  clear n0_ n1_ n2_
                  have p468 : 0 ≤ (x8_2 : Int) := of_decide_eq_true (by first | (with_reducible assumption) | assumption)
                  have q468 : x8_2 < (t450.length : Int) := of_decide_eq_true (by first | (with_reducible assumption) | assumption)
                  obtain ⟨ad468, e468, hx468_0⟩ := Kd.at_int (Kd.R_reads' HO_5.out).2.2 x8_2 p468 q468
                  obtain rfl : ad466 = ad468 := (by injection e468)
                  replace p468 := eq_true p468
                  replace q468 := eq_true q468
                  refine start_ (n := 10) (S := fun w' => w'.cell? ⟨gb448, 0, none⟩ = some (.int .i64 t445) ∧ w'.cell? ⟨gb448, 1, none⟩ = some (.int .i64 t446) ∧ w'.cell? ⟨gb448, 2, none⟩ = some (.int .i64 t447) ∧ w'.cell? (ad466.add (x8_2).toNat) = some (.int .i64 (rd t450 x8_2))) (ds := []) W68_ (by kernel_rfl) rfl rfl ⟨(blk_cell BK448.out 0).trans rfl, (blk_cell BK448.out 1).trans rfl, (blk_cell BK448.out 2).trans rfl, hx468_0⟩ (fun hHeld => ?_); refine with_tabW laws_FnWeighings.tab16 laws_FnWeighings.bits16 (fun HT_ HW_ => ?_)
                  generalize w83.drew = w84 at HO_5 BK448 HB hx468_0 hHeld ⊢
                  refine pz_ (i := 1) (N := some 108) W69_ rfl rfl (any_of HT_.out (by kernel_rfl)) ?_
                  refine pz_ (i := 2) (N := some 109) W70_ rfl rfl (any_of HT_.out (by kernel_rfl)) ?_
                  refine pz_ (i := 3) (N := some 110) W71_ rfl rfl (any_of HT_.out (by kernel_rfl)) ?_
                  refine pz_ (i := 4) (N := some 111) W72_ rfl rfl (any_of HT_.out (by kernel_rfl)) ?_
                  refine pz_ (i := 5) (N := some 112) W73_ rfl rfl (any_of HT_.out (by kernel_rfl)) ?_
                  refine take_ (i := 0) (N := some 107) (v := ?_) (a' := ?_) W74_ rfl rfl (take_ofW HT_.out HW_.out (by kernel_rfl)) (fun _ _ _ h => h) (Or.inl ⟨by rfl, ?_⟩) hHeld ?_ ?_
                  rotate_left
                  ·rintro w' ⟨s0, s1, s2, s3⟩
                   go_simp
                   with_reducible rfl
                  rotate_left
                  ·simp only [Act.put, List.setIfInBounds_toArray, List.set_cons_zero, List.set_cons_succ, i64_w, i32_w]
                   rfl
                  refine take_ (i := 6) (N := some 113) (v := ?_) (a' := ?_) W75_ rfl rfl (take_ofW HT_.out HW_.out (by kernel_rfl)) (fun _ _ _ h => h) (Or.inl ⟨by rfl, ?_⟩) hHeld ?_ ?_
                  rotate_left
                  ·rintro w' ⟨s0, s1, s2, s3⟩
                   go_simp
                   with_reducible rfl
                  rotate_left
                  ·simp only [Act.put, List.setIfInBounds_toArray, List.set_cons_zero, List.set_cons_succ, i64_w, i32_w]
                   rfl
                  refine pz_ (i := 7) (N := some 114) W76_ rfl rfl (any_of HT_.out (by kernel_rfl)) ?_
                  refine one_ (i := 8) (N := some 115) W77_ rfl rfl (one_of HT_.out (by kernel_rfl)) (by decide) (fun K hK => ?_)
                  refine goes_ Try.func15 (by kernel_rfl) rfl #[.agg #[.int .i64 t445, .int .i64 t446, .int .i64 t447], .int .i64 (wrap64 (100 + (wrap64 (t449 * 4)))), .int .i64 (wrap64 (t453 + (rd t450 x8_2)))] (by rfl) rfl rfl (by (try simp only [List.map_toArray, List.map_cons, List.map_nil]); first | done | rfl | (simp only [List.length_drop, List.length_take]; rfl)) ?_
                  with_reducible refine (impl_TwiceIn.calls k2 t445 t446 t447 (wrap64 (100 + (wrap64 (t449 * 4)))) (wrap64 (t453 + (rd t450 x8_2))) t469 _ A60.out).mono ?_
                  rintro e w85 ⟨rfl, hb⟩
                  have HS3_ := (hb.cell (World.block_lt_of_cell? _ _ (hHeld.2.2.2))).trans (hHeld.2.2.2)
                  refine ⟨_, rfl, ?_⟩
                  have n0_ := Aside0.mk (Kd.R_below (by (with_reducible repeat (first | apply Kd.R_alloc | apply Kd.R_drewN | apply Kd.R_drew)); exact HO_5.out) hb)
                  have n1_ := Aside0.mk (blk_below (g := gb448) (o := .cells #[.int .i64 t445, .int .i64 t446, .int .i64 t447] 27 (0, 0)) (by (with_reducible repeat (first | refine blk_drewN ?_ _ | refine blk_drew ?_ | refine blk_alloc ?_ _)); exact BK448.out) hb)
                  have n2_ := Aside0.mk (below_step (by repeat (first | (with_reducible first | exact HB.out | apply below_alloc | apply pw_below_drewN | apply below_drew1 | refine below_set ?_ GE448.out) | exact HB.out)) hb)
                  clear HO_5
                  clear BK448
                  clear HB
                  have HO_5 := n0_
                  have BK448 := n1_
                  have HB := n2_
                  clear n0_ n1_ n2_
                  (try clear hb)
                  (try clear hb2)
                  (try clear hk)
                  (try clear hi)
                  refine hK.out _ _ ⟨(blk_cell BK448.out 0).trans rfl, (blk_cell BK448.out 1).trans rfl, (blk_cell BK448.out 2).trans rfl, HS3_⟩ (fun hHeld => ?_)
                  clear hK K
                  refine norm_ (a' := ?_) ?_ ?_
                  rotate_left
                  ·show Act.put _ (some 115) _ = _
                   simp only [Act.put, List.setIfInBounds_toArray, List.set_cons_zero, List.set_cons_succ, i64_w, i32_w]
                   rfl
                  refine pz_ (i := 9) (N := some 10) W78_ rfl rfl (any_of HT_.out (by kernel_rfl)) ?_
                  refine done_ (done_of HT_.out (by kernel_rfl)) ?_
                  have p471 : 0 ≤ (x8_2 : Int) := of_decide_eq_true (by first | (with_reducible assumption) | assumption)
                  have q471 : x8_2 < (t450.length : Int) := of_decide_eq_true (by first | (with_reducible assumption) | assumption)
                  obtain ⟨ad471, e471, hx471_0⟩ := Kd.at_int (Kd.R_reads' HO_5.out).2.2 x8_2 p471 q471
                  obtain rfl : ad466 = ad471 := (by injection e471)
                  replace p471 := eq_true p471
                  replace q471 := eq_true q471
                  try go_wp2
                  go_roundg k2
                  case measure => have := HJ9.out; have := HK2.out; omega
                  case rel => exact ⟨(wrap64 (x8_2 + 1)), (by first | rfl | (simp; done) | (simp [*]; done)), H', ⟨by have := HJ9.out; have := HK2.out; omega⟩, ⟨by (with_reducible repeat (first | apply Kd.R_alloc | apply Kd.R_drewN | apply Kd.R_drew)); exact HO_5.out⟩, ⟨by (with_reducible repeat (first | refine blk_drewN ?_ _ | refine blk_drew ?_ | refine blk_alloc ?_ _)); exact BK448.out⟩, ⟨by repeat (first | (with_reducible first | exact HB.out | apply below_alloc | apply pw_below_drewN | apply below_drew1 | refine below_set ?_ GE448.out) | exact HB.out)⟩⟩
             ·rw [if_neg c77] at H
              have c77b0 : decide (0 < (rd t450 x8_2)) = false := decide_eq_false c77
              clear c77
              have H' := Aside0.mk H
              clear H
              try go_wp2
              have n0_ := Aside0.mk (Kd.R_drew HO_5.out)
              have n1_ := Aside0.mk (blk_drew BK448.out)
              have n2_ := Aside0.mk (below_drew1 HB.out)
              clear HO_5
              clear BK448
              clear HB
              have HO_5 := n0_
              have BK448 := n1_
              have HB := n2_
              clear n0_ n1_ n2_
              have p466 : 0 ≤ (x8_2 : Int) := of_decide_eq_true (by first | (with_reducible assumption) | assumption)
              have q466 : x8_2 < (t450.length : Int) := of_decide_eq_true (by first | (with_reducible assumption) | assumption)
              obtain ⟨ad466, e466, hx466_0⟩ := Kd.at_int (Kd.R_reads' HO_5.out).2.2 x8_2 p466 q466
              cases e466
              replace p466 := eq_true p466
              replace q466 := eq_true q466
              refine start_ (n := 10) (S := fun w' => w'.cell? ⟨gb448, 0, none⟩ = some (.int .i64 t445) ∧ w'.cell? ⟨gb448, 1, none⟩ = some (.int .i64 t446) ∧ w'.cell? ⟨gb448, 2, none⟩ = some (.int .i64 t447) ∧ w'.cell? (ad466.add (x8_2).toNat) = some (.int .i64 (rd t450 x8_2))) (ds := []) W68_ (by kernel_rfl) rfl rfl ⟨(blk_cell BK448.out 0).trans rfl, (blk_cell BK448.out 1).trans rfl, (blk_cell BK448.out 2).trans rfl, hx466_0⟩ (fun hHeld => ?_); refine with_tabW laws_FnWeighings.tab15 laws_FnWeighings.bits15 (fun HT_ HW_ => ?_)
              generalize wr.drew = w86 at HO_5 BK448 HB hx466_0 hHeld ⊢
              refine pz_ (i := 1) (N := some 99) W69_ rfl rfl (any_of HT_.out (by kernel_rfl)) ?_
              refine pz_ (i := 2) (N := some 100) W70_ rfl rfl (any_of HT_.out (by kernel_rfl)) ?_
              refine pz_ (i := 3) (N := some 101) W71_ rfl rfl (any_of HT_.out (by kernel_rfl)) ?_
              refine pz_ (i := 4) (N := some 102) W72_ rfl rfl (any_of HT_.out (by kernel_rfl)) ?_
              refine pz_ (i := 5) (N := some 103) W73_ rfl rfl (any_of HT_.out (by kernel_rfl)) ?_
              refine take_ (i := 0) (N := some 98) (v := ?_) (a' := ?_) W74_ rfl rfl (take_ofW HT_.out HW_.out (by kernel_rfl)) (fun _ _ _ h => h) (Or.inl ⟨by rfl, ?_⟩) hHeld ?_ ?_
              rotate_left
              ·rintro w' ⟨s0, s1, s2, s3⟩
               go_simp
               with_reducible rfl
              rotate_left
              ·simp only [Act.put, List.setIfInBounds_toArray, List.set_cons_zero, List.set_cons_succ, i64_w, i32_w]
               rfl
              refine take_ (i := 6) (N := some 104) (v := ?_) (a' := ?_) W75_ rfl rfl (take_ofW HT_.out HW_.out (by kernel_rfl)) (fun _ _ _ h => h) (Or.inl ⟨by rfl, ?_⟩) hHeld ?_ ?_
              rotate_left
              ·rintro w' ⟨s0, s1, s2, s3⟩
               go_simp
               with_reducible rfl
              rotate_left
              ·simp only [Act.put, List.setIfInBounds_toArray, List.set_cons_zero, List.set_cons_succ, i64_w, i32_w]
               rfl
              refine pz_ (i := 7) (N := some 105) W76_ rfl rfl (any_of HT_.out (by kernel_rfl)) ?_
              refine one_ (i := 8) (N := some 106) W77_ rfl rfl (one_of HT_.out (by kernel_rfl)) (by decide) (fun K hK => ?_)
              refine goes_ Try.func13 (by kernel_rfl) rfl #[.agg #[.int .i64 t445, .int .i64 t446, .int .i64 t447], .int .i64 (wrap64 (100 + (wrap64 (t449 * 4)))), .int .i64 (wrap64 (t453 - (rd t450 x8_2)))] (by rfl) rfl rfl (by (try simp only [List.map_toArray, List.map_cons, List.map_nil]); first | done | rfl | (simp only [List.length_drop, List.length_take]; rfl)) ?_
              with_reducible refine (impl_MissingPart.calls k2 t445 t446 t447 (wrap64 (100 + (wrap64 (t449 * 4)))) (wrap64 (t453 - (rd t450 x8_2))) t467 _ A59.out).mono ?_
              rintro e w87 ⟨rfl, hb⟩
              have HS3_ := (hb.cell (World.block_lt_of_cell? _ _ (hHeld.2.2.2))).trans (hHeld.2.2.2)
              refine ⟨_, rfl, ?_⟩
              have n0_ := Aside0.mk (Kd.R_below (by (with_reducible repeat (first | apply Kd.R_alloc | apply Kd.R_drewN | apply Kd.R_drew)); exact HO_5.out) hb)
              have n1_ := Aside0.mk (blk_below (g := gb448) (o := .cells #[.int .i64 t445, .int .i64 t446, .int .i64 t447] 27 (0, 0)) (by (with_reducible repeat (first | refine blk_drewN ?_ _ | refine blk_drew ?_ | refine blk_alloc ?_ _)); exact BK448.out) hb)
              have n2_ := Aside0.mk (below_step (by repeat (first | (with_reducible first | exact HB.out | apply below_alloc | apply pw_below_drewN | apply below_drew1 | refine below_set ?_ GE448.out) | exact HB.out)) hb)
              clear HO_5
              clear BK448
              clear HB
              have HO_5 := n0_
              have BK448 := n1_
              have HB := n2_
              clear n0_ n1_ n2_
              (try clear hb)
              (try clear hb2)
              (try clear hk)
              (try clear hi)
              refine hK.out _ _ ⟨(blk_cell BK448.out 0).trans rfl, (blk_cell BK448.out 1).trans rfl, (blk_cell BK448.out 2).trans rfl, HS3_⟩ (fun hHeld => ?_)
              clear hK K
              refine norm_ (a' := ?_) ?_ ?_
              rotate_left
              ·show Act.put _ (some 106) _ = _
               simp only [Act.put, List.setIfInBounds_toArray, List.set_cons_zero, List.set_cons_succ, i64_w, i32_w]
               rfl
              refine pz_ (i := 9) (N := some 9) W78_ rfl rfl (any_of HT_.out (by kernel_rfl)) ?_
              refine done_ (done_of HT_.out (by kernel_rfl)) ?_
              try go_wp2
              have n0_ := Aside0.mk (Kd.R_drew HO_5.out)
              have n1_ := Aside0.mk (blk_drew BK448.out)
              have n2_ := Aside0.mk (below_drew1 HB.out)
              clear HO_5
              clear BK448
              clear HB
              have HO_5 := n0_
              have BK448 := n1_
              have HB := n2_
              clear n0_ n1_ n2_
              have p468 : 0 ≤ (x8_2 : Int) := of_decide_eq_true (by first | (with_reducible assumption) | assumption)
              have q468 : x8_2 < (t450.length : Int) := of_decide_eq_true (by first | (with_reducible assumption) | assumption)
              obtain ⟨ad468, e468, hx468_0⟩ := Kd.at_int (Kd.R_reads' HO_5.out).2.2 x8_2 p468 q468
              obtain rfl : ad466 = ad468 := (by injection e468)
              replace p468 := eq_true p468
              replace q468 := eq_true q468
              refine start_ (n := 10) (S := fun w' => w'.cell? ⟨gb448, 0, none⟩ = some (.int .i64 t445) ∧ w'.cell? ⟨gb448, 1, none⟩ = some (.int .i64 t446) ∧ w'.cell? ⟨gb448, 2, none⟩ = some (.int .i64 t447) ∧ w'.cell? (ad466.add (x8_2).toNat) = some (.int .i64 (rd t450 x8_2))) (ds := []) W68_ (by kernel_rfl) rfl rfl ⟨(blk_cell BK448.out 0).trans rfl, (blk_cell BK448.out 1).trans rfl, (blk_cell BK448.out 2).trans rfl, hx468_0⟩ (fun hHeld => ?_); refine with_tabW laws_FnWeighings.tab16 laws_FnWeighings.bits16 (fun HT_ HW_ => ?_)
              generalize w87.drew = w88 at HO_5 BK448 HB hx468_0 hHeld ⊢
              refine pz_ (i := 1) (N := some 108) W69_ rfl rfl (any_of HT_.out (by kernel_rfl)) ?_
              refine pz_ (i := 2) (N := some 109) W70_ rfl rfl (any_of HT_.out (by kernel_rfl)) ?_
              refine pz_ (i := 3) (N := some 110) W71_ rfl rfl (any_of HT_.out (by kernel_rfl)) ?_
              refine pz_ (i := 4) (N := some 111) W72_ rfl rfl (any_of HT_.out (by kernel_rfl)) ?_
              refine pz_ (i := 5) (N := some 112) W73_ rfl rfl (any_of HT_.out (by kernel_rfl)) ?_
              refine take_ (i := 0) (N := some 107) (v := ?_) (a' := ?_) W74_ rfl rfl (take_ofW HT_.out HW_.out (by kernel_rfl)) (fun _ _ _ h => h) (Or.inl ⟨by rfl, ?_⟩) hHeld ?_ ?_
              rotate_left
              ·rintro w' ⟨s0, s1, s2, s3⟩
               go_simp
               with_reducible rfl
              rotate_left
              ·simp only [Act.put, List.setIfInBounds_toArray, List.set_cons_zero, List.set_cons_succ, i64_w, i32_w]
               rfl
              refine take_ (i := 6) (N := some 113) (v := ?_) (a' := ?_) W75_ rfl rfl (take_ofW HT_.out HW_.out (by kernel_rfl)) (fun _ _ _ h => h) (Or.inl ⟨by rfl, ?_⟩) hHeld ?_ ?_
              rotate_left
              ·rintro w' ⟨s0, s1, s2, s3⟩
               go_simp
               with_reducible rfl
              rotate_left
              ·simp only [Act.put, List.setIfInBounds_toArray, List.set_cons_zero, List.set_cons_succ, i64_w, i32_w]
               rfl
              refine pz_ (i := 7) (N := some 114) W76_ rfl rfl (any_of HT_.out (by kernel_rfl)) ?_
              refine one_ (i := 8) (N := some 115) W77_ rfl rfl (one_of HT_.out (by kernel_rfl)) (by decide) (fun K hK => ?_)
              refine goes_ Try.func15 (by kernel_rfl) rfl #[.agg #[.int .i64 t445, .int .i64 t446, .int .i64 t447], .int .i64 (wrap64 (100 + (wrap64 (t449 * 4)))), .int .i64 (wrap64 (t453 + (rd t450 x8_2)))] (by rfl) rfl rfl (by (try simp only [List.map_toArray, List.map_cons, List.map_nil]); first | done | rfl | (simp only [List.length_drop, List.length_take]; rfl)) ?_
              with_reducible refine (impl_TwiceIn.calls k2 t445 t446 t447 (wrap64 (100 + (wrap64 (t449 * 4)))) (wrap64 (t453 + (rd t450 x8_2))) t469 _ A60.out).mono ?_
              rintro e w89 ⟨rfl, hb⟩
              have HS3_ := (hb.cell (World.block_lt_of_cell? _ _ (hHeld.2.2.2))).trans (hHeld.2.2.2)
              refine ⟨_, rfl, ?_⟩
              have n0_ := Aside0.mk (Kd.R_below (by (with_reducible repeat (first | apply Kd.R_alloc | apply Kd.R_drewN | apply Kd.R_drew)); exact HO_5.out) hb)
              have n1_ := Aside0.mk (blk_below (g := gb448) (o := .cells #[.int .i64 t445, .int .i64 t446, .int .i64 t447] 27 (0, 0)) (by (with_reducible repeat (first | refine blk_drewN ?_ _ | refine blk_drew ?_ | refine blk_alloc ?_ _)); exact BK448.out) hb)
              have n2_ := Aside0.mk (below_step (by repeat (first | (with_reducible first | exact HB.out | apply below_alloc | apply pw_below_drewN | apply below_drew1 | refine below_set ?_ GE448.out) | exact HB.out)) hb)
              clear HO_5
              clear BK448
              clear HB
              have HO_5 := n0_
              have BK448 := n1_
              have HB := n2_
              clear n0_ n1_ n2_
              (try clear hb)
              (try clear hb2)
              (try clear hk)
              (try clear hi)
              refine hK.out _ _ ⟨(blk_cell BK448.out 0).trans rfl, (blk_cell BK448.out 1).trans rfl, (blk_cell BK448.out 2).trans rfl, HS3_⟩ (fun hHeld => ?_)
              clear hK K
              refine norm_ (a' := ?_) ?_ ?_
              rotate_left
              ·show Act.put _ (some 115) _ = _
               simp only [Act.put, List.setIfInBounds_toArray, List.set_cons_zero, List.set_cons_succ, i64_w, i32_w]
               rfl
              refine pz_ (i := 9) (N := some 10) W78_ rfl rfl (any_of HT_.out (by kernel_rfl)) ?_
              refine done_ (done_of HT_.out (by kernel_rfl)) ?_
              have p471 : 0 ≤ (x8_2 : Int) := of_decide_eq_true (by first | (with_reducible assumption) | assumption)
              have q471 : x8_2 < (t450.length : Int) := of_decide_eq_true (by first | (with_reducible assumption) | assumption)
              obtain ⟨ad471, e471, hx471_0⟩ := Kd.at_int (Kd.R_reads' HO_5.out).2.2 x8_2 p471 q471
              obtain rfl : ad466 = ad471 := (by injection e471)
              replace p471 := eq_true p471
              replace q471 := eq_true q471
              try go_wp2
              go_roundg k2
              case measure => have := HJ9.out; have := HK2.out; omega
              case rel => exact ⟨(wrap64 (x8_2 + 1)), (by first | rfl | (simp; done) | (simp [*]; done)), H', ⟨by have := HJ9.out; have := HK2.out; omega⟩, ⟨by (with_reducible repeat (first | apply Kd.R_alloc | apply Kd.R_drewN | apply Kd.R_drew)); exact HO_5.out⟩, ⟨by (with_reducible repeat (first | refine blk_drewN ?_ _ | refine blk_drew ?_ | refine blk_alloc ?_ _)); exact BK448.out⟩, ⟨by repeat (first | (with_reducible first | exact HB.out | apply below_alloc | apply pw_below_drewN | apply below_drew1 | refine below_set ?_ GE448.out) | exact HB.out)⟩⟩
          ·rw [if_neg c58] at H
           exact absurd H (by simp)
         ·rw [if_neg c57] at H
          exact absurd H (by simp)
        ·as_aux_lemma =>
          rw [if_neg c56] at H
          have c56b0 : decide (x8_2 ≤ 3) = false := decide_eq_false c56
          clear c56
          replace H := Option.bind_eq_some_iff.mp H
          obtain ⟨⟨t472, t473⟩, A900, H⟩ := H
          replace H : (if t473 = true then (laws_FnWeighings.j2 k2 (wrap64 (100 + (wrap64 (t449 * 4)))) t453 (t472 != (wrap64 (100 + (wrap64 (t449 * 4))))) t445 t446 t447) else (laws_FnWeighings.j2 k2 (wrap64 (100 + (wrap64 (t449 * 4)))) t453 true t445 t446 t447)) = some r := H
          have A90 := Aside0.mk A900
          clear A900
          have HC91 := Aside0.mk H
          clear H
          have hcz92_0 : wr.cell? ⟨gb448, 0, none⟩ = some (.int .i64 t445) := (blk_cell BK448.out 0).trans rfl
          have hcz92_1 : wr.cell? ⟨gb448, 1, none⟩ = some (.int .i64 t446) := (blk_cell BK448.out 1).trans rfl
          have hcz92_2 : wr.cell? ⟨gb448, 2, none⟩ = some (.int .i64 t447) := (blk_cell BK448.out 2).trans rfl
          have hfz92_0 := blk_frozen BK448.out 0
          have hfz92_1 := blk_frozen BK448.out 1
          have hfz92_2 := blk_frozen BK448.out 2
          go_upto_region 20 with (first | ((with_reducible refine gate_callee (f := 17) rfl ?_); refine goesL_ (some 155) rfl rfl Try.func17 (by kernel_rfl) rfl #[.agg #[.int .i64 t445, .int .i64 t446, .int .i64 t447], .int .i64 t453] rfl (by (try simp only [List.map_toArray, List.map_cons, List.map_nil]); first | done | rfl | (simp only [List.length_drop, List.length_take]; rfl)) ?_; (with_reducible refine (impl_FlourOf.calls k2 t445 t446 t447 t453 t472 t473 _ A90.out).mono ?_); rintro e w93 ⟨rfl, hb⟩; refine ⟨_, rfl, ?_⟩; have n0_ := Aside0.mk (Kd.R_below (by (with_reducible repeat (first | apply Kd.R_alloc | apply Kd.R_drewN | apply Kd.R_drew)); exact HO_5.out) hb); have n1_ := Aside0.mk (blk_below (g := gb448) (o := .cells #[.int .i64 t445, .int .i64 t446, .int .i64 t447] 27 (0, 0)) (by (with_reducible repeat (first | refine blk_drewN ?_ _ | refine blk_drew ?_ | refine blk_alloc ?_ _)); exact BK448.out) hb); have n2_ := Aside0.mk (below_step (by repeat (first | (with_reducible first | exact HB.out | apply below_alloc | apply pw_below_drewN | apply below_drew1 | refine below_set ?_ GE448.out) | exact HB.out)) hb); clear HO_5; clear BK448; clear HB; have HO_5 := n0_; have BK448 := n1_; have HB := n2_; clear n0_ n1_ n2_; (try clear hb); (try clear hb2); (try clear hk); (try clear hi)))
          (try simp only [Act.put, List.setIfInBounds_toArray, List.set_cons_zero, List.set_cons_succ])
          go_cut [164] (fun v164 wc => ∃ (kq : Nat) (x164_90 : Bool), v164 = .bool x164_90 ∧ Aside0 (laws_FnWeighings.j2 kq (wrap64 (100 + (wrap64 (t449 * 4)))) t453 x164_90 t445 t446 t447 = some r) ∧ Aside0 (kq ≤ k2) ∧ Aside0 (wc.heap[gb448]? = some (.cells #[.int .i64 t445, .int .i64 t446, .int .i64 t447] 27 (0, 0))) ∧ Aside0 (Below w.heap.size w wc))
          case first =>
           have H := HC91.out
           clear HC91
           by_cases c94 : t473 = true
           ·subst c94
            have H1 : (laws_FnWeighings.j2 k2 (wrap64 (100 + (wrap64 (t449 * 4)))) t453 (t472 != (wrap64 (100 + (wrap64 (t449 * 4))))) t445 t446 t447) = some r := by rw [if_pos rfl] at H; exact H
            clear H
            have H := H1
            clear H1
            have H' := Aside0.mk H
            clear H
            go_wp2
            go_meet
            case rel => exact ⟨_, ((t472 != (wrap64 (100 + (wrap64 (t449 * 4)))))), (by first | rfl | (simp; done) | (simp [*]; done)), H', ⟨by have := HJ9.out; have := HK2.out; first | omega | exact Nat.le_refl _⟩, ⟨by (with_reducible repeat (first | refine blk_drewN ?_ _ | refine blk_drew ?_ | refine blk_alloc ?_ _)); exact BK448.out⟩, ⟨by repeat (first | (with_reducible first | exact HB.out | apply below_alloc | apply pw_below_drewN | apply below_drew1 | refine below_set ?_ GE448.out) | exact HB.out)⟩⟩
           ·replace c94 := Bool.eq_false_iff.mpr c94
            subst c94
            have H1 : (laws_FnWeighings.j2 k2 (wrap64 (100 + (wrap64 (t449 * 4)))) t453 true t445 t446 t447) = some r := by rw [if_neg (show ¬ (false = true) by decide)] at H; exact H
            clear H
            have H := H1
            clear H1
            have H' := Aside0.mk H
            clear H
            go_wp2
            go_meet
            case rel => exact ⟨_, (true), (by first | rfl | (simp; done) | (simp [*]; done)), H', ⟨by have := HJ9.out; have := HK2.out; first | omega | exact Nat.le_refl _⟩, ⟨by (with_reducible repeat (first | refine blk_drewN ?_ _ | refine blk_drew ?_ | refine blk_alloc ?_ _)); exact BK448.out⟩, ⟨by repeat (first | (with_reducible first | exact HB.out | apply below_alloc | apply pw_below_drewN | apply below_drew1 | refine below_set ?_ GE448.out) | exact HB.out)⟩⟩
          case rest =>
           clear HC91
           try clear c1
           try clear p2
           try clear p4
           try clear q4
           try clear hx4
           try clear c5
           try clear c6
           try clear p6
           try clear c7
           try clear c8
           try clear c9
           try clear c13
           try clear c15
           try clear c17
           try clear p46
           try clear q46
           try clear hx46
           try clear p47
           try clear q47
           try clear hx47
           try clear c56
           try clear c56b0
           try clear c57
           try clear c58
           try clear c61
           try clear c62
           try clear c62b0
           try clear c62b1
           try clear p64
           try clear c77
           try clear c77b0
           try clear c78
           try clear c78b0
           try clear c79
           try clear c79b0
           try clear c80
           try clear c80b0
           try clear c81
           try clear c81b0
           try clear c94
           try clear hcz92_0
           try clear hcz92_1
           try clear hcz92_2
           try clear hfz92_0
           try clear hfz92_1
           try clear hfz92_2
           try clear hx466_0
           try clear hx468_0
           try clear hx471_0
           try clear p466
           try clear p468
           try clear p471
           try clear q466
           try clear q468
           try clear q471
           obtain ⟨kq, x164_90, rfl, HA, HJ90, BK448, HB⟩ := hcut
           cases kq with
           | zero => exact absurd HA.out (by simp [laws_FnWeighings.j2])
           | succ kj90 =>
            have H := HA.out
            clear HA
            simp only [laws_FnWeighings.j2] at H
            by_cases c95 : x164_90 = true
            ·subst c95
             have H1 : (some false) = some r := by rw [if_pos rfl] at H; exact H
             clear H
             have H := H1
             clear H1
             exact absurd ((Option.some.inj H).trans HR_.out) (by decide)
            ·replace c95 := Bool.eq_false_iff.mpr c95
             subst c95
             have H1 : ((impl_FlourOf.f kj90 t445 t446 t447 (wrap64 (t453 + 1))).bind fun bt474 => (if bt474.2 = true then ((spec_DoughWeight.f kj90 t445 t446 t447 (wrap64 ((wrap64 (100 + (wrap64 (t449 * 4)))) + 1))).bind fun t476 => (if t476 = (wrap64 (t453 + 1)) then ((impl_SaltAfter.f 1000 20).bind fun t477 => (if t477 = 20 then ((impl_MissingPart.f kj90 t445 t446 t447 (wrap64 (100 + (wrap64 (t449 * 4)))) (wrap64 (t453 + 100000))).bind fun t478 => (some (t478 == 4))) else (some false))) else (some false))) else ((impl_SaltAfter.f 1000 20).bind fun t479 => (if t479 = 20 then ((impl_MissingPart.f kj90 t445 t446 t447 (wrap64 (100 + (wrap64 (t449 * 4)))) (wrap64 (t453 + 100000))).bind fun t480 => (some (t480 == 4))) else (some false))))) = some r := by rw [if_neg (show ¬ (false = true) by decide)] at H; exact H
             clear H
             have H := H1
             clear H1
             replace H := Option.bind_eq_some_iff.mp H
             obtain ⟨⟨t474, t475⟩, A960, H⟩ := H
             replace H : (if t475 = true then ((spec_DoughWeight.f kj90 t445 t446 t447 (wrap64 ((wrap64 (100 + (wrap64 (t449 * 4)))) + 1))).bind fun t476 => (if t476 = (wrap64 (t453 + 1)) then ((impl_SaltAfter.f 1000 20).bind fun t477 => (if t477 = 20 then ((impl_MissingPart.f kj90 t445 t446 t447 (wrap64 (100 + (wrap64 (t449 * 4)))) (wrap64 (t453 + 100000))).bind fun t478 => (some (t478 == 4))) else (some false))) else (some false))) else ((impl_SaltAfter.f 1000 20).bind fun t479 => (if t479 = 20 then ((impl_MissingPart.f kj90 t445 t446 t447 (wrap64 (100 + (wrap64 (t449 * 4)))) (wrap64 (t453 + 100000))).bind fun t480 => (some (t480 == 4))) else (some false)))) = some r := H
             have A96 := Aside0.mk A960
             clear A960
             by_cases c97 : t475 = true
             ·subst c97
              have H1 : ((spec_DoughWeight.f kj90 t445 t446 t447 (wrap64 ((wrap64 (100 + (wrap64 (t449 * 4)))) + 1))).bind fun t476 => (if t476 = (wrap64 (t453 + 1)) then ((impl_SaltAfter.f 1000 20).bind fun t477 => (if t477 = 20 then ((impl_MissingPart.f kj90 t445 t446 t447 (wrap64 (100 + (wrap64 (t449 * 4)))) (wrap64 (t453 + 100000))).bind fun t478 => (some (t478 == 4))) else (some false))) else (some false))) = some r := by rw [if_pos rfl] at H; exact H
              clear H
              have H := H1
              clear H1
              replace H := Option.bind_eq_some_iff.mp H
              obtain ⟨t476, A980, H⟩ := H
              replace H : (if t476 = (wrap64 (t453 + 1)) then ((impl_SaltAfter.f 1000 20).bind fun t477 => (if t477 = 20 then ((impl_MissingPart.f kj90 t445 t446 t447 (wrap64 (100 + (wrap64 (t449 * 4)))) (wrap64 (t453 + 100000))).bind fun t478 => (some (t478 == 4))) else (some false))) else (some false)) = some r := H
              have A98 := Aside0.mk A980
              clear A980
              by_cases c99 : t476 = (wrap64 (t453 + 1))
              ·rw [if_pos c99] at H
               have c99b0 : (t476 == (wrap64 (t453 + 1))) = true := beq_iff_eq.mpr c99
               have c99b1 : (t476 != (wrap64 (t453 + 1))) = false := bne_eq_false_iff_eq.mpr c99
               clear c99
               replace H := Option.bind_eq_some_iff.mp H
               obtain ⟨t477, A1000, H⟩ := H
               replace H : (if t477 = 20 then ((impl_MissingPart.f kj90 t445 t446 t447 (wrap64 (100 + (wrap64 (t449 * 4)))) (wrap64 (t453 + 100000))).bind fun t478 => (some (t478 == 4))) else (some false)) = some r := H
               have A100 := Aside0.mk A1000
               clear A1000
               by_cases c101 : t477 = 20
               ·rw [if_pos c101] at H
                have c101b0 : (t477 == 20) = true := beq_iff_eq.mpr c101
                have c101b1 : (t477 != 20) = false := bne_eq_false_iff_eq.mpr c101
                clear c101
                replace H := Option.bind_eq_some_iff.mp H
                obtain ⟨t478, A1020, H⟩ := H
                replace H : (some (t478 == 4)) = some r := H
                have A102 := Aside0.mk A1020
                clear A1020
                obtain rfl := Option.some.inj H
                have hcz103_0 : wc.cell? ⟨gb448, 0, none⟩ = some (.int .i64 t445) := (blk_cell BK448.out 0).trans rfl
                have hcz103_1 : wc.cell? ⟨gb448, 1, none⟩ = some (.int .i64 t446) := (blk_cell BK448.out 1).trans rfl
                have hcz103_2 : wc.cell? ⟨gb448, 2, none⟩ = some (.int .i64 t447) := (blk_cell BK448.out 2).trans rfl
                have hfz103_0 := blk_frozen BK448.out 0
                have hfz103_1 := blk_frozen BK448.out 1
                have hfz103_2 := blk_frozen BK448.out 2
                go_wp2_with (first | ((with_reducible refine gate_callee (f := 17) rfl ?_); refine goesL_ (some 169) rfl rfl Try.func17 (by kernel_rfl) rfl #[.agg #[.int .i64 t445, .int .i64 t446, .int .i64 t447], .int .i64 (wrap64 (t453 + 1))] rfl (by (try simp only [List.map_toArray, List.map_cons, List.map_nil]); first | done | rfl | (simp only [List.length_drop, List.length_take]; rfl)) ?_; (with_reducible refine (impl_FlourOf.calls kj90 t445 t446 t447 (wrap64 (t453 + 1)) t474 true _ A96.out).mono ?_); rintro e w104 ⟨rfl, hb⟩; refine ⟨_, rfl, ?_⟩; have n0_ := Aside0.mk (blk_below (g := gb448) (o := .cells #[.int .i64 t445, .int .i64 t446, .int .i64 t447] 27 (0, 0)) (by (with_reducible repeat (first | refine blk_drewN ?_ _ | refine blk_drew ?_ | refine blk_alloc ?_ _)); exact BK448.out) hb); have n1_ := Aside0.mk (below_step (by repeat (first | (with_reducible first | exact HB.out | apply below_alloc | apply pw_below_drewN | apply below_drew1 | refine below_set ?_ GE448.out) | exact HB.out)) hb); clear BK448; clear HB; have BK448 := n0_; have HB := n1_; clear n0_ n1_; (try clear hb); (try clear hb2); (try clear hk); (try clear hi); have hcz105_0 : w104.cell? ⟨gb448, 0, none⟩ = some (.int .i64 t445) := (blk_cell BK448.out 0).trans rfl; have hcz105_1 : w104.cell? ⟨gb448, 1, none⟩ = some (.int .i64 t446) := (blk_cell BK448.out 1).trans rfl; have hcz105_2 : w104.cell? ⟨gb448, 2, none⟩ = some (.int .i64 t447) := (blk_cell BK448.out 2).trans rfl; have hfz105_0 := blk_frozen BK448.out 0; have hfz105_1 := blk_frozen BK448.out 1; have hfz105_2 := blk_frozen BK448.out 2) | (go_at_call 24; (with_reducible refine (spec_DoughWeight.calls kj90 t445 t446 t447 (wrap64 ((wrap64 (100 + (wrap64 (t449 * 4)))) + 1)) t476 _ A98.out).mono ?_); rintro e w106 ⟨rfl, hb⟩; have n0_ := Aside0.mk (blk_below (g := gb448) (o := .cells #[.int .i64 t445, .int .i64 t446, .int .i64 t447] 27 (0, 0)) (by (with_reducible repeat (first | refine blk_drewN ?_ _ | refine blk_drew ?_ | refine blk_alloc ?_ _)); exact BK448.out) hb); have n1_ := Aside0.mk (below_step (by repeat (first | (with_reducible first | exact HB.out | apply below_alloc | apply pw_below_drewN | apply below_drew1 | refine below_set ?_ GE448.out) | exact HB.out)) hb); clear BK448; clear HB; have BK448 := n0_; have HB := n1_; clear n0_ n1_; (try clear hb); (try clear hb2); (try clear hk); (try clear hi)) | (go_at_call 10; (with_reducible refine (impl_SaltAfter.calls 1000 20 t477 _ A100.out).mono ?_); rintro e w' ⟨rfl, ⟨nd, rfl⟩⟩; have hcz107_0 : w106.cell? ⟨gb448, 0, none⟩ = some (.int .i64 t445) := (blk_cell BK448.out 0).trans rfl; have hcz107_1 : w106.cell? ⟨gb448, 1, none⟩ = some (.int .i64 t446) := (blk_cell BK448.out 1).trans rfl; have hcz107_2 : w106.cell? ⟨gb448, 2, none⟩ = some (.int .i64 t447) := (blk_cell BK448.out 2).trans rfl; have hfz107_0 := blk_frozen BK448.out 0; have hfz107_1 := blk_frozen BK448.out 1; have hfz107_2 := blk_frozen BK448.out 2) | (go_at_call 13; (with_reducible refine (impl_MissingPart.calls kj90 t445 t446 t447 (wrap64 (100 + (wrap64 (t449 * 4)))) (wrap64 (t453 + 100000)) t478 _ A102.out).mono ?_); rintro e w108 ⟨rfl, hb⟩; have n0_ := Aside0.mk (blk_below (g := gb448) (o := .cells #[.int .i64 t445, .int .i64 t446, .int .i64 t447] 27 (0, 0)) (by (with_reducible repeat (first | refine blk_drewN ?_ _ | refine blk_drew ?_ | refine blk_alloc ?_ _)); exact BK448.out) hb); have n1_ := Aside0.mk (below_step (by repeat (first | (with_reducible first | exact HB.out | apply below_alloc | apply pw_below_drewN | apply below_drew1 | refine below_set ?_ GE448.out) | exact HB.out)) hb); clear BK448; clear HB; have BK448 := n0_; have HB := n1_; clear n0_ n1_; (try clear hb); (try clear hb2); (try clear hk); (try clear hi)))
                go_ret
                exact ⟨by first | rfl | (simp [errW_none, errW_some] <;> rfl) | (simp [*, errW_none, errW_some] <;> rfl), by repeat (first | (with_reducible first | exact HB.out | apply below_alloc | apply pw_below_drewN | apply below_drew1 | refine below_set ?_ GE448.out) | exact HB.out)⟩
               ·rw [if_neg c101] at H
                have c101b0 : (t477 == 20) = false := beq_eq_false_iff_ne.mpr c101
                have c101b1 : (t477 != 20) = true := bne_iff_ne.mpr c101
                exact absurd ((Option.some.inj H).trans HR_.out) (by decide)
              ·rw [if_neg c99] at H
               have c99b0 : (t476 == (wrap64 (t453 + 1))) = false := beq_eq_false_iff_ne.mpr c99
               have c99b1 : (t476 != (wrap64 (t453 + 1))) = true := bne_iff_ne.mpr c99
               exact absurd ((Option.some.inj H).trans HR_.out) (by decide)
             ·replace c97 := Bool.eq_false_iff.mpr c97
              subst c97
              have H1 : ((impl_SaltAfter.f 1000 20).bind fun t479 => (if t479 = 20 then ((impl_MissingPart.f kj90 t445 t446 t447 (wrap64 (100 + (wrap64 (t449 * 4)))) (wrap64 (t453 + 100000))).bind fun t480 => (some (t480 == 4))) else (some false))) = some r := by rw [if_neg (show ¬ (false = true) by decide)] at H; exact H
              clear H
              have H := H1
              clear H1
              replace H := Option.bind_eq_some_iff.mp H
              obtain ⟨t479, A1090, H⟩ := H
              replace H : (if t479 = 20 then ((impl_MissingPart.f kj90 t445 t446 t447 (wrap64 (100 + (wrap64 (t449 * 4)))) (wrap64 (t453 + 100000))).bind fun t480 => (some (t480 == 4))) else (some false)) = some r := H
              have A109 := Aside0.mk A1090
              clear A1090
              by_cases c110 : t479 = 20
              ·rw [if_pos c110] at H
               have c110b0 : (t479 == 20) = true := beq_iff_eq.mpr c110
               have c110b1 : (t479 != 20) = false := bne_eq_false_iff_eq.mpr c110
               clear c110
               replace H := Option.bind_eq_some_iff.mp H
               obtain ⟨t480, A1110, H⟩ := H
               replace H : (some (t480 == 4)) = some r := H
               have A111 := Aside0.mk A1110
               clear A1110
               obtain rfl := Option.some.inj H
               have hcz112_0 : wc.cell? ⟨gb448, 0, none⟩ = some (.int .i64 t445) := (blk_cell BK448.out 0).trans rfl
               have hcz112_1 : wc.cell? ⟨gb448, 1, none⟩ = some (.int .i64 t446) := (blk_cell BK448.out 1).trans rfl
               have hcz112_2 : wc.cell? ⟨gb448, 2, none⟩ = some (.int .i64 t447) := (blk_cell BK448.out 2).trans rfl
               have hfz112_0 := blk_frozen BK448.out 0
               have hfz112_1 := blk_frozen BK448.out 1
               have hfz112_2 := blk_frozen BK448.out 2
               go_wp2_with (first | ((with_reducible refine gate_callee (f := 17) rfl ?_); refine goesL_ (some 169) rfl rfl Try.func17 (by kernel_rfl) rfl #[.agg #[.int .i64 t445, .int .i64 t446, .int .i64 t447], .int .i64 (wrap64 (t453 + 1))] rfl (by (try simp only [List.map_toArray, List.map_cons, List.map_nil]); first | done | rfl | (simp only [List.length_drop, List.length_take]; rfl)) ?_; (with_reducible refine (impl_FlourOf.calls kj90 t445 t446 t447 (wrap64 (t453 + 1)) t474 false _ A96.out).mono ?_); rintro e w113 ⟨rfl, hb⟩; refine ⟨_, rfl, ?_⟩; have n0_ := Aside0.mk (blk_below (g := gb448) (o := .cells #[.int .i64 t445, .int .i64 t446, .int .i64 t447] 27 (0, 0)) (by (with_reducible repeat (first | refine blk_drewN ?_ _ | refine blk_drew ?_ | refine blk_alloc ?_ _)); exact BK448.out) hb); have n1_ := Aside0.mk (below_step (by repeat (first | (with_reducible first | exact HB.out | apply below_alloc | apply pw_below_drewN | apply below_drew1 | refine below_set ?_ GE448.out) | exact HB.out)) hb); clear BK448; clear HB; have BK448 := n0_; have HB := n1_; clear n0_ n1_; (try clear hb); (try clear hb2); (try clear hk); (try clear hi)) | (go_at_call 10; (with_reducible refine (impl_SaltAfter.calls 1000 20 t479 _ A109.out).mono ?_); rintro e w' ⟨rfl, ⟨nd, rfl⟩⟩; have hcz114_0 : w113.cell? ⟨gb448, 0, none⟩ = some (.int .i64 t445) := (blk_cell BK448.out 0).trans rfl; have hcz114_1 : w113.cell? ⟨gb448, 1, none⟩ = some (.int .i64 t446) := (blk_cell BK448.out 1).trans rfl; have hcz114_2 : w113.cell? ⟨gb448, 2, none⟩ = some (.int .i64 t447) := (blk_cell BK448.out 2).trans rfl; have hfz114_0 := blk_frozen BK448.out 0; have hfz114_1 := blk_frozen BK448.out 1; have hfz114_2 := blk_frozen BK448.out 2) | (go_at_call 13; (with_reducible refine (impl_MissingPart.calls kj90 t445 t446 t447 (wrap64 (100 + (wrap64 (t449 * 4)))) (wrap64 (t453 + 100000)) t480 _ A111.out).mono ?_); rintro e w115 ⟨rfl, hb⟩; have n0_ := Aside0.mk (blk_below (g := gb448) (o := .cells #[.int .i64 t445, .int .i64 t446, .int .i64 t447] 27 (0, 0)) (by (with_reducible repeat (first | refine blk_drewN ?_ _ | refine blk_drew ?_ | refine blk_alloc ?_ _)); exact BK448.out) hb); have n1_ := Aside0.mk (below_step (by repeat (first | (with_reducible first | exact HB.out | apply below_alloc | apply pw_below_drewN | apply below_drew1 | refine below_set ?_ GE448.out) | exact HB.out)) hb); clear BK448; clear HB; have BK448 := n0_; have HB := n1_; clear n0_ n1_; (try clear hb); (try clear hb2); (try clear hk); (try clear hi)))
               go_ret
               exact ⟨by first | rfl | (simp [errW_none, errW_some] <;> rfl) | (simp [*, errW_none, errW_some] <;> rfl), by repeat (first | (with_reducible first | exact HB.out | apply below_alloc | apply pw_below_drewN | apply below_drew1 | refine below_set ?_ GE448.out) | exact HB.out)⟩
              ·rw [if_neg c110] at H
               have c110b0 : (t479 == 20) = false := beq_eq_false_iff_ne.mpr c110
               have c110b1 : (t479 != 20) = true := bne_iff_ne.mpr c110
               exact absurd ((Option.some.inj H).trans HR_.out) (by decide)
  ·rw [if_neg c8] at H
   have c8b0 : ((t450.length : Int) == 4) = false := beq_eq_false_iff_ne.mpr c8
   have c8b1 : ((t450.length : Int) != 4) = true := bne_iff_ne.mpr c8
   exact absurd ((Option.some.inj H).trans HR_.out) (by decide)

/-- THE ONE PURE STATEMENT of laws_FnWeighings. -/
def laws_FnWeighings.Pure : Prop := ∀ (l0 : List Int), (l0.length ≤ maxLen ∧ ∀ x ∈ l0, (Lit.int .u8 x).wf = true) → ∃ k, laws_FnWeighings.f k l0 = some true

end Go.Proofs.Ytnffhpgchfbmhaa.Q
