/- The functions that the seat's statements reach, as plain Lean functions, and that the program's calls answer what they say; no condition beyond the values read. Written by a program of this session's over the kit's print. -/
import Derived.Test.YtkgpjndlpjjobaaQx0
import Derived.Test.YtkgpjndlpjjobaaQx2
import Derived.Test.YtkgpjndlpjjobaaQx4
import Derived.Test.YtkgpjndlpjjobaaQx5
import Derived.Test.YtkgpjndlpjjobaaQx6
import Derived.Test.YtkgpjndlpjjobaaQx7
import Derived.Test.YtkgpjndlpjjobaaQx9
import Derived.Test.YtkgpjndlpjjobaaQx22
namespace Go.Proofs.Ytkgpjndlpjjobaa.Q
open Go.RowKit Go.Proofs.YtkgpjndlpjjobaaW.PrintWords Go.Proofs.YtkgpjndlpjjobaaW.PrintLast Go.Proofs.YtkgpjndlpjjobaaW.PrintMore
attribute [local go_sem] max2_int min2_int max_two min_two max_three min_three max_four min_four   -- for this text's walks alone
set_option linter.unusedVariables false
set_option linter.unusedSimpArgs false

/-! ### laws_FnBlends: function 7 -/
mutual
def laws_FnBlends.l0 : Nat → List Int → List (S42) → List Int → Int → Int → Int → Int → Int → Option (Bool)
  | 0, _, _, _, _, _, _, _, _ => none
  | k + 1, x0, x3, x4, x5, x6, x7, x8, x9 => if x9 < (x3.length : Int) then ((laws_at.f x0 x9).bind fun t328 => (if 0 ≤ x9 then (if (wrap64 (((rd_T42 x3 x9).f2) + 1)) = 0 then (none) else (if x4.length < 17592186044416 then ((some (x4 ++ [Int.tmod t328 (wrap64 (((rd_T42 x3 x9).f2) + 1))] : List Int)).bind fun y330 => (if (Int.tmod t328 (wrap64 (((rd_T42 x3 x9).f2) + 1))) > 0 then (laws_FnBlends.l0 k x0 x3 y330 (mn x5 ((rd_T42 x3 x9).f0)) (mx x6 ((rd_T42 x3 x9).f0)) (wrap64 (x7 + (Int.tmod t328 (wrap64 (((rd_T42 x3 x9).f2) + 1))))) (wrap64 (x8 + (wrap64 ((Int.tmod t328 (wrap64 (((rd_T42 x3 x9).f2) + 1))) * ((rd_T42 x3 x9).f1))))) (wrap64 (x9 + 1))) else (laws_FnBlends.l0 k x0 x3 y330 x5 x6 (wrap64 (x7 + (Int.tmod t328 (wrap64 (((rd_T42 x3 x9).f2) + 1))))) (wrap64 (x8 + (wrap64 ((Int.tmod t328 (wrap64 (((rd_T42 x3 x9).f2) + 1))) * ((rd_T42 x3 x9).f1))))) (wrap64 (x9 + 1))))) else (none))) else (none))) else ((impl_StrengthOf.f k x3 x4).bind fun t336 => (if ((t336 == (-1)) != (x7 == 0)) = true then (laws_FnBlends.j1 k x0 x3 x7 t336 true) else (if t336 ≥ 0 then (if t336 < x5 then (laws_FnBlends.j1 k x0 x3 x7 t336 true) else (if t336 > x6 then (laws_FnBlends.j1 k x0 x3 x7 t336 true) else ((impl_BlendCost.f k x3 x4).bind fun t337 => (laws_FnBlends.j1 k x0 x3 x7 t336 (t337 != x8))))) else ((impl_BlendCost.f k x3 x4).bind fun t338 => (laws_FnBlends.j1 k x0 x3 x7 t336 (t338 != x8))))))
def laws_FnBlends.j1 : Nat → List Int → List (S42) → Int → Int → Bool → Option (Bool)
  | 0, _, _, _, _, _ => none
  | k + 1, x0, x3, x7, x11, x102 => if x102 = true then (some false) else (if x7 > 0 then ((impl_StrongestFor.f k x3 x7).bind fun t339 => (laws_FnBlends.j2 k x0 x3 (decide (t339 < x11)))) else (laws_FnBlends.j2 k x0 x3 false))
def laws_FnBlends.j2 : Nat → List Int → List (S42) → Bool → Option (Bool)
  | 0, _, _, _ => none
  | k + 1, x0, x3, x111 => if x111 = true then (some false) else ((laws_at.f x0 5).bind fun t340 => ((laws_at.f x0 6).bind fun t341 => ((impl_CheapestTwo.f k x3 (wrap64 (1 + (Int.tmod t340 20))) (wrap64 (100 + t341))).bind fun bt342 => (if bt342.2.2.2 = true then (if bt342.1 < 0 then (laws_FnBlends.j3 k x0 x3 (wrap64 (1 + (Int.tmod t340 20))) (wrap64 (100 + t341)) bt342.1 bt342.2.1 bt342.2.2.1 true) else (if bt342.2.1 ≤ bt342.1 then (laws_FnBlends.j3 k x0 x3 (wrap64 (1 + (Int.tmod t340 20))) (wrap64 (100 + t341)) bt342.1 bt342.2.1 bt342.2.2.1 true) else (if bt342.2.1 ≥ (x3.length : Int) then (laws_FnBlends.j3 k x0 x3 (wrap64 (1 + (Int.tmod t340 20))) (wrap64 (100 + t341)) bt342.1 bt342.2.1 bt342.2.2.1 true) else (if bt342.2.2.1 < 0 then (laws_FnBlends.j3 k x0 x3 (wrap64 (1 + (Int.tmod t340 20))) (wrap64 (100 + t341)) bt342.1 bt342.2.1 bt342.2.2.1 true) else (laws_FnBlends.j3 k x0 x3 (wrap64 (1 + (Int.tmod t340 20))) (wrap64 (100 + t341)) bt342.1 bt342.2.1 bt342.2.2.1 (decide (bt342.2.2.1 > (wrap64 (1 + (Int.tmod t340 20)))))))))) else ((impl_FloursOk.f x3).bind fun t373 => (if t373 = true then (if 0 ≤ (x3.length : Int) then (if ((x3.length : Int) : Int).toNat ≤ 35184372088832 then ((impl_BlendCost.f k x3 (List.replicate ((x3.length : Int) : Int).toNat 0)).bind fun t377 => (if t377 = 0 then ((impl_StrengthOf.f k (([(⟨100, 1, 5⟩ : S42), (⟨200, 1, 5⟩ : S42)] : List (S42))) (([1, 1] : List Int))).bind fun t384 => (some (t384 == 150))) else (some false))) else (none)) else (none)) else (some false)))))))
def laws_FnBlends.j3 : Nat → List Int → List (S42) → Int → Int → Int → Int → Int → Bool → Option (Bool)
  | 0, _, _, _, _, _, _, _, _ => none
  | k + 1, x0, x3, x12, x13, x14, x15, x16, x150 => if x150 = true then (some false) else (if 0 ≤ (x3.length : Int) then (if ((x3.length : Int) : Int).toNat ≤ 35184372088832 then ((some (List.replicate ((x3.length : Int) : Int).toNat 0 : List Int)).bind fun y346 => (if 0 ≤ x14 then (if x14 < (y346.length : Int) then (if 0 ≤ x15 then (if x15 < (y346.length : Int) then ((some ((y346.set (x14 : Int).toNat x16).set (x15 : Int).toNat (wrap64 (x12 - x16)) : List Int)).bind fun y350 => ((impl_StrengthOf.f k x3 y350).bind fun t351 => (if t351 < x13 then (some false) else ((some (List.replicate ((x3.length : Int) : Int).toNat 0 : List Int)).bind fun y352 => ((laws_at.f x0 7).bind fun t355 => (if (wrap64 (x12 + 1)) = 0 then (none) else (if x14 < (y352.length : Int) then (if x15 < (y352.length : Int) then ((some ((y352.set (x14 : Int).toNat (Int.tmod t355 (wrap64 (x12 + 1)))).set (x15 : Int).toNat (wrap64 (x12 - (Int.tmod t355 (wrap64 (x12 + 1))))) : List Int)).bind fun y357 => ((impl_StrengthOf.f k x3 y357).bind fun t358 => (if t358 ≥ x13 then ((impl_BlendCost.f k x3 y357).bind fun t359 => ((impl_BlendCost.f k x3 y350).bind fun t360 => (laws_FnBlends.j4 k x3 (decide (t359 < t360))))) else (laws_FnBlends.j4 k x3 false)))) else (none)) else (none)))))))) else (none)) else (none)) else (none)) else (none))) else (none)) else (none))
def laws_FnBlends.j4 : Nat → List (S42) → Bool → Option (Bool)
  | 0, _, _ => none
  | k + 1, x3, x200 => if x200 = true then (some false) else ((impl_FloursOk.f x3).bind fun t361 => (if t361 = true then (if 0 ≤ (x3.length : Int) then (if ((x3.length : Int) : Int).toNat ≤ 35184372088832 then ((impl_BlendCost.f k x3 (List.replicate ((x3.length : Int) : Int).toNat 0)).bind fun t365 => (if t365 = 0 then ((impl_StrengthOf.f k (([(⟨100, 1, 5⟩ : S42), (⟨200, 1, 5⟩ : S42)] : List (S42))) (([1, 1] : List Int))).bind fun t372 => (some (t372 == 150))) else (some false))) else (none)) else (none)) else (some false)))
end
def laws_FnBlends.f (k : Nat) (l0 : List Int) : Option (Bool) := (laws_big.f l0).bind fun t321 => (if t321 = true then (some true) else ((spec_DrawFlours.f k l0).bind fun t322 => (laws_FnBlends.l0 k l0 t322 (([] : List Int)) 500 0 0 0 0)))
theorem laws_FnBlends.mono_l : ∀ k, (∀ y0 y1 y2 y3 y4 y5 y6 y7, LeO (laws_FnBlends.l0 k y0 y1 y2 y3 y4 y5 y6 y7) (laws_FnBlends.l0 (k + 1) y0 y1 y2 y3 y4 y5 y6 y7)) ∧ (∀ y0 y1 y2 y3 y4, LeO (laws_FnBlends.j1 k y0 y1 y2 y3 y4) (laws_FnBlends.j1 (k + 1) y0 y1 y2 y3 y4)) ∧ (∀ y0 y1 y2, LeO (laws_FnBlends.j2 k y0 y1 y2) (laws_FnBlends.j2 (k + 1) y0 y1 y2)) ∧ (∀ y0 y1 y2 y3 y4 y5 y6 y7, LeO (laws_FnBlends.j3 k y0 y1 y2 y3 y4 y5 y6 y7) (laws_FnBlends.j3 (k + 1) y0 y1 y2 y3 y4 y5 y6 y7)) ∧ (∀ y0 y1, LeO (laws_FnBlends.j4 k y0 y1) (laws_FnBlends.j4 (k + 1) y0 y1))
  | 0 => ⟨fun _ _ _ _ _ _ _ _ r h => by simp [laws_FnBlends.l0] at h, fun _ _ _ _ _ r h => by simp [laws_FnBlends.j1] at h, fun _ _ _ r h => by simp [laws_FnBlends.j2] at h, fun _ _ _ _ _ _ _ _ r h => by simp [laws_FnBlends.j3] at h, fun _ _ r h => by simp [laws_FnBlends.j4] at h⟩
  | k + 1 => by
    obtain ⟨ih0, ih1, ih2, ih3, ih4⟩ := laws_FnBlends.mono_l k
    refine ⟨?_, ?_, ?_, ?_, ?_⟩
    · intro y0 y1 y2 y3 y4 y5 y6 y7
      unfold laws_FnBlends.l0
      repeat' first
      | (with_reducible exact ih0 _ _ _ _ _ _ _ _)
      | (with_reducible exact ih1 _ _ _ _ _)
      | (with_reducible exact ih2 _ _ _)
      | (with_reducible exact ih3 _ _ _ _ _ _ _ _)
      | (with_reducible exact ih4 _ _)
      | (with_reducible exact impl_BlendCost.mono _ _ _)
      | (with_reducible exact impl_CheapestTwo.mono _ _ _ _)
      | (with_reducible exact impl_StrengthOf.mono _ _ _)
      | (with_reducible exact impl_StrongestFor.mono _ _ _)
      | (with_reducible exact spec_DrawFlours.mono _ _)
      | (with_reducible exact LeO.refl _)
      | (with_reducible exact LeO.none _)
      | (with_reducible refine LeO.ite ?_ ?_)
      | (with_reducible refine LeO.bind ?_ (fun _ => ?_))
      | exact ih0 _ _ _ _ _ _ _ _
      | exact ih1 _ _ _ _ _
      | exact ih2 _ _ _
      | exact ih3 _ _ _ _ _ _ _ _
      | exact ih4 _ _
      | exact impl_BlendCost.mono _ _ _
      | exact impl_CheapestTwo.mono _ _ _ _
      | exact impl_StrengthOf.mono _ _ _
      | exact impl_StrongestFor.mono _ _ _
      | exact spec_DrawFlours.mono _ _
      | exact LeO.none _
      | refine LeO.ite ?_ ?_
      | refine LeO.bind ?_ (fun _ => ?_)
    · intro y0 y1 y2 y3 y4
      unfold laws_FnBlends.j1
      repeat' first
      | (with_reducible exact ih0 _ _ _ _ _ _ _ _)
      | (with_reducible exact ih1 _ _ _ _ _)
      | (with_reducible exact ih2 _ _ _)
      | (with_reducible exact ih3 _ _ _ _ _ _ _ _)
      | (with_reducible exact ih4 _ _)
      | (with_reducible exact impl_BlendCost.mono _ _ _)
      | (with_reducible exact impl_CheapestTwo.mono _ _ _ _)
      | (with_reducible exact impl_StrengthOf.mono _ _ _)
      | (with_reducible exact impl_StrongestFor.mono _ _ _)
      | (with_reducible exact spec_DrawFlours.mono _ _)
      | (with_reducible exact LeO.refl _)
      | (with_reducible exact LeO.none _)
      | (with_reducible refine LeO.ite ?_ ?_)
      | (with_reducible refine LeO.bind ?_ (fun _ => ?_))
      | exact ih0 _ _ _ _ _ _ _ _
      | exact ih1 _ _ _ _ _
      | exact ih2 _ _ _
      | exact ih3 _ _ _ _ _ _ _ _
      | exact ih4 _ _
      | exact impl_BlendCost.mono _ _ _
      | exact impl_CheapestTwo.mono _ _ _ _
      | exact impl_StrengthOf.mono _ _ _
      | exact impl_StrongestFor.mono _ _ _
      | exact spec_DrawFlours.mono _ _
      | exact LeO.none _
      | refine LeO.ite ?_ ?_
      | refine LeO.bind ?_ (fun _ => ?_)
    · intro y0 y1 y2
      unfold laws_FnBlends.j2
      repeat' first
      | (with_reducible exact ih0 _ _ _ _ _ _ _ _)
      | (with_reducible exact ih1 _ _ _ _ _)
      | (with_reducible exact ih2 _ _ _)
      | (with_reducible exact ih3 _ _ _ _ _ _ _ _)
      | (with_reducible exact ih4 _ _)
      | (with_reducible exact impl_BlendCost.mono _ _ _)
      | (with_reducible exact impl_CheapestTwo.mono _ _ _ _)
      | (with_reducible exact impl_StrengthOf.mono _ _ _)
      | (with_reducible exact impl_StrongestFor.mono _ _ _)
      | (with_reducible exact spec_DrawFlours.mono _ _)
      | (with_reducible exact LeO.refl _)
      | (with_reducible exact LeO.none _)
      | (with_reducible refine LeO.ite ?_ ?_)
      | (with_reducible refine LeO.bind ?_ (fun _ => ?_))
      | exact ih0 _ _ _ _ _ _ _ _
      | exact ih1 _ _ _ _ _
      | exact ih2 _ _ _
      | exact ih3 _ _ _ _ _ _ _ _
      | exact ih4 _ _
      | exact impl_BlendCost.mono _ _ _
      | exact impl_CheapestTwo.mono _ _ _ _
      | exact impl_StrengthOf.mono _ _ _
      | exact impl_StrongestFor.mono _ _ _
      | exact spec_DrawFlours.mono _ _
      | exact LeO.none _
      | refine LeO.ite ?_ ?_
      | refine LeO.bind ?_ (fun _ => ?_)
    · intro y0 y1 y2 y3 y4 y5 y6 y7
      unfold laws_FnBlends.j3
      repeat' first
      | (with_reducible exact ih0 _ _ _ _ _ _ _ _)
      | (with_reducible exact ih1 _ _ _ _ _)
      | (with_reducible exact ih2 _ _ _)
      | (with_reducible exact ih3 _ _ _ _ _ _ _ _)
      | (with_reducible exact ih4 _ _)
      | (with_reducible exact impl_BlendCost.mono _ _ _)
      | (with_reducible exact impl_CheapestTwo.mono _ _ _ _)
      | (with_reducible exact impl_StrengthOf.mono _ _ _)
      | (with_reducible exact impl_StrongestFor.mono _ _ _)
      | (with_reducible exact spec_DrawFlours.mono _ _)
      | (with_reducible exact LeO.refl _)
      | (with_reducible exact LeO.none _)
      | (with_reducible refine LeO.ite ?_ ?_)
      | (with_reducible refine LeO.bind ?_ (fun _ => ?_))
      | exact ih0 _ _ _ _ _ _ _ _
      | exact ih1 _ _ _ _ _
      | exact ih2 _ _ _
      | exact ih3 _ _ _ _ _ _ _ _
      | exact ih4 _ _
      | exact impl_BlendCost.mono _ _ _
      | exact impl_CheapestTwo.mono _ _ _ _
      | exact impl_StrengthOf.mono _ _ _
      | exact impl_StrongestFor.mono _ _ _
      | exact spec_DrawFlours.mono _ _
      | exact LeO.none _
      | refine LeO.ite ?_ ?_
      | refine LeO.bind ?_ (fun _ => ?_)
    · intro y0 y1
      unfold laws_FnBlends.j4
      repeat' first
      | (with_reducible exact ih0 _ _ _ _ _ _ _ _)
      | (with_reducible exact ih1 _ _ _ _ _)
      | (with_reducible exact ih2 _ _ _)
      | (with_reducible exact ih3 _ _ _ _ _ _ _ _)
      | (with_reducible exact ih4 _ _)
      | (with_reducible exact impl_BlendCost.mono _ _ _)
      | (with_reducible exact impl_CheapestTwo.mono _ _ _ _)
      | (with_reducible exact impl_StrengthOf.mono _ _ _)
      | (with_reducible exact impl_StrongestFor.mono _ _ _)
      | (with_reducible exact spec_DrawFlours.mono _ _)
      | (with_reducible exact LeO.refl _)
      | (with_reducible exact LeO.none _)
      | (with_reducible refine LeO.ite ?_ ?_)
      | (with_reducible refine LeO.bind ?_ (fun _ => ?_))
      | exact ih0 _ _ _ _ _ _ _ _
      | exact ih1 _ _ _ _ _
      | exact ih2 _ _ _
      | exact ih3 _ _ _ _ _ _ _ _
      | exact ih4 _ _
      | exact impl_BlendCost.mono _ _ _
      | exact impl_CheapestTwo.mono _ _ _ _
      | exact impl_StrengthOf.mono _ _ _
      | exact impl_StrongestFor.mono _ _ _
      | exact spec_DrawFlours.mono _ _
      | exact LeO.none _
      | refine LeO.ite ?_ ?_
      | refine LeO.bind ?_ (fun _ => ?_)
theorem laws_FnBlends.mono : ∀ a0 k, LeO (laws_FnBlends.f k a0) (laws_FnBlends.f (k + 1) a0) := by
  intro a0 k
  obtain ⟨ih0, ih1, ih2, ih3, ih4⟩ := laws_FnBlends.mono_l k
  unfold laws_FnBlends.f
  repeat' first
      | (with_reducible exact ih0 _ _ _ _ _ _ _ _)
      | (with_reducible exact ih1 _ _ _ _ _)
      | (with_reducible exact ih2 _ _ _)
      | (with_reducible exact ih3 _ _ _ _ _ _ _ _)
      | (with_reducible exact ih4 _ _)
      | (with_reducible exact impl_BlendCost.mono _ _ _)
      | (with_reducible exact impl_CheapestTwo.mono _ _ _ _)
      | (with_reducible exact impl_StrengthOf.mono _ _ _)
      | (with_reducible exact impl_StrongestFor.mono _ _ _)
      | (with_reducible exact spec_DrawFlours.mono _ _)
      | (with_reducible exact LeO.refl _)
      | (with_reducible exact LeO.none _)
      | (with_reducible refine LeO.ite ?_ ?_)
      | (with_reducible refine LeO.bind ?_ (fun _ => ?_))
      | exact ih0 _ _ _ _ _ _ _ _
      | exact ih1 _ _ _ _ _
      | exact ih2 _ _ _
      | exact ih3 _ _ _ _ _ _ _ _
      | exact ih4 _ _
      | exact impl_BlendCost.mono _ _ _
      | exact impl_CheapestTwo.mono _ _ _ _
      | exact impl_StrengthOf.mono _ _ _
      | exact impl_StrongestFor.mono _ _ _
      | exact spec_DrawFlours.mono _ _
      | exact LeO.none _
      | refine LeO.ite ?_ ?_
      | refine LeO.bind ?_ (fun _ => ?_)
def laws_FnBlends.T12 : Bool × List (List Nat × List Nat) := (true, [([], []), ([], []), ([0, 1], [0, 1]), ([], []), ([], []), ([3, 4], [3, 4]), ([5], [5]), ([6], [6]), ([7], [7]), ([2, 8], [2, 8]), ([9, 2, 0, 1, 2, 3, 4, 5, 6, 7, 8, 9], [9])])
def laws_FnBlends.B12 : List Nat := [0, 0, 3, 0, 0, 24, 56, 120, 248, 511, 1023]
theorem laws_FnBlends.tab12 : rtab .any (opsOf Try.f7 12) = laws_FnBlends.T12 := by kernel_rfl
theorem laws_FnBlends.bits12 : waitsOk laws_FnBlends.T12.2 laws_FnBlends.B12 = true := by kernel_rfl
set_option maxHeartbeats 8000000 in
set_option maxRecDepth 100000 in
theorem laws_FnBlends.calls (k : Nat) (A0 : Option Addr) (c0 : Nat) (l0 : List Int) (r : Bool) (w : World) (hr0 : Kd.C (Kd.int .u8) w A0 l0.length l0) (hc0 : l0.length ≤ c0) (hr_ : r = true) (h : laws_FnBlends.f k l0 = some r) :
    Calls Try.prog 7 #[.slice A0 l0.length c0] w fun e w' => e = .returned (.bool r) ∧ Below w.heap.size w w' := by
  have hu42 := Try.underlying42
  have HR_ := Aside0.mk hr_
  clear hr_
  have HR0 := Aside0.mk hr0
  have HC0 := Aside0.mk hc0
  clear hr0 hc0
  have HB := Aside0.mk (Below.refl w.heap.size w)
  have H : ((laws_big.f l0).bind fun t321 => (if t321 = true then (some true) else ((spec_DrawFlours.f k l0).bind fun t322 => (laws_FnBlends.l0 k l0 t322 (([] : List Int)) 500 0 0 0 0)))) = some r := h
  clear h
  replace H := Option.bind_eq_some_iff.mp H
  obtain ⟨t321, A20, H⟩ := H
  replace H : (if t321 = true then (some true) else ((spec_DrawFlours.f k l0).bind fun t322 => (laws_FnBlends.l0 k l0 t322 (([] : List Int)) 500 0 0 0 0))) = some r := H
  have A2 := Aside0.mk A20
  clear A20
  by_cases c3 : t321 = true
  · subst c3
    have H1 : (some true) = some r := by rw [if_pos rfl] at H; exact H
    clear H
    have H := H1
    clear H1
    obtain rfl := Option.some.inj H
    go_enter Try.func7, Try.ntmps7
    go_wp2_with (first | ((with_reducible refine gate_callee (f := 22) rfl ?_); refine goesL_ (some 22) rfl rfl Try.func22 (by kernel_rfl) rfl #[.slice A0 l0.length c0] rfl (by (try simp only [List.map_toArray, List.map_cons, List.map_nil]); first | done | rfl | (simp only [List.length_drop, List.length_take]; rfl)) ?_; (with_reducible refine (laws_big.calls _ _ l0 true _ ?side1 ?side2 A2.out).mono ?_); (case side1 => repeat (first | exact HR0.out | (with_reducible refine Kd.C_alloc ?_ _) | (with_reducible refine Kd.C_drewN ?_ _) | (with_reducible refine Kd.C_drew ?_))); (case side2 => exact HC0.out); rintro e w' ⟨rfl, ⟨nd, rfl⟩⟩; refine ⟨_, rfl, ?_⟩))
    go_ret
    exact ⟨by first | rfl | (simp [errW_none, errW_some] <;> rfl) | (simp [*, errW_none, errW_some] <;> rfl), by repeat (first | (with_reducible first | exact HB.out | apply below_alloc | apply pw_below_drewN | apply below_drew1) | exact HB.out)⟩
  · replace c3 := Bool.eq_false_iff.mpr c3
    subst c3
    have H1 : ((spec_DrawFlours.f k l0).bind fun t322 => (laws_FnBlends.l0 k l0 t322 (([] : List Int)) 500 0 0 0 0)) = some r := by rw [if_neg (show ¬ (false = true) by decide)] at H; exact H
    clear H
    have H := H1
    clear H1
    replace H := Option.bind_eq_some_iff.mp H
    obtain ⟨t322, A40, H⟩ := H
    replace H : (laws_FnBlends.l0 k l0 t322 (([] : List Int)) 500 0 0 0 0) = some r := H
    have A4 := Aside0.mk A40
    clear A40
    obtain ⟨y325, hy325⟩ : ∃ y_ : List Int, y_ = (([] : List Int)) := ⟨_, rfl⟩
    replace H : (laws_FnBlends.l0 k l0 t322 y325 500 0 0 0 0) = some r := by first | (rw [hy325]; with_reducible exact H) | (have H2_ := (Option.bind_some _ _).symm.trans H; rw [hy325]; with_reducible exact H2_) | (have H2_ := (Option.bind_some _ _).symm.trans H; with_reducible exact H2_) | with_reducible exact H | (rw [hy325]; exact H) | exact H
    have Ny325 := Aside0.mk hy325
    clear hy325
    have H' := Aside0.mk H
    clear H
    go_enter Try.func7, Try.ntmps7
    go_wp2_with (first | ((with_reducible refine gate_callee (f := 22) rfl ?_); refine goesL_ (some 22) rfl rfl Try.func22 (by kernel_rfl) rfl #[.slice A0 l0.length c0] rfl (by (try simp only [List.map_toArray, List.map_cons, List.map_nil]); first | done | rfl | (simp only [List.length_drop, List.length_take]; rfl)) ?_; (with_reducible refine (laws_big.calls _ _ l0 false _ ?side1 ?side2 A2.out).mono ?_); (case side1 => repeat (first | exact HR0.out | (with_reducible refine Kd.C_alloc ?_ _) | (with_reducible refine Kd.C_drewN ?_ _) | (with_reducible refine Kd.C_drew ?_))); (case side2 => exact HC0.out); rintro e w' ⟨rfl, ⟨nd, rfl⟩⟩; refine ⟨_, rfl, ?_⟩) | ((with_reducible refine gate_callee (f := 23) rfl ?_); refine goesL_ (some 24) rfl rfl Try.func23 (by kernel_rfl) rfl #[.slice A0 l0.length c0] rfl (by (try simp only [List.map_toArray, List.map_cons, List.map_nil]); first | done | rfl | (simp only [List.length_drop, List.length_take]; rfl)) ?_; (with_reducible refine (spec_DrawFlours.calls k _ _ l0 t322 _ ?side1 ?side2 A4.out).mono ?_); (case side1 => repeat (first | exact HR0.out | (with_reducible refine Kd.C_alloc ?_ _) | (with_reducible refine Kd.C_drewN ?_ _) | (with_reducible refine Kd.C_drew ?_))); (case side2 => exact HC0.out); rintro e w5 ⟨v323, rfl, ho0, hb⟩; refine ⟨_, rfl, ?_⟩; have n0_ := Aside0.mk (Kd.R_lower ho0 (below_size (by repeat (first | (with_reducible first | exact HB.out | apply below_alloc | apply pw_below_drewN | apply below_drew1) | exact HB.out)))); have n1_ := Aside0.mk (below_step (by repeat (first | (with_reducible first | exact HB.out | apply below_alloc | apply pw_below_drewN | apply below_drew1) | exact HB.out)) hb); clear HB; have HO324 := n0_; have HB := n1_; clear n0_ n1_; (try clear hb); (try clear hb2); (try clear hk); (try clear hi); (try clear ho0)) | ((with_reducible refine gate_dst (N := 25) rfl ?_); (try (refine gate_guard (by rfl) ?_; dsimp only)); refine Kd.R_lit (Kd.int .i64) _ 3 ?hg (N := 25) ?hd (xs := ([] : List Int)) (inner := []) (ok := fun _ => True) (okp := fun _ => True) ?hr ?hp (fun _ hk => hk) trivial (Below.refl _ _) (Nat.le_refl _) (by simp) ?_; (case hd => rfl); (case hg => rfl); (case hr => first | (go_simp; done) | (go_simp; rfl)); (case hp => exact (Reps.none _ _)); intro v326 w6 ho7 hb hg_ hnew_; clear hg_ hnew_; (first | rw [← Ny325.out] at ho7 | (simp only [Int.reduceToNat] at ho7; rw [← Ny325.out] at ho7)); have n0_ := Aside0.mk (Kd.R_below (by (with_reducible repeat (first | apply Kd.R_alloc | apply Kd.R_drewN | apply Kd.R_drew)); exact HO324.out) hb); have n1_ := Aside0.mk (Kd.R_lower ho7 (below_size (by repeat (first | (with_reducible first | exact HB.out | apply below_alloc | apply pw_below_drewN | apply below_drew1) | exact HB.out)))); have n2_ := Aside0.mk (below_step (by repeat (first | (with_reducible first | exact HB.out | apply below_alloc | apply pw_below_drewN | apply below_drew1) | exact HB.out)) hb); clear HO324; clear HB; have HO324 := n0_; have HO327 := n1_; have HB := n2_; clear n0_ n1_ n2_; clear hb ho7))
    go_loopg [4, 5, 6, 7, 8, 9] k (fun kq v4 v5 v6 v7 v8 v9 w' => ∃ (x4_1 : List Int) (x5_1 : Int) (x6_1 : Int) (x7_1 : Int) (x8_1 : Int) (x9_1 : Int), v5 = .int .i64 x5_1 ∧ v6 = .int .i64 x6_1 ∧ v7 = .int .i64 x7_1 ∧ v8 = .int .i64 x8_1 ∧ v9 = .int .i64 x9_1 ∧ Aside0 (laws_FnBlends.l0 kq l0 t322 x4_1 x5_1 x6_1 x7_1 x8_1 x9_1 = some r) ∧ Aside0 (kq ≤ k) ∧ Aside0 (Kd.R k42 42 w' w.heap.size (fun _ => True) v323 t322) ∧ Aside0 (Kd.R (Kd.int .i64) 3 w' w.heap.size (fun _ => True) v4 x4_1) ∧ Aside0 (Below w.heap.size w w'))
    case atStart => exact ⟨(y325), (500), (0), (0), (0), (0), (by first | rfl | (simp; done) | (simp [*]; done)), (by first | rfl | (simp; done) | (simp [*]; done)), (by first | rfl | (simp; done) | (simp [*]; done)), (by first | rfl | (simp; done) | (simp [*]; done)), (by first | rfl | (simp; done) | (simp [*]; done)), H', ⟨Nat.le_refl _⟩, ⟨by (with_reducible repeat (first | apply Kd.R_alloc | apply Kd.R_drewN | apply Kd.R_drew)); exact HO324.out⟩, ⟨by (with_reducible repeat (first | apply Kd.R_alloc | apply Kd.R_drewN | apply Kd.R_drew)); exact HO327.out⟩, ⟨by repeat (first | (with_reducible first | exact HB.out | apply below_alloc | apply pw_below_drewN | apply below_drew1) | exact HB.out)⟩⟩
    case round =>
      clear H'
      try clear c2
      try clear p2
      try clear c3
      try clear c7
      obtain ⟨x4_1, x5_1, x6_1, x7_1, x8_1, x9_1, rfl, rfl, rfl, rfl, rfl, HA, HK1, HO_3, HO_4, HB⟩ := hrel
      cases gk with
      | zero => exact absurd HA.out (by simp [laws_FnBlends.l0])
      | succ k1 =>
        have H := HA.out
        clear HA
        simp only [laws_FnBlends.l0] at H
        by_cases c8 : x9_1 < (t322.length : Int)
        · rw [if_pos c8] at H
          have c8b0 : decide (x9_1 < (t322.length : Int)) = true := decide_eq_true c8
          clear c8
          replace H := Option.bind_eq_some_iff.mp H
          obtain ⟨t328, A90, H⟩ := H
          replace H : (if 0 ≤ x9_1 then (if (wrap64 (((rd_T42 t322 x9_1).f2) + 1)) = 0 then (none) else (if x4_1.length < 17592186044416 then ((some (x4_1 ++ [Int.tmod t328 (wrap64 (((rd_T42 t322 x9_1).f2) + 1))] : List Int)).bind fun y330 => (if (Int.tmod t328 (wrap64 (((rd_T42 t322 x9_1).f2) + 1))) > 0 then (laws_FnBlends.l0 k1 l0 t322 y330 (mn x5_1 ((rd_T42 t322 x9_1).f0)) (mx x6_1 ((rd_T42 t322 x9_1).f0)) (wrap64 (x7_1 + (Int.tmod t328 (wrap64 (((rd_T42 t322 x9_1).f2) + 1))))) (wrap64 (x8_1 + (wrap64 ((Int.tmod t328 (wrap64 (((rd_T42 t322 x9_1).f2) + 1))) * ((rd_T42 t322 x9_1).f1))))) (wrap64 (x9_1 + 1))) else (laws_FnBlends.l0 k1 l0 t322 y330 x5_1 x6_1 (wrap64 (x7_1 + (Int.tmod t328 (wrap64 (((rd_T42 t322 x9_1).f2) + 1))))) (wrap64 (x8_1 + (wrap64 ((Int.tmod t328 (wrap64 (((rd_T42 t322 x9_1).f2) + 1))) * ((rd_T42 t322 x9_1).f1))))) (wrap64 (x9_1 + 1))))) else (none))) else (none)) = some r := H
          have A9 := Aside0.mk A90
          clear A90
          by_cases c10 : 0 ≤ x9_1
          · rw [if_pos c10] at H
            have c10b0 : decide (0 ≤ x9_1) = true := decide_eq_true c10
            clear c10
            by_cases c11 : (wrap64 (((rd_T42 t322 x9_1).f2) + 1)) = 0
            · rw [if_pos c11] at H
              exact absurd H (by simp)
            · rw [if_neg c11] at H
              have c11b0 : ((wrap64 (((rd_T42 t322 x9_1).f2) + 1)) == 0) = false := beq_eq_false_iff_ne.mpr c11
              have c11b1 : ((wrap64 (((rd_T42 t322 x9_1).f2) + 1)) != 0) = true := bne_iff_ne.mpr c11
              by_cases c12 : x4_1.length < 17592186044416
              · rw [if_pos c12] at H
                have LMc12 := Aside0.mk c12
                clear c12
                obtain ⟨y330, hy330⟩ : ∃ y_ : List Int, y_ = (x4_1 ++ [Int.tmod t328 (wrap64 (((rd_T42 t322 x9_1).f2) + 1))]) := ⟨_, rfl⟩
                replace H : (if (Int.tmod t328 (wrap64 (((rd_T42 t322 x9_1).f2) + 1))) > 0 then (laws_FnBlends.l0 k1 l0 t322 y330 (mn x5_1 ((rd_T42 t322 x9_1).f0)) (mx x6_1 ((rd_T42 t322 x9_1).f0)) (wrap64 (x7_1 + (Int.tmod t328 (wrap64 (((rd_T42 t322 x9_1).f2) + 1))))) (wrap64 (x8_1 + (wrap64 ((Int.tmod t328 (wrap64 (((rd_T42 t322 x9_1).f2) + 1))) * ((rd_T42 t322 x9_1).f1))))) (wrap64 (x9_1 + 1))) else (laws_FnBlends.l0 k1 l0 t322 y330 x5_1 x6_1 (wrap64 (x7_1 + (Int.tmod t328 (wrap64 (((rd_T42 t322 x9_1).f2) + 1))))) (wrap64 (x8_1 + (wrap64 ((Int.tmod t328 (wrap64 (((rd_T42 t322 x9_1).f2) + 1))) * ((rd_T42 t322 x9_1).f1))))) (wrap64 (x9_1 + 1)))) = some r := by first | (rw [hy330]; with_reducible exact H) | (have H2_ := (Option.bind_some _ _).symm.trans H; rw [hy330]; with_reducible exact H2_) | (have H2_ := (Option.bind_some _ _).symm.trans H; with_reducible exact H2_) | with_reducible exact H | (rw [hy330]; exact H) | exact H
                have Ny330 := Aside0.mk hy330
                clear hy330
                by_cases c13 : (Int.tmod t328 (wrap64 (((rd_T42 t322 x9_1).f2) + 1))) > 0
                · rw [if_pos c13] at H
                  have c13b0 : decide (0 < (Int.tmod t328 (wrap64 (((rd_T42 t322 x9_1).f2) + 1)))) = true := decide_eq_true c13
                  clear c13
                  obtain ⟨ji14, hji14⟩ : ∃ j_ : Int, (mn x5_1 ((rd_T42 t322 x9_1).f0)) = j_ := ⟨_, rfl⟩
                  replace H : (laws_FnBlends.l0 k1 l0 t322 y330 ji14 (mx x6_1 ((rd_T42 t322 x9_1).f0)) (wrap64 (x7_1 + (Int.tmod t328 (wrap64 (((rd_T42 t322 x9_1).f2) + 1))))) (wrap64 (x8_1 + (wrap64 ((Int.tmod t328 (wrap64 (((rd_T42 t322 x9_1).f2) + 1))) * ((rd_T42 t322 x9_1).f1))))) (wrap64 (x9_1 + 1))) = some r := by first | (rw [hji14] at H; exact H) | (simp only [hji14] at H ⊢; exact H)
                  (try rw [hji14] at A9)
                  have hji14_ : (if ((rd_T42 t322 x9_1).f0) < x5_1 then ((rd_T42 t322 x9_1).f0) else x5_1) = ji14 := hji14
                  obtain ⟨ji15, hji15⟩ : ∃ j_ : Int, (mx x6_1 ((rd_T42 t322 x9_1).f0)) = j_ := ⟨_, rfl⟩
                  replace H : (laws_FnBlends.l0 k1 l0 t322 y330 ji14 ji15 (wrap64 (x7_1 + (Int.tmod t328 (wrap64 (((rd_T42 t322 x9_1).f2) + 1))))) (wrap64 (x8_1 + (wrap64 ((Int.tmod t328 (wrap64 (((rd_T42 t322 x9_1).f2) + 1))) * ((rd_T42 t322 x9_1).f1))))) (wrap64 (x9_1 + 1))) = some r := by first | (rw [hji15] at H; exact H) | (simp only [hji15] at H ⊢; exact H)
                  (try rw [hji15] at A9)
                  have hji15_ : (if x6_1 < ((rd_T42 t322 x9_1).f0) then ((rd_T42 t322 x9_1).f0) else x6_1) = ji15 := hji15
                  have H' := Aside0.mk H
                  clear H
                  obtain ⟨Ao16, co16, eo16⟩ := Kd.R_slice HO_3.out
                  subst eo16
                  try go_wp2
                  have n0_ := Aside0.mk (Kd.R_drew HO_3.out)
                  have n1_ := Aside0.mk (Kd.R_drew HO_4.out)
                  have n2_ := Aside0.mk (below_drew1 HB.out)
                  clear HO_3
                  clear HO_4
                  clear HB
                  have HO_3 := n0_
                  have HO_4 := n1_
                  have HB := n2_
                  clear n0_ n1_ n2_
                  have p329 : 0 ≤ (x9_1 : Int) := of_decide_eq_true (by first | (with_reducible assumption) | assumption)
                  have q329 : x9_1 < (t322.length : Int) := of_decide_eq_true (by first | (with_reducible assumption) | assumption)
                  obtain ⟨ad329, e329, hx329_0, hx329_1, hx329_2⟩ := at_T42 (Kd.R_reads' HO_3.out).2.2 x9_1 p329 q329
                  cases e329
                  replace p329 := eq_true p329
                  replace q329 := eq_true q329
                  refine start_ (n := 11) (S := fun w' => w'.cell? (ad329.add ((x9_1).toNat * 3)) = some (.int .i64 ((rd_T42 t322 x9_1).f0)) ∧ w'.cell? ⟨(ad329.add ((x9_1).toNat * 3)).block, (ad329.add ((x9_1).toNat * 3)).off + 1, none⟩ = some (.int .i64 ((rd_T42 t322 x9_1).f1)) ∧ w'.cell? ⟨(ad329.add ((x9_1).toNat * 3)).block, (ad329.add ((x9_1).toNat * 3)).off + 2, none⟩ = some (.int .i64 ((rd_T42 t322 x9_1).f2))) (ds := []) #[false, false, false, false, false, false, false, false, false, false, false] (by kernel_rfl) rfl rfl ⟨hx329_0, hx329_1, hx329_2⟩ (fun hHeld => ?_); refine with_tabW laws_FnBlends.tab12 laws_FnBlends.bits12 (fun HT_ HW_ => ?_)
                  generalize wr.drew = w17 at HO_3 HO_4 HB hx329_0 hx329_1 hx329_2 hHeld ⊢
                  refine pure_ (i := 0) (N := some 32) (v := ?_) (a' := ?_) #[true, false, false, false, false, false, false, false, false, false, false] rfl rfl (any_of HT_.out (by kernel_rfl)) (fun _ _ _ h => h) (Or.inl ⟨by rfl, ?_⟩) ?_ ?_
                  rotate_left
                  · intro w'
                    go_simp
                    with_reducible rfl
                  rotate_left
                  · simp only [Act.put, List.setIfInBounds_toArray, List.set_cons_zero, List.set_cons_succ, i64_w, i32_w]
                    rfl
                  refine pure_ (i := 1) (N := some 33) (v := ?_) (a' := ?_) #[true, true, false, false, false, false, false, false, false, false, false] rfl rfl (any_of HT_.out (by kernel_rfl)) (fun _ _ _ h => h) (Or.inl ⟨by rfl, ?_⟩) ?_ ?_
                  rotate_left
                  · intro w'
                    go_simp
                    with_reducible rfl
                  rotate_left
                  · simp only [Act.put, List.setIfInBounds_toArray, List.set_cons_zero, List.set_cons_succ, i64_w, i32_w]
                    rfl
                  refine pure_ (i := 3) (N := some 35) (v := ?_) (a' := ?_) #[true, true, false, true, false, false, false, false, false, false, false] rfl rfl (any_of HT_.out (by kernel_rfl)) (fun _ _ _ h => h) (Or.inl ⟨by rfl, ?_⟩) ?_ ?_
                  rotate_left
                  · intro w'
                    go_simp
                    with_reducible rfl
                  rotate_left
                  · simp only [Act.put, List.setIfInBounds_toArray, List.set_cons_zero, List.set_cons_succ, i64_w, i32_w]
                    rfl
                  refine pure_ (i := 4) (N := some 36) (v := ?_) (a' := ?_) #[true, true, false, true, true, false, false, false, false, false, false] rfl rfl (any_of HT_.out (by kernel_rfl)) (fun _ _ _ h => h) (Or.inl ⟨by rfl, ?_⟩) ?_ ?_
                  rotate_left
                  · intro w'
                    go_simp
                    with_reducible rfl
                  rotate_left
                  · simp only [Act.put, List.setIfInBounds_toArray, List.set_cons_zero, List.set_cons_succ, i64_w, i32_w]
                    rfl
                  refine pure_ (i := 5) (N := some 37) (v := ?_) (a' := ?_) #[true, true, false, true, true, true, false, false, false, false, false] rfl rfl (any_of HT_.out (by kernel_rfl)) (fun _ _ _ h => h) (Or.inl ⟨by rfl, ?_⟩) ?_ ?_
                  rotate_left
                  · intro w'
                    go_simp
                    with_reducible rfl
                  rotate_left
                  · simp only [Act.put, List.setIfInBounds_toArray, List.set_cons_zero, List.set_cons_succ, i64_w, i32_w]
                    rfl
                  refine pure_ (i := 6) (N := some 38) (v := ?_) (a' := ?_) #[true, true, false, true, true, true, true, false, false, false, false] rfl rfl (any_of HT_.out (by kernel_rfl)) (fun _ _ _ h => h) (Or.inl ⟨by rfl, ?_⟩) ?_ ?_
                  rotate_left
                  · intro w'
                    go_simp
                    with_reducible rfl
                  rotate_left
                  · simp only [Act.put, List.setIfInBounds_toArray, List.set_cons_zero, List.set_cons_succ, i64_w, i32_w]
                    rfl
                  refine take_ (i := 7) (N := some 39) (v := ?_) (a' := ?_) #[true, true, false, true, true, true, true, true, false, false, false] rfl rfl (take_ofW HT_.out HW_.out (by kernel_rfl)) (fun _ _ _ h => h) (Or.inl ⟨by rfl, ?_⟩) hHeld ?_ ?_
                  rotate_left
                  · rintro w' ⟨s0, s1, s2⟩
                    go_simp
                    with_reducible rfl
                  rotate_left
                  · simp only [Act.put, List.setIfInBounds_toArray, List.set_cons_zero, List.set_cons_succ, i64_w, i32_w]
                    rfl
                  refine pure_ (i := 8) (N := some 40) (v := ?_) (a' := ?_) #[true, true, false, true, true, true, true, true, true, false, false] rfl rfl (any_of HT_.out (by kernel_rfl)) (fun _ _ _ h => h) (Or.inl ⟨by rfl, ?_⟩) ?_ ?_
                  rotate_left
                  · intro w'
                    go_simp
                    with_reducible rfl
                  rotate_left
                  · simp only [Act.put, List.setIfInBounds_toArray, List.set_cons_zero, List.set_cons_succ, i64_w, i32_w]
                    rfl
                  refine one_ (i := 2) (N := some 34) #[true, true, true, true, true, true, true, true, true, false, false] rfl rfl (one_of HT_.out (by kernel_rfl)) (by decide) (fun K hK => ?_)
                  refine goes_ Try.func24 (by kernel_rfl) rfl #[.slice A0 l0.length c0, .int .i64 x9_1] (by rfl) rfl rfl (by (try simp only [List.map_toArray, List.map_cons, List.map_nil]); first | done | rfl | (simp only [List.length_drop, List.length_take]; rfl)) ?_
                  with_reducible refine (laws_at.calls _ _ l0 x9_1 t328 _ ?side1 ?side2 A9.out).mono ?_
                  (case side1 => repeat (first | exact (Kd.C_below HR0.out HB.out) | (with_reducible refine Kd.C_alloc ?_ _) | (with_reducible refine Kd.C_drewN ?_ _) | (with_reducible refine Kd.C_drew ?_)))
                  (case side2 => exact HC0.out)
                  rintro e w' ⟨rfl, ⟨nd, rfl⟩⟩
                  refine ⟨_, rfl, ?_⟩
                  refine hK.out _ _ ⟨hHeld.1, hHeld.2.1, hHeld.2.2⟩ (fun hHeld => ?_)
                  clear hK K
                  refine norm_ (a' := ?_) ?_ ?_
                  rotate_left
                  · show Act.put _ (some 34) _ = _
                    simp only [Act.put, List.setIfInBounds_toArray, List.set_cons_zero, List.set_cons_succ, i64_w, i32_w]
                    rfl
                  refine pure_ (i := 9) (N := some 41) (v := ?_) (a' := ?_) #[true, true, true, true, true, true, true, true, true, true, false] rfl rfl (any_of HT_.out (by kernel_rfl)) (fun _ _ _ h => h) (Or.inl ⟨by rfl, ?_⟩) ?_ ?_
                  rotate_left
                  · intro w'
                    go_simp
                    with_reducible rfl
                  rotate_left
                  · simp only [Act.put, List.setIfInBounds_toArray, List.set_cons_zero, List.set_cons_succ, i64_w, i32_w]
                    rfl
                  refine pure_ (i := 10) (N := some 10) (v := ?_) (a' := ?_) #[true, true, true, true, true, true, true, true, true, true, true] rfl rfl (any_of HT_.out (by kernel_rfl)) (fun _ _ _ h => h) (Or.inl ⟨by rfl, ?_⟩) ?_ ?_
                  rotate_left
                  · intro w'
                    go_simp
                    with_reducible rfl
                  rotate_left
                  · simp only [Act.put, List.setIfInBounds_toArray, List.set_cons_zero, List.set_cons_succ, i64_w, i32_w]
                    rfl
                  refine done_ (done_of HT_.out (by kernel_rfl)) ?_
                  try go_wp2_with (first | ((with_reducible refine gate_builtin (b := .append) (xs := #[.tmp 42, .tmp 44]) rfl ?_); (try (refine gate_guard (by rfl) ?_; dsimp only)); at_builtin; refine Kd.R_append (Kd.int .i64) (w0 := w) w.heap.size rfl (.tmp 42) (.tmp 44) 29 3 (.int .i64 0) 8 rfl Try.underlying29 info3 rfl (by decide) (by omega) u4 x4_1 (Int.tmod t328 (wrap64 (((rd_T42 t322 x9_1).f2) + 1))) [.int .i64 (Int.tmod t328 (wrap64 (((rd_T42 t322 x9_1).f2) + 1)))] (fun _ => True) (fun _ => False) rfl rfl ?aP (fun _ hk => hk.elim) ?aF ?aO ?aB ?aS ?aL ?_; (case aP => exact rfl); (case aB => exact (by repeat (first | (with_reducible first | exact HB.out | apply below_alloc | apply pw_below_drewN | apply below_drew1) | exact HB.out))); (case aF => exact (fun _ _ => trivial)); (case aO => exact (by (with_reducible repeat (first | apply Kd.R_alloc | apply Kd.R_drewN | apply Kd.R_drew)); exact HO_4.out)); (case aS => exact (below_size (by repeat (first | (with_reducible first | exact HB.out | apply below_alloc | apply pw_below_drewN | apply below_drew1) | exact HB.out)))); (case aL => have := LMc12.out; omega); intro v331 w18 ho hb hg hat; rw [← Ny330.out] at ho; have n0_ := Aside0.mk (Kd.R_over' (by (with_reducible repeat (first | apply Kd.R_alloc | apply Kd.R_drewN | apply Kd.R_drew)); exact HO_3.out) (Kd.R_typed (by (with_reducible repeat (first | apply Kd.R_alloc | apply Kd.R_drewN | apply Kd.R_drew)); exact HO_4.out)) (by decide) hg); have n1_ := Aside0.mk (hb); have n2_ := Aside0.mk (ho); clear HO_3; clear HB; clear HO_4; have HO_3 := n0_; have HB := n1_; have HO332 := n2_; clear n0_ n1_ n2_; clear ho hb hg hat; have p333 : 0 ≤ (x9_1 : Int) := of_decide_eq_true (by first | (with_reducible assumption) | assumption); have q333 : x9_1 < (t322.length : Int) := of_decide_eq_true (by first | (with_reducible assumption) | assumption); obtain ⟨ad333, e333, hx333_0, hx333_1, hx333_2⟩ := at_T42 (Kd.R_reads' HO_3.out).2.2 x9_1 p333 q333; obtain rfl : ad329 = ad333 := (by injection e333); replace p333 := eq_true p333; replace q333 := eq_true q333; have p334 : 0 ≤ (x9_1 : Int) := of_decide_eq_true (by first | (with_reducible assumption) | assumption); have q334 : x9_1 < (t322.length : Int) := of_decide_eq_true (by first | (with_reducible assumption) | assumption); obtain ⟨ad334, e334, hx334_0, hx334_1, hx334_2⟩ := at_T42 (Kd.R_reads' HO_3.out).2.2 x9_1 p334 q334; obtain rfl : ad329 = ad334 := (by injection e334); replace p334 := eq_true p334; replace q334 := eq_true q334; have p335 : 0 ≤ (x9_1 : Int) := of_decide_eq_true (by first | (with_reducible assumption) | assumption); have q335 : x9_1 < (t322.length : Int) := of_decide_eq_true (by first | (with_reducible assumption) | assumption); obtain ⟨ad335, e335, hx335_0, hx335_1, hx335_2⟩ := at_T42 (Kd.R_reads' HO_3.out).2.2 x9_1 p335 q335; obtain rfl : ad329 = ad335 := (by injection e335); replace p335 := eq_true p335; replace q335 := eq_true q335))
                  go_roundg k1
                  case measure => have := HK1.out; omega
                  case rel => exact ⟨(y330), (ji14), (ji15), (wrap64 (x7_1 + (Int.tmod t328 (wrap64 (((rd_T42 t322 x9_1).f2) + 1))))), (wrap64 (x8_1 + (wrap64 ((Int.tmod t328 (wrap64 (((rd_T42 t322 x9_1).f2) + 1))) * ((rd_T42 t322 x9_1).f1))))), (wrap64 (x9_1 + 1)), (by first | rfl | (simp; done) | (simp only [← hji14] <;> (first | rfl | simp)) | (simp [*]; done)), (by first | rfl | (simp; done) | (simp only [← hji15] <;> (first | rfl | simp)) | (simp [*]; done)), (by first | rfl | (simp; done) | (simp [*]; done)), (by first | rfl | (simp; done) | (simp [*]; done)), (by first | rfl | (simp; done) | (simp [*]; done)), H', ⟨by have := HK1.out; omega⟩, ⟨by (with_reducible repeat (first | apply Kd.R_alloc | apply Kd.R_drewN | apply Kd.R_drew)); exact HO_3.out⟩, ⟨by (with_reducible repeat (first | apply Kd.R_alloc | apply Kd.R_drewN | apply Kd.R_drew)); exact HO332.out⟩, ⟨by repeat (first | (with_reducible first | exact HB.out | apply below_alloc | apply pw_below_drewN | apply below_drew1) | exact HB.out)⟩⟩
                · rw [if_neg c13] at H
                  have c13b0 : decide (0 < (Int.tmod t328 (wrap64 (((rd_T42 t322 x9_1).f2) + 1)))) = false := decide_eq_false c13
                  clear c13
                  have H' := Aside0.mk H
                  clear H
                  obtain ⟨Ao19, co19, eo19⟩ := Kd.R_slice HO_3.out
                  subst eo19
                  try go_wp2
                  have n0_ := Aside0.mk (Kd.R_drew HO_3.out)
                  have n1_ := Aside0.mk (Kd.R_drew HO_4.out)
                  have n2_ := Aside0.mk (below_drew1 HB.out)
                  clear HO_3
                  clear HO_4
                  clear HB
                  have HO_3 := n0_
                  have HO_4 := n1_
                  have HB := n2_
                  clear n0_ n1_ n2_
                  have p329 : 0 ≤ (x9_1 : Int) := of_decide_eq_true (by first | (with_reducible assumption) | assumption)
                  have q329 : x9_1 < (t322.length : Int) := of_decide_eq_true (by first | (with_reducible assumption) | assumption)
                  obtain ⟨ad329, e329, hx329_0, hx329_1, hx329_2⟩ := at_T42 (Kd.R_reads' HO_3.out).2.2 x9_1 p329 q329
                  cases e329
                  replace p329 := eq_true p329
                  replace q329 := eq_true q329
                  refine start_ (n := 11) (S := fun w' => w'.cell? (ad329.add ((x9_1).toNat * 3)) = some (.int .i64 ((rd_T42 t322 x9_1).f0)) ∧ w'.cell? ⟨(ad329.add ((x9_1).toNat * 3)).block, (ad329.add ((x9_1).toNat * 3)).off + 1, none⟩ = some (.int .i64 ((rd_T42 t322 x9_1).f1)) ∧ w'.cell? ⟨(ad329.add ((x9_1).toNat * 3)).block, (ad329.add ((x9_1).toNat * 3)).off + 2, none⟩ = some (.int .i64 ((rd_T42 t322 x9_1).f2))) (ds := []) #[false, false, false, false, false, false, false, false, false, false, false] (by kernel_rfl) rfl rfl ⟨hx329_0, hx329_1, hx329_2⟩ (fun hHeld => ?_); refine with_tabW laws_FnBlends.tab12 laws_FnBlends.bits12 (fun HT_ HW_ => ?_)
                  generalize wr.drew = w20 at HO_3 HO_4 HB hx329_0 hx329_1 hx329_2 hHeld ⊢
                  refine pure_ (i := 0) (N := some 32) (v := ?_) (a' := ?_) #[true, false, false, false, false, false, false, false, false, false, false] rfl rfl (any_of HT_.out (by kernel_rfl)) (fun _ _ _ h => h) (Or.inl ⟨by rfl, ?_⟩) ?_ ?_
                  rotate_left
                  · intro w'
                    go_simp
                    with_reducible rfl
                  rotate_left
                  · simp only [Act.put, List.setIfInBounds_toArray, List.set_cons_zero, List.set_cons_succ, i64_w, i32_w]
                    rfl
                  refine pure_ (i := 1) (N := some 33) (v := ?_) (a' := ?_) #[true, true, false, false, false, false, false, false, false, false, false] rfl rfl (any_of HT_.out (by kernel_rfl)) (fun _ _ _ h => h) (Or.inl ⟨by rfl, ?_⟩) ?_ ?_
                  rotate_left
                  · intro w'
                    go_simp
                    with_reducible rfl
                  rotate_left
                  · simp only [Act.put, List.setIfInBounds_toArray, List.set_cons_zero, List.set_cons_succ, i64_w, i32_w]
                    rfl
                  refine pure_ (i := 3) (N := some 35) (v := ?_) (a' := ?_) #[true, true, false, true, false, false, false, false, false, false, false] rfl rfl (any_of HT_.out (by kernel_rfl)) (fun _ _ _ h => h) (Or.inl ⟨by rfl, ?_⟩) ?_ ?_
                  rotate_left
                  · intro w'
                    go_simp
                    with_reducible rfl
                  rotate_left
                  · simp only [Act.put, List.setIfInBounds_toArray, List.set_cons_zero, List.set_cons_succ, i64_w, i32_w]
                    rfl
                  refine pure_ (i := 4) (N := some 36) (v := ?_) (a' := ?_) #[true, true, false, true, true, false, false, false, false, false, false] rfl rfl (any_of HT_.out (by kernel_rfl)) (fun _ _ _ h => h) (Or.inl ⟨by rfl, ?_⟩) ?_ ?_
                  rotate_left
                  · intro w'
                    go_simp
                    with_reducible rfl
                  rotate_left
                  · simp only [Act.put, List.setIfInBounds_toArray, List.set_cons_zero, List.set_cons_succ, i64_w, i32_w]
                    rfl
                  refine pure_ (i := 5) (N := some 37) (v := ?_) (a' := ?_) #[true, true, false, true, true, true, false, false, false, false, false] rfl rfl (any_of HT_.out (by kernel_rfl)) (fun _ _ _ h => h) (Or.inl ⟨by rfl, ?_⟩) ?_ ?_
                  rotate_left
                  · intro w'
                    go_simp
                    with_reducible rfl
                  rotate_left
                  · simp only [Act.put, List.setIfInBounds_toArray, List.set_cons_zero, List.set_cons_succ, i64_w, i32_w]
                    rfl
                  refine pure_ (i := 6) (N := some 38) (v := ?_) (a' := ?_) #[true, true, false, true, true, true, true, false, false, false, false] rfl rfl (any_of HT_.out (by kernel_rfl)) (fun _ _ _ h => h) (Or.inl ⟨by rfl, ?_⟩) ?_ ?_
                  rotate_left
                  · intro w'
                    go_simp
                    with_reducible rfl
                  rotate_left
                  · simp only [Act.put, List.setIfInBounds_toArray, List.set_cons_zero, List.set_cons_succ, i64_w, i32_w]
                    rfl
                  refine take_ (i := 7) (N := some 39) (v := ?_) (a' := ?_) #[true, true, false, true, true, true, true, true, false, false, false] rfl rfl (take_ofW HT_.out HW_.out (by kernel_rfl)) (fun _ _ _ h => h) (Or.inl ⟨by rfl, ?_⟩) hHeld ?_ ?_
                  rotate_left
                  · rintro w' ⟨s0, s1, s2⟩
                    go_simp
                    with_reducible rfl
                  rotate_left
                  · simp only [Act.put, List.setIfInBounds_toArray, List.set_cons_zero, List.set_cons_succ, i64_w, i32_w]
                    rfl
                  refine pure_ (i := 8) (N := some 40) (v := ?_) (a' := ?_) #[true, true, false, true, true, true, true, true, true, false, false] rfl rfl (any_of HT_.out (by kernel_rfl)) (fun _ _ _ h => h) (Or.inl ⟨by rfl, ?_⟩) ?_ ?_
                  rotate_left
                  · intro w'
                    go_simp
                    with_reducible rfl
                  rotate_left
                  · simp only [Act.put, List.setIfInBounds_toArray, List.set_cons_zero, List.set_cons_succ, i64_w, i32_w]
                    rfl
                  refine one_ (i := 2) (N := some 34) #[true, true, true, true, true, true, true, true, true, false, false] rfl rfl (one_of HT_.out (by kernel_rfl)) (by decide) (fun K hK => ?_)
                  refine goes_ Try.func24 (by kernel_rfl) rfl #[.slice A0 l0.length c0, .int .i64 x9_1] (by rfl) rfl rfl (by (try simp only [List.map_toArray, List.map_cons, List.map_nil]); first | done | rfl | (simp only [List.length_drop, List.length_take]; rfl)) ?_
                  with_reducible refine (laws_at.calls _ _ l0 x9_1 t328 _ ?side1 ?side2 A9.out).mono ?_
                  (case side1 => repeat (first | exact (Kd.C_below HR0.out HB.out) | (with_reducible refine Kd.C_alloc ?_ _) | (with_reducible refine Kd.C_drewN ?_ _) | (with_reducible refine Kd.C_drew ?_)))
                  (case side2 => exact HC0.out)
                  rintro e w' ⟨rfl, ⟨nd, rfl⟩⟩
                  refine ⟨_, rfl, ?_⟩
                  refine hK.out _ _ ⟨hHeld.1, hHeld.2.1, hHeld.2.2⟩ (fun hHeld => ?_)
                  clear hK K
                  refine norm_ (a' := ?_) ?_ ?_
                  rotate_left
                  · show Act.put _ (some 34) _ = _
                    simp only [Act.put, List.setIfInBounds_toArray, List.set_cons_zero, List.set_cons_succ, i64_w, i32_w]
                    rfl
                  refine pure_ (i := 9) (N := some 41) (v := ?_) (a' := ?_) #[true, true, true, true, true, true, true, true, true, true, false] rfl rfl (any_of HT_.out (by kernel_rfl)) (fun _ _ _ h => h) (Or.inl ⟨by rfl, ?_⟩) ?_ ?_
                  rotate_left
                  · intro w'
                    go_simp
                    with_reducible rfl
                  rotate_left
                  · simp only [Act.put, List.setIfInBounds_toArray, List.set_cons_zero, List.set_cons_succ, i64_w, i32_w]
                    rfl
                  refine pure_ (i := 10) (N := some 10) (v := ?_) (a' := ?_) #[true, true, true, true, true, true, true, true, true, true, true] rfl rfl (any_of HT_.out (by kernel_rfl)) (fun _ _ _ h => h) (Or.inl ⟨by rfl, ?_⟩) ?_ ?_
                  rotate_left
                  · intro w'
                    go_simp
                    with_reducible rfl
                  rotate_left
                  · simp only [Act.put, List.setIfInBounds_toArray, List.set_cons_zero, List.set_cons_succ, i64_w, i32_w]
                    rfl
                  refine done_ (done_of HT_.out (by kernel_rfl)) ?_
                  try go_wp2_with (first | ((with_reducible refine gate_builtin (b := .append) (xs := #[.tmp 42, .tmp 44]) rfl ?_); (try (refine gate_guard (by rfl) ?_; dsimp only)); at_builtin; refine Kd.R_append (Kd.int .i64) (w0 := w) w.heap.size rfl (.tmp 42) (.tmp 44) 29 3 (.int .i64 0) 8 rfl Try.underlying29 info3 rfl (by decide) (by omega) u4 x4_1 (Int.tmod t328 (wrap64 (((rd_T42 t322 x9_1).f2) + 1))) [.int .i64 (Int.tmod t328 (wrap64 (((rd_T42 t322 x9_1).f2) + 1)))] (fun _ => True) (fun _ => False) rfl rfl ?aP (fun _ hk => hk.elim) ?aF ?aO ?aB ?aS ?aL ?_; (case aP => exact rfl); (case aB => exact (by repeat (first | (with_reducible first | exact HB.out | apply below_alloc | apply pw_below_drewN | apply below_drew1) | exact HB.out))); (case aF => exact (fun _ _ => trivial)); (case aO => exact (by (with_reducible repeat (first | apply Kd.R_alloc | apply Kd.R_drewN | apply Kd.R_drew)); exact HO_4.out)); (case aS => exact (below_size (by repeat (first | (with_reducible first | exact HB.out | apply below_alloc | apply pw_below_drewN | apply below_drew1) | exact HB.out)))); (case aL => have := LMc12.out; omega); intro v331 w21 ho hb hg hat; rw [← Ny330.out] at ho; have n0_ := Aside0.mk (Kd.R_over' (by (with_reducible repeat (first | apply Kd.R_alloc | apply Kd.R_drewN | apply Kd.R_drew)); exact HO_3.out) (Kd.R_typed (by (with_reducible repeat (first | apply Kd.R_alloc | apply Kd.R_drewN | apply Kd.R_drew)); exact HO_4.out)) (by decide) hg); have n1_ := Aside0.mk (hb); have n2_ := Aside0.mk (ho); clear HO_3; clear HB; clear HO_4; have HO_3 := n0_; have HB := n1_; have HO332 := n2_; clear n0_ n1_ n2_; clear ho hb hg hat; have p333 : 0 ≤ (x9_1 : Int) := of_decide_eq_true (by first | (with_reducible assumption) | assumption); have q333 : x9_1 < (t322.length : Int) := of_decide_eq_true (by first | (with_reducible assumption) | assumption); obtain ⟨ad333, e333, hx333_0, hx333_1, hx333_2⟩ := at_T42 (Kd.R_reads' HO_3.out).2.2 x9_1 p333 q333; obtain rfl : ad329 = ad333 := (by injection e333); replace p333 := eq_true p333; replace q333 := eq_true q333))
                  go_roundg k1
                  case measure => have := HK1.out; omega
                  case rel => exact ⟨(y330), (x5_1), (x6_1), (wrap64 (x7_1 + (Int.tmod t328 (wrap64 (((rd_T42 t322 x9_1).f2) + 1))))), (wrap64 (x8_1 + (wrap64 ((Int.tmod t328 (wrap64 (((rd_T42 t322 x9_1).f2) + 1))) * ((rd_T42 t322 x9_1).f1))))), (wrap64 (x9_1 + 1)), (by first | rfl | (simp; done) | (simp [*]; done)), (by first | rfl | (simp; done) | (simp [*]; done)), (by first | rfl | (simp; done) | (simp [*]; done)), (by first | rfl | (simp; done) | (simp [*]; done)), (by first | rfl | (simp; done) | (simp [*]; done)), H', ⟨by have := HK1.out; omega⟩, ⟨by (with_reducible repeat (first | apply Kd.R_alloc | apply Kd.R_drewN | apply Kd.R_drew)); exact HO_3.out⟩, ⟨by (with_reducible repeat (first | apply Kd.R_alloc | apply Kd.R_drewN | apply Kd.R_drew)); exact HO332.out⟩, ⟨by repeat (first | (with_reducible first | exact HB.out | apply below_alloc | apply pw_below_drewN | apply below_drew1) | exact HB.out)⟩⟩
              · rw [if_neg c12] at H
                exact absurd H (by simp)
          · rw [if_neg c10] at H
            exact absurd H (by simp)
        · rw [if_neg c8] at H
          have c8b0 : decide (x9_1 < (t322.length : Int)) = false := decide_eq_false c8
          clear c8
          replace H := Option.bind_eq_some_iff.mp H
          obtain ⟨t336, A220, H⟩ := H
          replace H : (if ((t336 == (-1)) != (x7_1 == 0)) = true then (laws_FnBlends.j1 k1 l0 t322 x7_1 t336 true) else (if t336 ≥ 0 then (if t336 < x5_1 then (laws_FnBlends.j1 k1 l0 t322 x7_1 t336 true) else (if t336 > x6_1 then (laws_FnBlends.j1 k1 l0 t322 x7_1 t336 true) else ((impl_BlendCost.f k1 t322 x4_1).bind fun t337 => (laws_FnBlends.j1 k1 l0 t322 x7_1 t336 (t337 != x8_1))))) else ((impl_BlendCost.f k1 t322 x4_1).bind fun t338 => (laws_FnBlends.j1 k1 l0 t322 x7_1 t336 (t338 != x8_1))))) = some r := H
          have A22 := Aside0.mk A220
          clear A220
          have HC23 := Aside0.mk H
          clear H
          obtain ⟨Ao24, co24, eo24⟩ := Kd.R_slice HO_3.out
          subst eo24
          obtain ⟨Ao25, co25, eo25⟩ := Kd.R_slice HO_4.out
          subst eo25
          go_upto_region 20 with (first | ((with_reducible refine gate_callee (f := 19) rfl ?_); refine goesL_ (some 76) rfl rfl Try.func19 (by kernel_rfl) rfl #[.slice Ao24 t322.length co24, .slice Ao25 x4_1.length co25] rfl (by (try simp only [List.map_toArray, List.map_cons, List.map_nil]); first | done | rfl | (simp only [List.length_drop, List.length_take]; rfl)) ?_; (with_reducible refine (impl_StrengthOf.calls k1 _ _ t322 _ _ x4_1 t336 _ ?side1 ?side2 ?side3 ?side4 A22.out).mono ?_); (case side1 => repeat (first | exact (Kd.R_reads' HO_3.out).2.2 | (with_reducible refine Kd.C_alloc ?_ _) | (with_reducible refine Kd.C_drewN ?_ _) | (with_reducible refine Kd.C_drew ?_))); (case side2 => exact (Kd.R_reads' HO_3.out).2.1); (case side3 => repeat (first | exact (Kd.R_reads' HO_4.out).2.2 | (with_reducible refine Kd.C_alloc ?_ _) | (with_reducible refine Kd.C_drewN ?_ _) | (with_reducible refine Kd.C_drew ?_))); (case side4 => exact (Kd.R_reads' HO_4.out).2.1); rintro e w26 ⟨rfl, hb⟩; refine ⟨_, rfl, ?_⟩; have n0_ := Aside0.mk (Kd.R_below (by (with_reducible repeat (first | apply Kd.R_alloc | apply Kd.R_drewN | apply Kd.R_drew)); exact HO_3.out) hb); have n1_ := Aside0.mk (Kd.R_below (by (with_reducible repeat (first | apply Kd.R_alloc | apply Kd.R_drewN | apply Kd.R_drew)); exact HO_4.out) hb); have n2_ := Aside0.mk (below_step (by repeat (first | (with_reducible first | exact HB.out | apply below_alloc | apply pw_below_drewN | apply below_drew1) | exact HB.out)) hb); clear HO_3; clear HO_4; clear HB; have HO_3 := n0_; have HO_4 := n1_; have HB := n2_; clear n0_ n1_ n2_; (try clear hb); (try clear hb2); (try clear hk); (try clear hi)))
          (try simp only [Act.put, List.setIfInBounds_toArray, List.set_cons_zero, List.set_cons_succ])
          go_cut [102] (fun v102 wc => ∃ (kq : Nat) (x102_22 : Bool), v102 = .bool x102_22 ∧ Aside0 (laws_FnBlends.j1 kq l0 t322 x7_1 t336 x102_22 = some r) ∧ Aside0 (kq ≤ k1) ∧ Aside0 (Kd.R k42 42 wc w.heap.size (fun _ => True) (.slice Ao24 t322.length co24) t322) ∧ Aside0 (Below w.heap.size w wc))
          case first =>
            as_aux_lemma =>
              have H := HC23.out
              clear HC23
              by_cases c27 : ((t336 == (-1)) != (x7_1 == 0)) = true
              · rw [if_pos c27] at H
                have c27b0 : ((t336 == (-1)) != (x7_1 == 0)) = true := c27
                (try (have c27b1 : decide ((t336 == (-1)) = (x7_1 == 0)) = false := by simpa using c27))
                (try (have c27b2 : ((t336 == (-1)) == (x7_1 == 0)) = false := by simpa using c27))
                (try (have c27b3 : ¬ ((t336 == (-1)) = (x7_1 == 0)) := by simpa using c27))
                clear c27
                (first | rw [c27b0] | (simp only [i64_w, i32_w]; rw [c27b0]) | skip)
                have H' := Aside0.mk H
                clear H
                go_wp2
                go_meet
                case rel => exact ⟨_, (true), (by first | rfl | (simp; done) | (simp [*]; done)), H', ⟨by have := HK1.out; first | omega | exact Nat.le_refl _⟩, ⟨by (with_reducible repeat (first | apply Kd.R_alloc | apply Kd.R_drewN | apply Kd.R_drew)); exact HO_3.out⟩, ⟨by repeat (first | (with_reducible first | exact HB.out | apply below_alloc | apply pw_below_drewN | apply below_drew1) | exact HB.out)⟩⟩
              · rw [if_neg c27] at H
                have c27b0 : ((t336 == (-1)) != (x7_1 == 0)) = false := by simpa using c27
                (try (have c27b1 : decide ((t336 == (-1)) = (x7_1 == 0)) = true := by simpa using c27))
                (try (have c27b2 : ((t336 == (-1)) == (x7_1 == 0)) = true := by simpa using c27))
                clear c27
                (first | rw [c27b0] | (simp only [i64_w, i32_w]; rw [c27b0]) | skip)
                by_cases c28 : t336 ≥ 0
                · rw [if_pos c28] at H
                  have c28b0 : decide (0 ≤ t336) = true := decide_eq_true c28
                  clear c28
                  by_cases c29 : t336 < x5_1
                  · rw [if_pos c29] at H
                    have c29b0 : decide (t336 < x5_1) = true := decide_eq_true c29
                    clear c29
                    have H' := Aside0.mk H
                    clear H
                    go_wp2
                    go_meet
                    case rel => exact ⟨_, (true), (by first | rfl | (simp; done) | (simp [*]; done)), H', ⟨by have := HK1.out; first | omega | exact Nat.le_refl _⟩, ⟨by (with_reducible repeat (first | apply Kd.R_alloc | apply Kd.R_drewN | apply Kd.R_drew)); exact HO_3.out⟩, ⟨by repeat (first | (with_reducible first | exact HB.out | apply below_alloc | apply pw_below_drewN | apply below_drew1) | exact HB.out)⟩⟩
                  · rw [if_neg c29] at H
                    have c29b0 : decide (t336 < x5_1) = false := decide_eq_false c29
                    clear c29
                    by_cases c30 : t336 > x6_1
                    · rw [if_pos c30] at H
                      have c30b0 : decide (x6_1 < t336) = true := decide_eq_true c30
                      clear c30
                      have H' := Aside0.mk H
                      clear H
                      go_wp2
                      go_meet
                      case rel => exact ⟨_, (true), (by first | rfl | (simp; done) | (simp [*]; done)), H', ⟨by have := HK1.out; first | omega | exact Nat.le_refl _⟩, ⟨by (with_reducible repeat (first | apply Kd.R_alloc | apply Kd.R_drewN | apply Kd.R_drew)); exact HO_3.out⟩, ⟨by repeat (first | (with_reducible first | exact HB.out | apply below_alloc | apply pw_below_drewN | apply below_drew1) | exact HB.out)⟩⟩
                    · rw [if_neg c30] at H
                      have c30b0 : decide (x6_1 < t336) = false := decide_eq_false c30
                      clear c30
                      replace H := Option.bind_eq_some_iff.mp H
                      obtain ⟨t337, A310, H⟩ := H
                      replace H : (laws_FnBlends.j1 k1 l0 t322 x7_1 t336 (t337 != x8_1)) = some r := H
                      have A31 := Aside0.mk A310
                      clear A310
                      have H' := Aside0.mk H
                      clear H
                      go_wp2_with (first | (go_at_call 16; (with_reducible refine (impl_BlendCost.calls k1 _ _ t322 _ _ x4_1 t337 _ ?side1 ?side2 ?side3 ?side4 A31.out).mono ?_); (case side1 => repeat (first | exact (Kd.R_reads' HO_3.out).2.2 | (with_reducible refine Kd.C_alloc ?_ _) | (with_reducible refine Kd.C_drewN ?_ _) | (with_reducible refine Kd.C_drew ?_))); (case side2 => exact (Kd.R_reads' HO_3.out).2.1); (case side3 => repeat (first | exact (Kd.R_reads' HO_4.out).2.2 | (with_reducible refine Kd.C_alloc ?_ _) | (with_reducible refine Kd.C_drewN ?_ _) | (with_reducible refine Kd.C_drew ?_))); (case side4 => exact (Kd.R_reads' HO_4.out).2.1); rintro e w32 ⟨rfl, hb⟩; have n0_ := Aside0.mk (Kd.R_below (by (with_reducible repeat (first | apply Kd.R_alloc | apply Kd.R_drewN | apply Kd.R_drew)); exact HO_3.out) hb); have n1_ := Aside0.mk (Kd.R_below (by (with_reducible repeat (first | apply Kd.R_alloc | apply Kd.R_drewN | apply Kd.R_drew)); exact HO_4.out) hb); have n2_ := Aside0.mk (below_step (by repeat (first | (with_reducible first | exact HB.out | apply below_alloc | apply pw_below_drewN | apply below_drew1) | exact HB.out)) hb); clear HO_3; clear HO_4; clear HB; have HO_3 := n0_; have HO_4 := n1_; have HB := n2_; clear n0_ n1_ n2_; (try clear hb); (try clear hb2); (try clear hk); (try clear hi)))
                      go_meet
                      case rel => exact ⟨_, ((t337 != x8_1)), (by first | rfl | (simp; done) | (simp [*]; done)), H', ⟨by have := HK1.out; first | omega | exact Nat.le_refl _⟩, ⟨by (with_reducible repeat (first | apply Kd.R_alloc | apply Kd.R_drewN | apply Kd.R_drew)); exact HO_3.out⟩, ⟨by repeat (first | (with_reducible first | exact HB.out | apply below_alloc | apply pw_below_drewN | apply below_drew1) | exact HB.out)⟩⟩
                · rw [if_neg c28] at H
                  have c28b0 : decide (0 ≤ t336) = false := decide_eq_false c28
                  clear c28
                  replace H := Option.bind_eq_some_iff.mp H
                  obtain ⟨t338, A330, H⟩ := H
                  replace H : (laws_FnBlends.j1 k1 l0 t322 x7_1 t336 (t338 != x8_1)) = some r := H
                  have A33 := Aside0.mk A330
                  clear A330
                  have H' := Aside0.mk H
                  clear H
                  go_wp2_with (first | (go_at_call 16; (with_reducible refine (impl_BlendCost.calls k1 _ _ t322 _ _ x4_1 t338 _ ?side1 ?side2 ?side3 ?side4 A33.out).mono ?_); (case side1 => repeat (first | exact (Kd.R_reads' HO_3.out).2.2 | (with_reducible refine Kd.C_alloc ?_ _) | (with_reducible refine Kd.C_drewN ?_ _) | (with_reducible refine Kd.C_drew ?_))); (case side2 => exact (Kd.R_reads' HO_3.out).2.1); (case side3 => repeat (first | exact (Kd.R_reads' HO_4.out).2.2 | (with_reducible refine Kd.C_alloc ?_ _) | (with_reducible refine Kd.C_drewN ?_ _) | (with_reducible refine Kd.C_drew ?_))); (case side4 => exact (Kd.R_reads' HO_4.out).2.1); rintro e w34 ⟨rfl, hb⟩; have n0_ := Aside0.mk (Kd.R_below (by (with_reducible repeat (first | apply Kd.R_alloc | apply Kd.R_drewN | apply Kd.R_drew)); exact HO_3.out) hb); have n1_ := Aside0.mk (Kd.R_below (by (with_reducible repeat (first | apply Kd.R_alloc | apply Kd.R_drewN | apply Kd.R_drew)); exact HO_4.out) hb); have n2_ := Aside0.mk (below_step (by repeat (first | (with_reducible first | exact HB.out | apply below_alloc | apply pw_below_drewN | apply below_drew1) | exact HB.out)) hb); clear HO_3; clear HO_4; clear HB; have HO_3 := n0_; have HO_4 := n1_; have HB := n2_; clear n0_ n1_ n2_; (try clear hb); (try clear hb2); (try clear hk); (try clear hi)))
                  go_meet
                  case rel => exact ⟨_, ((t338 != x8_1)), (by first | rfl | (simp; done) | (simp [*]; done)), H', ⟨by have := HK1.out; first | omega | exact Nat.le_refl _⟩, ⟨by (with_reducible repeat (first | apply Kd.R_alloc | apply Kd.R_drewN | apply Kd.R_drew)); exact HO_3.out⟩, ⟨by repeat (first | (with_reducible first | exact HB.out | apply below_alloc | apply pw_below_drewN | apply below_drew1) | exact HB.out)⟩⟩
          case rest =>
            clear HC23
            try clear c1
            try clear c2
            try clear p2
            try clear c3
            try clear p3
            try clear q3
            try clear hx3
            try clear p6
            try clear c7
            try clear c8
            try clear c8b0
            try clear c10
            try clear c10b0
            try clear c11
            try clear c11b0
            try clear c11b1
            try clear c12
            try clear c13
            try clear c13b0
            try clear c19
            try clear c22
            try clear c23
            try clear c24
            try clear c27
            try clear c27b0
            try clear c27b1
            try clear c27b2
            try clear c28
            try clear c28b0
            try clear c29
            try clear c29b0
            try clear c30
            try clear c30b0
            try clear p32
            try clear q32
            try clear hx32
            try clear p33
            try clear q33
            try clear hx33
            try clear hx329_0
            try clear hx329_1
            try clear hx329_2
            try clear hx333_0
            try clear hx333_1
            try clear hx333_2
            try clear hx334_0
            try clear hx334_1
            try clear hx334_2
            try clear hx335_0
            try clear hx335_1
            try clear hx335_2
            try clear p2
            try clear p329
            try clear p333
            try clear p334
            try clear p335
            try clear q329
            try clear q333
            try clear q334
            try clear q335
            obtain ⟨kq, x102_22, rfl, HA, HJ22, HO_3, HB⟩ := hcut
            cases kq with
            | zero => exact absurd HA.out (by simp [laws_FnBlends.j1])
            | succ kj22 =>
              have H := HA.out
              clear HA
              simp only [laws_FnBlends.j1] at H
              by_cases c35 : x102_22 = true
              · subst c35
                have H1 : (some false) = some r := by rw [if_pos rfl] at H; exact H
                clear H
                have H := H1
                clear H1
                exact absurd ((Option.some.inj H).trans HR_.out) (by decide)
              · replace c35 := Bool.eq_false_iff.mpr c35
                subst c35
                have H1 : (if x7_1 > 0 then ((impl_StrongestFor.f kj22 t322 x7_1).bind fun t339 => (laws_FnBlends.j2 kj22 l0 t322 (decide (t339 < t336)))) else (laws_FnBlends.j2 kj22 l0 t322 false)) = some r := by rw [if_neg (show ¬ (false = true) by decide)] at H; exact H
                clear H
                have H := H1
                clear H1
                have HC36 := Aside0.mk H
                clear H
                go_upto_region 22 with (fail)
                go_cut [111] (fun v111 wc => ∃ (kq : Nat) (x111_35 : Bool), v111 = .bool x111_35 ∧ Aside0 (laws_FnBlends.j2 kq l0 t322 x111_35 = some r) ∧ Aside0 (kq ≤ kj22) ∧ Aside0 (Kd.R k42 42 wc w.heap.size (fun _ => True) (.slice Ao24 t322.length co24) t322) ∧ Aside0 (Below w.heap.size w wc))
                case first =>
                  as_aux_lemma =>
                    have H := HC36.out
                    clear HC36
                    by_cases c37 : x7_1 > 0
                    · rw [if_pos c37] at H
                      have c37b0 : decide (0 < x7_1) = true := decide_eq_true c37
                      clear c37
                      (first | rw [c37b0] | (simp only [i64_w, i32_w]; rw [c37b0]) | skip)
                      replace H := Option.bind_eq_some_iff.mp H
                      obtain ⟨t339, A380, H⟩ := H
                      replace H : (laws_FnBlends.j2 kj22 l0 t322 (decide (t339 < t336))) = some r := H
                      have A38 := Aside0.mk A380
                      clear A380
                      have H' := Aside0.mk H
                      clear H
                      go_wp2_with (first | (go_at_call 25; (with_reducible refine (impl_StrongestFor.calls kj22 _ _ t322 x7_1 t339 _ ?side1 ?side2 A38.out).mono ?_); (case side1 => repeat (first | exact (Kd.R_reads' HO_3.out).2.2 | (with_reducible refine Kd.C_alloc ?_ _) | (with_reducible refine Kd.C_drewN ?_ _) | (with_reducible refine Kd.C_drew ?_))); (case side2 => exact (Kd.R_reads' HO_3.out).2.1); rintro e w39 ⟨rfl, hb⟩; have n0_ := Aside0.mk (Kd.R_below (by (with_reducible repeat (first | apply Kd.R_alloc | apply Kd.R_drewN | apply Kd.R_drew)); exact HO_3.out) hb); have n1_ := Aside0.mk (below_step (by repeat (first | (with_reducible first | exact HB.out | apply below_alloc | apply pw_below_drewN | apply below_drew1) | exact HB.out)) hb); clear HO_3; clear HB; have HO_3 := n0_; have HB := n1_; clear n0_ n1_; (try clear hb); (try clear hb2); (try clear hk); (try clear hi)))
                      go_meet
                      case rel => exact ⟨_, (decide (t339 < t336)), (by first | rfl | (simp; done) | (simp [*]; done)), H', ⟨by have := HK1.out; have := HJ22.out; first | omega | exact Nat.le_refl _⟩, ⟨by (with_reducible repeat (first | apply Kd.R_alloc | apply Kd.R_drewN | apply Kd.R_drew)); exact HO_3.out⟩, ⟨by repeat (first | (with_reducible first | exact HB.out | apply below_alloc | apply pw_below_drewN | apply below_drew1) | exact HB.out)⟩⟩
                    · rw [if_neg c37] at H
                      have c37b0 : decide (0 < x7_1) = false := decide_eq_false c37
                      clear c37
                      (first | rw [c37b0] | (simp only [i64_w, i32_w]; rw [c37b0]) | skip)
                      have H' := Aside0.mk H
                      clear H
                      go_wp2
                      go_meet
                      case rel => exact ⟨_, (false), (by first | rfl | (simp; done) | (simp [*]; done)), H', ⟨by have := HK1.out; have := HJ22.out; first | omega | exact Nat.le_refl _⟩, ⟨by (with_reducible repeat (first | apply Kd.R_alloc | apply Kd.R_drewN | apply Kd.R_drew)); exact HO_3.out⟩, ⟨by repeat (first | (with_reducible first | exact HB.out | apply below_alloc | apply pw_below_drewN | apply below_drew1) | exact HB.out)⟩⟩
                case rest =>
                  clear HC36
                  try clear c1
                  try clear c2
                  try clear p2
                  try clear c3
                  try clear p3
                  try clear q3
                  try clear hx3
                  try clear p6
                  try clear c7
                  try clear c8
                  try clear c8b0
                  try clear c10
                  try clear c10b0
                  try clear c11
                  try clear c11b0
                  try clear c11b1
                  try clear c12
                  try clear c13
                  try clear c13b0
                  try clear c19
                  try clear c22
                  try clear c23
                  try clear c24
                  try clear c27
                  try clear c27b0
                  try clear c27b1
                  try clear c27b2
                  try clear c28
                  try clear c28b0
                  try clear c29
                  try clear c29b0
                  try clear c30
                  try clear c30b0
                  try clear p32
                  try clear q32
                  try clear hx32
                  try clear p33
                  try clear q33
                  try clear hx33
                  try clear c35
                  try clear c37
                  try clear c37b0
                  try clear hx329_0
                  try clear hx329_1
                  try clear hx329_2
                  try clear hx333_0
                  try clear hx333_1
                  try clear hx333_2
                  try clear hx334_0
                  try clear hx334_1
                  try clear hx334_2
                  try clear hx335_0
                  try clear hx335_1
                  try clear hx335_2
                  try clear p2
                  try clear p3
                  try clear p32
                  try clear p329
                  try clear p33
                  try clear p333
                  try clear p334
                  try clear p335
                  try clear p6
                  try clear q3
                  try clear q32
                  try clear q329
                  try clear q33
                  try clear q333
                  try clear q334
                  try clear q335
                  obtain ⟨kq, x111_35, rfl, HA, HJ35, HO_3, HB⟩ := hcut
                  cases kq with
                  | zero => exact absurd HA.out (by simp [laws_FnBlends.j2])
                  | succ kj35 =>
                    have H := HA.out
                    clear HA
                    simp only [laws_FnBlends.j2] at H
                    by_cases c40 : x111_35 = true
                    · subst c40
                      have H1 : (some false) = some r := by rw [if_pos rfl] at H; exact H
                      clear H
                      have H := H1
                      clear H1
                      exact absurd ((Option.some.inj H).trans HR_.out) (by decide)
                    · replace c40 := Bool.eq_false_iff.mpr c40
                      subst c40
                      have H1 : ((laws_at.f l0 5).bind fun t340 => ((laws_at.f l0 6).bind fun t341 => ((impl_CheapestTwo.f kj35 t322 (wrap64 (1 + (Int.tmod t340 20))) (wrap64 (100 + t341))).bind fun bt342 => (if bt342.2.2.2 = true then (if bt342.1 < 0 then (laws_FnBlends.j3 kj35 l0 t322 (wrap64 (1 + (Int.tmod t340 20))) (wrap64 (100 + t341)) bt342.1 bt342.2.1 bt342.2.2.1 true) else (if bt342.2.1 ≤ bt342.1 then (laws_FnBlends.j3 kj35 l0 t322 (wrap64 (1 + (Int.tmod t340 20))) (wrap64 (100 + t341)) bt342.1 bt342.2.1 bt342.2.2.1 true) else (if bt342.2.1 ≥ (t322.length : Int) then (laws_FnBlends.j3 kj35 l0 t322 (wrap64 (1 + (Int.tmod t340 20))) (wrap64 (100 + t341)) bt342.1 bt342.2.1 bt342.2.2.1 true) else (if bt342.2.2.1 < 0 then (laws_FnBlends.j3 kj35 l0 t322 (wrap64 (1 + (Int.tmod t340 20))) (wrap64 (100 + t341)) bt342.1 bt342.2.1 bt342.2.2.1 true) else (laws_FnBlends.j3 kj35 l0 t322 (wrap64 (1 + (Int.tmod t340 20))) (wrap64 (100 + t341)) bt342.1 bt342.2.1 bt342.2.2.1 (decide (bt342.2.2.1 > (wrap64 (1 + (Int.tmod t340 20)))))))))) else ((impl_FloursOk.f t322).bind fun t373 => (if t373 = true then (if 0 ≤ (t322.length : Int) then (if ((t322.length : Int) : Int).toNat ≤ 35184372088832 then ((impl_BlendCost.f kj35 t322 (List.replicate ((t322.length : Int) : Int).toNat 0)).bind fun t377 => (if t377 = 0 then ((impl_StrengthOf.f kj35 (([(⟨100, 1, 5⟩ : S42), (⟨200, 1, 5⟩ : S42)] : List (S42))) (([1, 1] : List Int))).bind fun t384 => (some (t384 == 150))) else (some false))) else (none)) else (none)) else (some false))))))) = some r := by rw [if_neg (show ¬ (false = true) by decide)] at H; exact H
                      clear H
                      have H := H1
                      clear H1
                      replace H := Option.bind_eq_some_iff.mp H
                      obtain ⟨t340, A410, H⟩ := H
                      replace H : ((laws_at.f l0 6).bind fun t341 => ((impl_CheapestTwo.f kj35 t322 (wrap64 (1 + (Int.tmod t340 20))) (wrap64 (100 + t341))).bind fun bt342 => (if bt342.2.2.2 = true then (if bt342.1 < 0 then (laws_FnBlends.j3 kj35 l0 t322 (wrap64 (1 + (Int.tmod t340 20))) (wrap64 (100 + t341)) bt342.1 bt342.2.1 bt342.2.2.1 true) else (if bt342.2.1 ≤ bt342.1 then (laws_FnBlends.j3 kj35 l0 t322 (wrap64 (1 + (Int.tmod t340 20))) (wrap64 (100 + t341)) bt342.1 bt342.2.1 bt342.2.2.1 true) else (if bt342.2.1 ≥ (t322.length : Int) then (laws_FnBlends.j3 kj35 l0 t322 (wrap64 (1 + (Int.tmod t340 20))) (wrap64 (100 + t341)) bt342.1 bt342.2.1 bt342.2.2.1 true) else (if bt342.2.2.1 < 0 then (laws_FnBlends.j3 kj35 l0 t322 (wrap64 (1 + (Int.tmod t340 20))) (wrap64 (100 + t341)) bt342.1 bt342.2.1 bt342.2.2.1 true) else (laws_FnBlends.j3 kj35 l0 t322 (wrap64 (1 + (Int.tmod t340 20))) (wrap64 (100 + t341)) bt342.1 bt342.2.1 bt342.2.2.1 (decide (bt342.2.2.1 > (wrap64 (1 + (Int.tmod t340 20)))))))))) else ((impl_FloursOk.f t322).bind fun t373 => (if t373 = true then (if 0 ≤ (t322.length : Int) then (if ((t322.length : Int) : Int).toNat ≤ 35184372088832 then ((impl_BlendCost.f kj35 t322 (List.replicate ((t322.length : Int) : Int).toNat 0)).bind fun t377 => (if t377 = 0 then ((impl_StrengthOf.f kj35 (([(⟨100, 1, 5⟩ : S42), (⟨200, 1, 5⟩ : S42)] : List (S42))) (([1, 1] : List Int))).bind fun t384 => (some (t384 == 150))) else (some false))) else (none)) else (none)) else (some false)))))) = some r := H
                      have A41 := Aside0.mk A410
                      clear A410
                      replace H := Option.bind_eq_some_iff.mp H
                      obtain ⟨t341, A420, H⟩ := H
                      replace H : ((impl_CheapestTwo.f kj35 t322 (wrap64 (1 + (Int.tmod t340 20))) (wrap64 (100 + t341))).bind fun bt342 => (if bt342.2.2.2 = true then (if bt342.1 < 0 then (laws_FnBlends.j3 kj35 l0 t322 (wrap64 (1 + (Int.tmod t340 20))) (wrap64 (100 + t341)) bt342.1 bt342.2.1 bt342.2.2.1 true) else (if bt342.2.1 ≤ bt342.1 then (laws_FnBlends.j3 kj35 l0 t322 (wrap64 (1 + (Int.tmod t340 20))) (wrap64 (100 + t341)) bt342.1 bt342.2.1 bt342.2.2.1 true) else (if bt342.2.1 ≥ (t322.length : Int) then (laws_FnBlends.j3 kj35 l0 t322 (wrap64 (1 + (Int.tmod t340 20))) (wrap64 (100 + t341)) bt342.1 bt342.2.1 bt342.2.2.1 true) else (if bt342.2.2.1 < 0 then (laws_FnBlends.j3 kj35 l0 t322 (wrap64 (1 + (Int.tmod t340 20))) (wrap64 (100 + t341)) bt342.1 bt342.2.1 bt342.2.2.1 true) else (laws_FnBlends.j3 kj35 l0 t322 (wrap64 (1 + (Int.tmod t340 20))) (wrap64 (100 + t341)) bt342.1 bt342.2.1 bt342.2.2.1 (decide (bt342.2.2.1 > (wrap64 (1 + (Int.tmod t340 20)))))))))) else ((impl_FloursOk.f t322).bind fun t373 => (if t373 = true then (if 0 ≤ (t322.length : Int) then (if ((t322.length : Int) : Int).toNat ≤ 35184372088832 then ((impl_BlendCost.f kj35 t322 (List.replicate ((t322.length : Int) : Int).toNat 0)).bind fun t377 => (if t377 = 0 then ((impl_StrengthOf.f kj35 (([(⟨100, 1, 5⟩ : S42), (⟨200, 1, 5⟩ : S42)] : List (S42))) (([1, 1] : List Int))).bind fun t384 => (some (t384 == 150))) else (some false))) else (none)) else (none)) else (some false))))) = some r := H
                      have A42 := Aside0.mk A420
                      clear A420
                      replace H := Option.bind_eq_some_iff.mp H
                      obtain ⟨⟨t342, t343, t344, t345⟩, A430, H⟩ := H
                      replace H : (if t345 = true then (if t342 < 0 then (laws_FnBlends.j3 kj35 l0 t322 (wrap64 (1 + (Int.tmod t340 20))) (wrap64 (100 + t341)) t342 t343 t344 true) else (if t343 ≤ t342 then (laws_FnBlends.j3 kj35 l0 t322 (wrap64 (1 + (Int.tmod t340 20))) (wrap64 (100 + t341)) t342 t343 t344 true) else (if t343 ≥ (t322.length : Int) then (laws_FnBlends.j3 kj35 l0 t322 (wrap64 (1 + (Int.tmod t340 20))) (wrap64 (100 + t341)) t342 t343 t344 true) else (if t344 < 0 then (laws_FnBlends.j3 kj35 l0 t322 (wrap64 (1 + (Int.tmod t340 20))) (wrap64 (100 + t341)) t342 t343 t344 true) else (laws_FnBlends.j3 kj35 l0 t322 (wrap64 (1 + (Int.tmod t340 20))) (wrap64 (100 + t341)) t342 t343 t344 (decide (t344 > (wrap64 (1 + (Int.tmod t340 20)))))))))) else ((impl_FloursOk.f t322).bind fun t373 => (if t373 = true then (if 0 ≤ (t322.length : Int) then (if ((t322.length : Int) : Int).toNat ≤ 35184372088832 then ((impl_BlendCost.f kj35 t322 (List.replicate ((t322.length : Int) : Int).toNat 0)).bind fun t377 => (if t377 = 0 then ((impl_StrengthOf.f kj35 (([(⟨100, 1, 5⟩ : S42), (⟨200, 1, 5⟩ : S42)] : List (S42))) (([1, 1] : List Int))).bind fun t384 => (some (t384 == 150))) else (some false))) else (none)) else (none)) else (some false)))) = some r := H
                      have A43 := Aside0.mk A430
                      clear A430
                      by_cases c44 : t345 = true
                      · subst c44
                        have H1 : (if t342 < 0 then (laws_FnBlends.j3 kj35 l0 t322 (wrap64 (1 + (Int.tmod t340 20))) (wrap64 (100 + t341)) t342 t343 t344 true) else (if t343 ≤ t342 then (laws_FnBlends.j3 kj35 l0 t322 (wrap64 (1 + (Int.tmod t340 20))) (wrap64 (100 + t341)) t342 t343 t344 true) else (if t343 ≥ (t322.length : Int) then (laws_FnBlends.j3 kj35 l0 t322 (wrap64 (1 + (Int.tmod t340 20))) (wrap64 (100 + t341)) t342 t343 t344 true) else (if t344 < 0 then (laws_FnBlends.j3 kj35 l0 t322 (wrap64 (1 + (Int.tmod t340 20))) (wrap64 (100 + t341)) t342 t343 t344 true) else (laws_FnBlends.j3 kj35 l0 t322 (wrap64 (1 + (Int.tmod t340 20))) (wrap64 (100 + t341)) t342 t343 t344 (decide (t344 > (wrap64 (1 + (Int.tmod t340 20)))))))))) = some r := by rw [if_pos rfl] at H; exact H
                        clear H
                        have H := H1
                        clear H1
                        have HC45 := Aside0.mk H
                        clear H
                        go_upto_region 28 with (first | ((with_reducible refine gate_callee (f := 24) rfl ?_); refine goesL_ (some 113) rfl rfl Try.func24 (by kernel_rfl) rfl #[.slice A0 l0.length c0, .int .i64 5] rfl (by (try simp only [List.map_toArray, List.map_cons, List.map_nil]); first | done | rfl | (simp only [List.length_drop, List.length_take]; rfl)) ?_; (with_reducible refine (laws_at.calls _ _ l0 5 t340 _ ?side1 ?side2 A41.out).mono ?_); (case side1 => repeat (first | exact (Kd.C_below HR0.out HB.out) | (with_reducible refine Kd.C_alloc ?_ _) | (with_reducible refine Kd.C_drewN ?_ _) | (with_reducible refine Kd.C_drew ?_))); (case side2 => exact HC0.out); rintro e w' ⟨rfl, ⟨nd, rfl⟩⟩; refine ⟨_, rfl, ?_⟩) | ((with_reducible refine gate_callee (f := 24) rfl ?_); refine goesL_ (some 117) rfl rfl Try.func24 (by kernel_rfl) rfl #[.slice A0 l0.length c0, .int .i64 6] rfl (by (try simp only [List.map_toArray, List.map_cons, List.map_nil]); first | done | rfl | (simp only [List.length_drop, List.length_take]; rfl)) ?_; (with_reducible refine (laws_at.calls _ _ l0 6 t341 _ ?side1 ?side2 A42.out).mono ?_); (case side1 => repeat (first | exact (Kd.C_below HR0.out (by repeat (first | (with_reducible first | exact HB.out | apply below_alloc | apply pw_below_drewN | apply below_drew1) | exact HB.out))) | (with_reducible refine Kd.C_alloc ?_ _) | (with_reducible refine Kd.C_drewN ?_ _) | (with_reducible refine Kd.C_drew ?_))); (case side2 => exact HC0.out); rintro e w' ⟨rfl, ⟨nd, rfl⟩⟩; refine ⟨_, rfl, ?_⟩) | ((with_reducible refine gate_callee (f := 21) rfl ?_); refine goesL_ (some 123) rfl rfl Try.func21 (by kernel_rfl) rfl #[.slice Ao24 t322.length co24, .int .i64 (wrap64 (1 + (Int.tmod t340 20))), .int .i64 (wrap64 (100 + t341))] rfl (by (try simp only [List.map_toArray, List.map_cons, List.map_nil]); first | done | rfl | (simp only [List.length_drop, List.length_take]; rfl)) ?_; (with_reducible refine (impl_CheapestTwo.calls kj35 _ _ t322 (wrap64 (1 + (Int.tmod t340 20))) (wrap64 (100 + t341)) t342 t343 t344 true _ ?side1 ?side2 A43.out).mono ?_); (case side1 => repeat (first | exact (Kd.R_reads' HO_3.out).2.2 | (with_reducible refine Kd.C_alloc ?_ _) | (with_reducible refine Kd.C_drewN ?_ _) | (with_reducible refine Kd.C_drew ?_))); (case side2 => exact (Kd.R_reads' HO_3.out).2.1); rintro e w46 ⟨rfl, hb⟩; refine ⟨_, rfl, ?_⟩; have n0_ := Aside0.mk (Kd.R_below (by (with_reducible repeat (first | apply Kd.R_alloc | apply Kd.R_drewN | apply Kd.R_drew)); exact HO_3.out) hb); have n1_ := Aside0.mk (below_step (by repeat (first | (with_reducible first | exact HB.out | apply below_alloc | apply pw_below_drewN | apply below_drew1) | exact HB.out)) hb); clear HO_3; clear HB; have HO_3 := n0_; have HB := n1_; clear n0_ n1_; (try clear hb); (try clear hb2); (try clear hk); (try clear hi)))
                        (try simp only [Act.put, List.setIfInBounds_toArray, List.set_cons_zero, List.set_cons_succ])
                        go_cut [150] (fun v150 wc => ∃ (kq : Nat) (x150_44 : Bool), v150 = .bool x150_44 ∧ Aside0 (laws_FnBlends.j3 kq l0 t322 (wrap64 (1 + (Int.tmod t340 20))) (wrap64 (100 + t341)) t342 t343 t344 x150_44 = some r) ∧ Aside0 (kq ≤ kj35) ∧ Aside0 (Kd.R k42 42 wc w.heap.size (fun _ => True) (.slice Ao24 t322.length co24) t322) ∧ Aside0 (Below w.heap.size w wc))
                        case first =>
                          as_aux_lemma =>
                            have H := HC45.out
                            clear HC45
                            by_cases c47 : t342 < 0
                            · rw [if_pos c47] at H
                              have c47b0 : decide (t342 < 0) = true := decide_eq_true c47
                              clear c47
                              (first | rw [c47b0] | (simp only [i64_w, i32_w]; rw [c47b0]) | skip)
                              have H' := Aside0.mk H
                              clear H
                              go_wp2
                              go_meet
                              case rel => exact ⟨_, (true), (by first | rfl | (simp; done) | (simp [*]; done)), H', ⟨by have := HK1.out; have := HJ22.out; have := HJ35.out; first | omega | exact Nat.le_refl _⟩, ⟨by (with_reducible repeat (first | apply Kd.R_alloc | apply Kd.R_drewN | apply Kd.R_drew)); exact HO_3.out⟩, ⟨by repeat (first | (with_reducible first | exact HB.out | apply below_alloc | apply pw_below_drewN | apply below_drew1) | exact HB.out)⟩⟩
                            · rw [if_neg c47] at H
                              have c47b0 : decide (t342 < 0) = false := decide_eq_false c47
                              clear c47
                              (first | rw [c47b0] | (simp only [i64_w, i32_w]; rw [c47b0]) | skip)
                              by_cases c48 : t343 ≤ t342
                              · rw [if_pos c48] at H
                                have c48b0 : decide (t343 ≤ t342) = true := decide_eq_true c48
                                clear c48
                                have H' := Aside0.mk H
                                clear H
                                go_wp2
                                go_meet
                                case rel => exact ⟨_, (true), (by first | rfl | (simp; done) | (simp [*]; done)), H', ⟨by have := HK1.out; have := HJ22.out; have := HJ35.out; first | omega | exact Nat.le_refl _⟩, ⟨by (with_reducible repeat (first | apply Kd.R_alloc | apply Kd.R_drewN | apply Kd.R_drew)); exact HO_3.out⟩, ⟨by repeat (first | (with_reducible first | exact HB.out | apply below_alloc | apply pw_below_drewN | apply below_drew1) | exact HB.out)⟩⟩
                              · rw [if_neg c48] at H
                                have c48b0 : decide (t343 ≤ t342) = false := decide_eq_false c48
                                clear c48
                                by_cases c49 : t343 ≥ (t322.length : Int)
                                · rw [if_pos c49] at H
                                  have c49b0 : decide ((t322.length : Int) ≤ t343) = true := decide_eq_true c49
                                  clear c49
                                  have H' := Aside0.mk H
                                  clear H
                                  go_wp2
                                  go_meet
                                  case rel => exact ⟨_, (true), (by first | rfl | (simp; done) | (simp [*]; done)), H', ⟨by have := HK1.out; have := HJ22.out; have := HJ35.out; first | omega | exact Nat.le_refl _⟩, ⟨by (with_reducible repeat (first | apply Kd.R_alloc | apply Kd.R_drewN | apply Kd.R_drew)); exact HO_3.out⟩, ⟨by repeat (first | (with_reducible first | exact HB.out | apply below_alloc | apply pw_below_drewN | apply below_drew1) | exact HB.out)⟩⟩
                                · rw [if_neg c49] at H
                                  have c49b0 : decide ((t322.length : Int) ≤ t343) = false := decide_eq_false c49
                                  clear c49
                                  by_cases c50 : t344 < 0
                                  · rw [if_pos c50] at H
                                    have c50b0 : decide (t344 < 0) = true := decide_eq_true c50
                                    clear c50
                                    have H' := Aside0.mk H
                                    clear H
                                    go_wp2
                                    go_meet
                                    case rel => exact ⟨_, (true), (by first | rfl | (simp; done) | (simp [*]; done)), H', ⟨by have := HK1.out; have := HJ22.out; have := HJ35.out; first | omega | exact Nat.le_refl _⟩, ⟨by (with_reducible repeat (first | apply Kd.R_alloc | apply Kd.R_drewN | apply Kd.R_drew)); exact HO_3.out⟩, ⟨by repeat (first | (with_reducible first | exact HB.out | apply below_alloc | apply pw_below_drewN | apply below_drew1) | exact HB.out)⟩⟩
                                  · rw [if_neg c50] at H
                                    have c50b0 : decide (t344 < 0) = false := decide_eq_false c50
                                    clear c50
                                    have H' := Aside0.mk H
                                    clear H
                                    go_wp2
                                    go_meet
                                    case rel => exact ⟨_, (decide (t344 > (wrap64 (1 + (Int.tmod t340 20))))), (by first | rfl | (simp; done) | (simp [*]; done)), H', ⟨by have := HK1.out; have := HJ22.out; have := HJ35.out; first | omega | exact Nat.le_refl _⟩, ⟨by (with_reducible repeat (first | apply Kd.R_alloc | apply Kd.R_drewN | apply Kd.R_drew)); exact HO_3.out⟩, ⟨by repeat (first | (with_reducible first | exact HB.out | apply below_alloc | apply pw_below_drewN | apply below_drew1) | exact HB.out)⟩⟩
                        case rest =>
                          clear HC45
                          try clear c1
                          try clear c2
                          try clear p2
                          try clear c3
                          try clear p3
                          try clear q3
                          try clear hx3
                          try clear c4
                          try clear c5
                          try clear p6
                          try clear c7
                          try clear c8
                          try clear c8b0
                          try clear c10
                          try clear c10b0
                          try clear c11
                          try clear c11b0
                          try clear c11b1
                          try clear c12
                          try clear c13
                          try clear c13b0
                          try clear c19
                          try clear c21
                          try clear c22
                          try clear c23
                          try clear c24
                          try clear c27
                          try clear c27b0
                          try clear c27b1
                          try clear c27b2
                          try clear c28
                          try clear c28b0
                          try clear c29
                          try clear c29b0
                          try clear c30
                          try clear c30b0
                          try clear p32
                          try clear q32
                          try clear hx32
                          try clear p33
                          try clear q33
                          try clear hx33
                          try clear c35
                          try clear c37
                          try clear c37b0
                          try clear c40
                          try clear c44
                          try clear c47
                          try clear c47b0
                          try clear c48
                          try clear c48b0
                          try clear c49
                          try clear c49b0
                          try clear c50
                          try clear c50b0
                          try clear hx329_0
                          try clear hx329_1
                          try clear hx329_2
                          try clear hx333_0
                          try clear hx333_1
                          try clear hx333_2
                          try clear hx334_0
                          try clear hx334_1
                          try clear hx334_2
                          try clear hx335_0
                          try clear hx335_1
                          try clear hx335_2
                          try clear p2
                          try clear p3
                          try clear p32
                          try clear p329
                          try clear p33
                          try clear p333
                          try clear p334
                          try clear p335
                          try clear p6
                          try clear q3
                          try clear q32
                          try clear q329
                          try clear q33
                          try clear q333
                          try clear q334
                          try clear q335
                          obtain ⟨kq, x150_44, rfl, HA, HJ44, HO_3, HB⟩ := hcut
                          cases kq with
                          | zero => exact absurd HA.out (by simp [laws_FnBlends.j3])
                          | succ kj44 =>
                            have H := HA.out
                            clear HA
                            simp only [laws_FnBlends.j3] at H
                            by_cases c51 : x150_44 = true
                            · subst c51
                              have H1 : (some false) = some r := by rw [if_pos rfl] at H; exact H
                              clear H
                              have H := H1
                              clear H1
                              exact absurd ((Option.some.inj H).trans HR_.out) (by decide)
                            · replace c51 := Bool.eq_false_iff.mpr c51
                              subst c51
                              have H1 : (if 0 ≤ (t322.length : Int) then (if ((t322.length : Int) : Int).toNat ≤ 35184372088832 then ((some (List.replicate ((t322.length : Int) : Int).toNat 0 : List Int)).bind fun y346 => (if 0 ≤ t342 then (if t342 < (y346.length : Int) then (if 0 ≤ t343 then (if t343 < (y346.length : Int) then ((some ((y346.set (t342 : Int).toNat t344).set (t343 : Int).toNat (wrap64 ((wrap64 (1 + (Int.tmod t340 20))) - t344)) : List Int)).bind fun y350 => ((impl_StrengthOf.f kj44 t322 y350).bind fun t351 => (if t351 < (wrap64 (100 + t341)) then (some false) else ((some (List.replicate ((t322.length : Int) : Int).toNat 0 : List Int)).bind fun y352 => ((laws_at.f l0 7).bind fun t355 => (if (wrap64 ((wrap64 (1 + (Int.tmod t340 20))) + 1)) = 0 then (none) else (if t342 < (y352.length : Int) then (if t343 < (y352.length : Int) then ((some ((y352.set (t342 : Int).toNat (Int.tmod t355 (wrap64 ((wrap64 (1 + (Int.tmod t340 20))) + 1)))).set (t343 : Int).toNat (wrap64 ((wrap64 (1 + (Int.tmod t340 20))) - (Int.tmod t355 (wrap64 ((wrap64 (1 + (Int.tmod t340 20))) + 1))))) : List Int)).bind fun y357 => ((impl_StrengthOf.f kj44 t322 y357).bind fun t358 => (if t358 ≥ (wrap64 (100 + t341)) then ((impl_BlendCost.f kj44 t322 y357).bind fun t359 => ((impl_BlendCost.f kj44 t322 y350).bind fun t360 => (laws_FnBlends.j4 kj44 t322 (decide (t359 < t360))))) else (laws_FnBlends.j4 kj44 t322 false)))) else (none)) else (none)))))))) else (none)) else (none)) else (none)) else (none))) else (none)) else (none)) = some r := by rw [if_neg (show ¬ (false = true) by decide)] at H; exact H
                              clear H
                              have H := H1
                              clear H1
                              by_cases c52 : 0 ≤ (t322.length : Int)
                              · rw [if_pos c52] at H
                                have c52b0 := eq_true c52
                                have c52b1 : decide (0 ≤ (t322.length : Int)) = true := decide_eq_true c52
                                clear c52
                                by_cases c53 : ((t322.length : Int) : Int).toNat ≤ 35184372088832
                                · rw [if_pos c53] at H
                                  have c53b0 := eq_true c53
                                  have c53b1 : decide (((t322.length : Int) : Int).toNat ≤ 35184372088832) = true := decide_eq_true c53
                                  clear c53
                                  obtain ⟨y346, hy346⟩ : ∃ y_ : List Int, y_ = (List.replicate ((t322.length : Int) : Int).toNat 0) := ⟨_, rfl⟩
                                  replace H : (if 0 ≤ t342 then (if t342 < (y346.length : Int) then (if 0 ≤ t343 then (if t343 < (y346.length : Int) then ((some ((y346.set (t342 : Int).toNat t344).set (t343 : Int).toNat (wrap64 ((wrap64 (1 + (Int.tmod t340 20))) - t344)) : List Int)).bind fun y350 => ((impl_StrengthOf.f kj44 t322 y350).bind fun t351 => (if t351 < (wrap64 (100 + t341)) then (some false) else ((some (List.replicate ((t322.length : Int) : Int).toNat 0 : List Int)).bind fun y352 => ((laws_at.f l0 7).bind fun t355 => (if (wrap64 ((wrap64 (1 + (Int.tmod t340 20))) + 1)) = 0 then (none) else (if t342 < (y352.length : Int) then (if t343 < (y352.length : Int) then ((some ((y352.set (t342 : Int).toNat (Int.tmod t355 (wrap64 ((wrap64 (1 + (Int.tmod t340 20))) + 1)))).set (t343 : Int).toNat (wrap64 ((wrap64 (1 + (Int.tmod t340 20))) - (Int.tmod t355 (wrap64 ((wrap64 (1 + (Int.tmod t340 20))) + 1))))) : List Int)).bind fun y357 => ((impl_StrengthOf.f kj44 t322 y357).bind fun t358 => (if t358 ≥ (wrap64 (100 + t341)) then ((impl_BlendCost.f kj44 t322 y357).bind fun t359 => ((impl_BlendCost.f kj44 t322 y350).bind fun t360 => (laws_FnBlends.j4 kj44 t322 (decide (t359 < t360))))) else (laws_FnBlends.j4 kj44 t322 false)))) else (none)) else (none)))))))) else (none)) else (none)) else (none)) else (none)) = some r := by first | (rw [hy346]; with_reducible exact H) | (have H2_ := (Option.bind_some _ _).symm.trans H; rw [hy346]; with_reducible exact H2_) | (have H2_ := (Option.bind_some _ _).symm.trans H; with_reducible exact H2_) | with_reducible exact H | (rw [hy346]; exact H) | exact H
                                  have Ny346 := Aside0.mk hy346
                                  clear hy346
                                  by_cases c54 : 0 ≤ t342
                                  · rw [if_pos c54] at H
                                    have c54b0 : decide (0 ≤ t342) = true := decide_eq_true c54
                                    clear c54
                                    by_cases c55 : t342 < (y346.length : Int)
                                    · rw [if_pos c55] at H
                                      have c55b0 : decide (t342 < (y346.length : Int)) = true := decide_eq_true c55
                                      clear c55
                                      obtain ⟨y349, hy349⟩ : ∃ y_ : List Int, y_ = (y346.set (t342 : Int).toNat t344) := ⟨_, rfl⟩
                                      replace H : (if 0 ≤ t343 then (if t343 < (y346.length : Int) then ((some (y349.set (t343 : Int).toNat (wrap64 ((wrap64 (1 + (Int.tmod t340 20))) - t344)) : List Int)).bind fun y350 => ((impl_StrengthOf.f kj44 t322 y350).bind fun t351 => (if t351 < (wrap64 (100 + t341)) then (some false) else ((some (List.replicate ((t322.length : Int) : Int).toNat 0 : List Int)).bind fun y352 => ((laws_at.f l0 7).bind fun t355 => (if (wrap64 ((wrap64 (1 + (Int.tmod t340 20))) + 1)) = 0 then (none) else (if t342 < (y352.length : Int) then (if t343 < (y352.length : Int) then ((some ((y352.set (t342 : Int).toNat (Int.tmod t355 (wrap64 ((wrap64 (1 + (Int.tmod t340 20))) + 1)))).set (t343 : Int).toNat (wrap64 ((wrap64 (1 + (Int.tmod t340 20))) - (Int.tmod t355 (wrap64 ((wrap64 (1 + (Int.tmod t340 20))) + 1))))) : List Int)).bind fun y357 => ((impl_StrengthOf.f kj44 t322 y357).bind fun t358 => (if t358 ≥ (wrap64 (100 + t341)) then ((impl_BlendCost.f kj44 t322 y357).bind fun t359 => ((impl_BlendCost.f kj44 t322 y350).bind fun t360 => (laws_FnBlends.j4 kj44 t322 (decide (t359 < t360))))) else (laws_FnBlends.j4 kj44 t322 false)))) else (none)) else (none)))))))) else (none)) else (none)) = some r := by first | (rw [hy349]; with_reducible exact H) | (have H2_ := (Option.bind_some _ _).symm.trans H; rw [hy349]; with_reducible exact H2_) | (have H2_ := (Option.bind_some _ _).symm.trans H; with_reducible exact H2_) | with_reducible exact H | (rw [hy349]; exact H) | exact H
                                      have Ny349 := Aside0.mk hy349
                                      clear hy349
                                      by_cases c57 : 0 ≤ t343
                                      · rw [if_pos c57] at H
                                        have c57b0 : decide (0 ≤ t343) = true := decide_eq_true c57
                                        clear c57
                                        by_cases c58 : t343 < (y346.length : Int)
                                        · rw [if_pos c58] at H
                                          have c58b0 : decide (t343 < (y346.length : Int)) = true := decide_eq_true c58
                                          clear c58
                                          obtain ⟨y350, hy350⟩ : ∃ y_ : List Int, y_ = (y349.set (t343 : Int).toNat (wrap64 ((wrap64 (1 + (Int.tmod t340 20))) - t344))) := ⟨_, rfl⟩
                                          replace H : ((impl_StrengthOf.f kj44 t322 y350).bind fun t351 => (if t351 < (wrap64 (100 + t341)) then (some false) else ((some (List.replicate ((t322.length : Int) : Int).toNat 0 : List Int)).bind fun y352 => ((laws_at.f l0 7).bind fun t355 => (if (wrap64 ((wrap64 (1 + (Int.tmod t340 20))) + 1)) = 0 then (none) else (if t342 < (y352.length : Int) then (if t343 < (y352.length : Int) then ((some ((y352.set (t342 : Int).toNat (Int.tmod t355 (wrap64 ((wrap64 (1 + (Int.tmod t340 20))) + 1)))).set (t343 : Int).toNat (wrap64 ((wrap64 (1 + (Int.tmod t340 20))) - (Int.tmod t355 (wrap64 ((wrap64 (1 + (Int.tmod t340 20))) + 1))))) : List Int)).bind fun y357 => ((impl_StrengthOf.f kj44 t322 y357).bind fun t358 => (if t358 ≥ (wrap64 (100 + t341)) then ((impl_BlendCost.f kj44 t322 y357).bind fun t359 => ((impl_BlendCost.f kj44 t322 y350).bind fun t360 => (laws_FnBlends.j4 kj44 t322 (decide (t359 < t360))))) else (laws_FnBlends.j4 kj44 t322 false)))) else (none)) else (none))))))) = some r := by first | (rw [hy350]; with_reducible exact H) | (have H2_ := (Option.bind_some _ _).symm.trans H; rw [hy350]; with_reducible exact H2_) | (have H2_ := (Option.bind_some _ _).symm.trans H; with_reducible exact H2_) | with_reducible exact H | (rw [hy350]; exact H) | exact H
                                          have Ny350 := Aside0.mk hy350
                                          clear hy350
                                          replace H := Option.bind_eq_some_iff.mp H
                                          obtain ⟨t351, A600, H⟩ := H
                                          replace H : (if t351 < (wrap64 (100 + t341)) then (some false) else ((some (List.replicate ((t322.length : Int) : Int).toNat 0 : List Int)).bind fun y352 => ((laws_at.f l0 7).bind fun t355 => (if (wrap64 ((wrap64 (1 + (Int.tmod t340 20))) + 1)) = 0 then (none) else (if t342 < (y352.length : Int) then (if t343 < (y352.length : Int) then ((some ((y352.set (t342 : Int).toNat (Int.tmod t355 (wrap64 ((wrap64 (1 + (Int.tmod t340 20))) + 1)))).set (t343 : Int).toNat (wrap64 ((wrap64 (1 + (Int.tmod t340 20))) - (Int.tmod t355 (wrap64 ((wrap64 (1 + (Int.tmod t340 20))) + 1))))) : List Int)).bind fun y357 => ((impl_StrengthOf.f kj44 t322 y357).bind fun t358 => (if t358 ≥ (wrap64 (100 + t341)) then ((impl_BlendCost.f kj44 t322 y357).bind fun t359 => ((impl_BlendCost.f kj44 t322 y350).bind fun t360 => (laws_FnBlends.j4 kj44 t322 (decide (t359 < t360))))) else (laws_FnBlends.j4 kj44 t322 false)))) else (none)) else (none)))))) = some r := H
                                          have A60 := Aside0.mk A600
                                          clear A600
                                          by_cases c61 : t351 < (wrap64 (100 + t341))
                                          · rw [if_pos c61] at H
                                            have c61b0 : decide (t351 < (wrap64 (100 + t341))) = true := decide_eq_true c61
                                            clear c61
                                            exact absurd ((Option.some.inj H).trans HR_.out) (by decide)
                                          · rw [if_neg c61] at H
                                            have c61b0 : decide (t351 < (wrap64 (100 + t341))) = false := decide_eq_false c61
                                            clear c61
                                            obtain ⟨y352, hy352⟩ : ∃ y_ : List Int, y_ = (List.replicate ((t322.length : Int) : Int).toNat 0) := ⟨_, rfl⟩
                                            replace H : ((laws_at.f l0 7).bind fun t355 => (if (wrap64 ((wrap64 (1 + (Int.tmod t340 20))) + 1)) = 0 then (none) else (if t342 < (y352.length : Int) then (if t343 < (y352.length : Int) then ((some ((y352.set (t342 : Int).toNat (Int.tmod t355 (wrap64 ((wrap64 (1 + (Int.tmod t340 20))) + 1)))).set (t343 : Int).toNat (wrap64 ((wrap64 (1 + (Int.tmod t340 20))) - (Int.tmod t355 (wrap64 ((wrap64 (1 + (Int.tmod t340 20))) + 1))))) : List Int)).bind fun y357 => ((impl_StrengthOf.f kj44 t322 y357).bind fun t358 => (if t358 ≥ (wrap64 (100 + t341)) then ((impl_BlendCost.f kj44 t322 y357).bind fun t359 => ((impl_BlendCost.f kj44 t322 y350).bind fun t360 => (laws_FnBlends.j4 kj44 t322 (decide (t359 < t360))))) else (laws_FnBlends.j4 kj44 t322 false)))) else (none)) else (none)))) = some r := by first | (rw [hy352]; with_reducible exact H) | (have H2_ := (Option.bind_some _ _).symm.trans H; rw [hy352]; with_reducible exact H2_) | (have H2_ := (Option.bind_some _ _).symm.trans H; with_reducible exact H2_) | with_reducible exact H | (rw [hy352]; exact H) | exact H
                                            have Ny352 := Aside0.mk hy352
                                            clear hy352
                                            replace H := Option.bind_eq_some_iff.mp H
                                            obtain ⟨t355, A620, H⟩ := H
                                            replace H : (if (wrap64 ((wrap64 (1 + (Int.tmod t340 20))) + 1)) = 0 then (none) else (if t342 < (y352.length : Int) then (if t343 < (y352.length : Int) then ((some ((y352.set (t342 : Int).toNat (Int.tmod t355 (wrap64 ((wrap64 (1 + (Int.tmod t340 20))) + 1)))).set (t343 : Int).toNat (wrap64 ((wrap64 (1 + (Int.tmod t340 20))) - (Int.tmod t355 (wrap64 ((wrap64 (1 + (Int.tmod t340 20))) + 1))))) : List Int)).bind fun y357 => ((impl_StrengthOf.f kj44 t322 y357).bind fun t358 => (if t358 ≥ (wrap64 (100 + t341)) then ((impl_BlendCost.f kj44 t322 y357).bind fun t359 => ((impl_BlendCost.f kj44 t322 y350).bind fun t360 => (laws_FnBlends.j4 kj44 t322 (decide (t359 < t360))))) else (laws_FnBlends.j4 kj44 t322 false)))) else (none)) else (none))) = some r := H
                                            have A62 := Aside0.mk A620
                                            clear A620
                                            by_cases c63 : (wrap64 ((wrap64 (1 + (Int.tmod t340 20))) + 1)) = 0
                                            · rw [if_pos c63] at H
                                              exact absurd H (by simp)
                                            · rw [if_neg c63] at H
                                              have c63b0 : ((wrap64 ((wrap64 (1 + (Int.tmod t340 20))) + 1)) == 0) = false := beq_eq_false_iff_ne.mpr c63
                                              have c63b1 : ((wrap64 ((wrap64 (1 + (Int.tmod t340 20))) + 1)) != 0) = true := bne_iff_ne.mpr c63
                                              by_cases c64 : t342 < (y352.length : Int)
                                              · rw [if_pos c64] at H
                                                have c64b0 : decide (t342 < (y352.length : Int)) = true := decide_eq_true c64
                                                clear c64
                                                obtain ⟨y356, hy356⟩ : ∃ y_ : List Int, y_ = (y352.set (t342 : Int).toNat (Int.tmod t355 (wrap64 ((wrap64 (1 + (Int.tmod t340 20))) + 1)))) := ⟨_, rfl⟩
                                                replace H : (if t343 < (y352.length : Int) then ((some (y356.set (t343 : Int).toNat (wrap64 ((wrap64 (1 + (Int.tmod t340 20))) - (Int.tmod t355 (wrap64 ((wrap64 (1 + (Int.tmod t340 20))) + 1))))) : List Int)).bind fun y357 => ((impl_StrengthOf.f kj44 t322 y357).bind fun t358 => (if t358 ≥ (wrap64 (100 + t341)) then ((impl_BlendCost.f kj44 t322 y357).bind fun t359 => ((impl_BlendCost.f kj44 t322 y350).bind fun t360 => (laws_FnBlends.j4 kj44 t322 (decide (t359 < t360))))) else (laws_FnBlends.j4 kj44 t322 false)))) else (none)) = some r := by first | (rw [hy356]; with_reducible exact H) | (have H2_ := (Option.bind_some _ _).symm.trans H; rw [hy356]; with_reducible exact H2_) | (have H2_ := (Option.bind_some _ _).symm.trans H; with_reducible exact H2_) | with_reducible exact H | (rw [hy356]; exact H) | exact H
                                                have Ny356 := Aside0.mk hy356
                                                clear hy356
                                                by_cases c66 : t343 < (y352.length : Int)
                                                · rw [if_pos c66] at H
                                                  have c66b0 : decide (t343 < (y352.length : Int)) = true := decide_eq_true c66
                                                  clear c66
                                                  obtain ⟨y357, hy357⟩ : ∃ y_ : List Int, y_ = (y356.set (t343 : Int).toNat (wrap64 ((wrap64 (1 + (Int.tmod t340 20))) - (Int.tmod t355 (wrap64 ((wrap64 (1 + (Int.tmod t340 20))) + 1)))))) := ⟨_, rfl⟩
                                                  replace H : ((impl_StrengthOf.f kj44 t322 y357).bind fun t358 => (if t358 ≥ (wrap64 (100 + t341)) then ((impl_BlendCost.f kj44 t322 y357).bind fun t359 => ((impl_BlendCost.f kj44 t322 y350).bind fun t360 => (laws_FnBlends.j4 kj44 t322 (decide (t359 < t360))))) else (laws_FnBlends.j4 kj44 t322 false))) = some r := by first | (rw [hy357]; with_reducible exact H) | (have H2_ := (Option.bind_some _ _).symm.trans H; rw [hy357]; with_reducible exact H2_) | (have H2_ := (Option.bind_some _ _).symm.trans H; with_reducible exact H2_) | with_reducible exact H | (rw [hy357]; exact H) | exact H
                                                  have Ny357 := Aside0.mk hy357
                                                  clear hy357
                                                  have HC68 := Aside0.mk H
                                                  clear H
                                                  go_upto_region 39 with (first | ((with_reducible refine gate_dst (N := 153) rfl ?_); (try (refine gate_guard (by rfl) ?_; dsimp only)); refine Kd.R_make (Kd.int .i64) _ 3 rfl (N := 153) rfl 29 _ _ rfl (t322.length : Int) rfl rfl Try.underlying29 (.int .i64 0) 8 info3 rfl (by decide) (by omega) 0 (ok := fun _ => True) (okp := fun _ => True) rfl (fun _ hk => hk) trivial (of_decide_eq_true (by first | (with_reducible assumption) | assumption)) (Nat.le_trans (Nat.mul_le_mul_right _ (of_decide_eq_true (by first | (with_reducible assumption) | assumption) : (t322.length : Int).toNat ≤ 35184372088832)) (by omega)) (Below.refl _ _) (Nat.le_refl _) ?_; intro v347 w69 ho70 hb hg_ hnew_; clear hg_ hnew_; (first | rw [← Ny346.out] at ho70 | (simp only [Int.reduceToNat] at ho70; rw [← Ny346.out] at ho70)); have n0_ := Aside0.mk (Kd.R_below (by (with_reducible repeat (first | apply Kd.R_alloc | apply Kd.R_drewN | apply Kd.R_drew)); exact HO_3.out) hb); have n1_ := Aside0.mk (Kd.R_lower ho70 (below_size (by repeat (first | (with_reducible first | exact HB.out | apply below_alloc | apply pw_below_drewN | apply below_drew1) | exact HB.out)))); have n2_ := Aside0.mk (below_step (by repeat (first | (with_reducible first | exact HB.out | apply below_alloc | apply pw_below_drewN | apply below_drew1) | exact HB.out)) hb); clear HO_3; clear HB; have HO_3 := n0_; have HO348 := n1_; have HB := n2_; clear n0_ n1_ n2_; clear hb ho70; have p56 : 0 ≤ (t342 : Int) := of_decide_eq_true (by first | (with_reducible assumption) | assumption); have q56 : (t342 : Int) < ((y346.length : Int) : Int) := of_decide_eq_true (by first | (with_reducible assumption) | assumption); obtain ⟨go56, co56, eo56, gb56, gl56, cl56, HG56⟩ := Kd.R_form HO348.out (by omega); (first | cases eo56 | (injection eo56 with ea_ en_ ec_; (first | subst ea_ | (injection ea_ with ea_; subst ea_)); subst ec_; clear en_)); have GB56 := Aside0.mk gb56; have GG56 := Aside0.mk HG56; clear gb56 gl56 HG56; obtain ⟨hx56_0, hf56_0⟩ := Kd.R_celln 0 HO348.out (t342 : Int) p56 q56; replace p56 := eq_true p56; replace q56 := eq_true q56; obtain ⟨hy71_, hz71_⟩ := Kd.R_celln 0 HO348.out (t342 : Int) (of_decide_eq_true (by first | (with_reducible assumption) | assumption)) (of_decide_eq_true (by first | (with_reducible assumption) | assumption)); have HP71 := Kd.R_putg HO348.out (t342 : Int) t344) | ((with_reducible refine gate_store (t := 3) (p := 157) rfl ?_); refine store_event (t := 3) (p := 157) (v := ?vo_w72) (w1 := (w69.setCell ⟨go56, (t342 : Int).toNat, none⟩ (.int .i64 t344))) ?hg ?ho ?hn ?hr ?_; (case ho => rfl); (case hg => rfl); (case hn => rfl); (case hr => first | (go_simp; done) | (go_simp; rfl)); intro w72 hw; have hg : w69.grownBy w72 (some go56) := (by rw [hw]; exact HP71.2); have hp_ : Kd.R (Kd.int .i64) 3 w72 w.heap.size (fun _ => True) (.slice (some ⟨go56, 0, none⟩) y346.length co56) y349 := (by rw [hw, Ny349.out]; exact HP71.1); clear HP71; have n0_ := Aside0.mk (Kd.R_over' (v := (.slice (some ⟨go56, 0, none⟩) y346.length co56)) (by (with_reducible repeat (first | apply Kd.R_alloc | apply Kd.R_drewN | apply Kd.R_drew)); exact HO_3.out) (Kd.R_typed HO348.out) (by decide) hg); have n1_ := Aside0.mk (hp_); have n2_ := Aside0.mk ((by rw [hw]; exact below_set (HB.out) GB56.out : Below w.heap.size w w72)); clear HO_3; clear HO348; clear HB; have HO_3 := n0_; have HO348 := n1_; have HB := n2_; clear n0_ n1_ n2_; clear hg hw hp_; have p59 : 0 ≤ (t343 : Int) := of_decide_eq_true (by first | (with_reducible assumption) | assumption); have q59 : (t343 : Int) < ((y346.length : Int) : Int) := of_decide_eq_true (by first | (with_reducible assumption) | assumption); obtain ⟨hx59_0, hf59_0⟩ := Kd.R_celln 0 HO348.out (t343 : Int) p59 q59; replace p59 := eq_true p59; replace q59 := eq_true q59; obtain ⟨hy73_, hz73_⟩ := Kd.R_celln 0 HO348.out (t343 : Int) (of_decide_eq_true (by first | (with_reducible assumption) | assumption)) (of_decide_eq_true (by first | (with_reducible assumption) | assumption)); have HP73 := Kd.R_putg HO348.out (t343 : Int) (wrap64 ((wrap64 (1 + (Int.tmod t340 20))) - t344))) | ((with_reducible refine gate_store (t := 3) (p := 163) rfl ?_); refine store_event (t := 3) (p := 163) (v := ?vo_w74) (w1 := (w72.setCell ⟨go56, (t343 : Int).toNat, none⟩ (.int .i64 (wrap64 ((wrap64 (1 + (Int.tmod t340 20))) - t344))))) ?hg ?ho ?hn ?hr ?_; (case ho => rfl); (case hg => rfl); (case hn => rfl); (case hr => first | (go_simp; done) | (go_simp; rfl)); intro w74 hw; have hg : w72.grownBy w74 (some go56) := (by rw [hw]; exact HP73.2); have hp_ : Kd.R (Kd.int .i64) 3 w74 w.heap.size (fun _ => True) (.slice (some ⟨go56, 0, none⟩) y346.length co56) y350 := (by rw [hw, Ny350.out]; exact HP73.1); clear HP73; have n0_ := Aside0.mk (Kd.R_over' (v := (.slice (some ⟨go56, 0, none⟩) y346.length co56)) (by (with_reducible repeat (first | apply Kd.R_alloc | apply Kd.R_drewN | apply Kd.R_drew)); exact HO_3.out) (Kd.R_typed HO348.out) (by decide) hg); have n1_ := Aside0.mk (hp_); have n2_ := Aside0.mk ((by rw [hw]; exact below_set (HB.out) GB56.out : Below w.heap.size w w74)); clear HO_3; clear HO348; clear HB; have HO_3 := n0_; have HO348 := n1_; have HB := n2_; clear n0_ n1_ n2_; clear hg hw hp_) | ((with_reducible refine gate_callee (f := 19) rfl ?_); refine goesL_ (some 166) rfl rfl Try.func19 (by kernel_rfl) rfl #[.slice Ao24 t322.length co24, .slice (some ⟨go56, 0, none⟩) y350.length co56] rfl (by (try simp only [List.map_toArray, List.map_cons, List.map_nil]); first | done | (rw [show y350.length = y346.length from (Kd.R_reads' HO348.out).1.symm] <;> rfl) | rfl | (simp only [List.length_drop, List.length_take]; rfl)) ?_; (with_reducible refine (impl_StrengthOf.calls kj44 _ _ t322 _ _ y350 t351 _ ?side1 ?side2 ?side3 ?side4 A60.out).mono ?_); (case side1 => repeat (first | exact (Kd.R_reads' HO_3.out).2.2 | (with_reducible refine Kd.C_alloc ?_ _) | (with_reducible refine Kd.C_drewN ?_ _) | (with_reducible refine Kd.C_drew ?_))); (case side2 => exact (Kd.R_reads' HO_3.out).2.1); (case side3 => repeat (first | exact (Kd.R_reads' HO348.out).2.2 | (with_reducible refine Kd.C_alloc ?_ _) | (with_reducible refine Kd.C_drewN ?_ _) | (with_reducible refine Kd.C_drew ?_))); (case side4 => rw [show y350.length = y346.length from (Kd.R_reads' HO348.out).1.symm]; exact (Kd.R_reads' HO348.out).2.1); rintro e w75 ⟨rfl, hb⟩; refine ⟨_, rfl, ?_⟩; have n0_ := Aside0.mk (Kd.R_below (by (with_reducible repeat (first | apply Kd.R_alloc | apply Kd.R_drewN | apply Kd.R_drew)); exact HO_3.out) hb); have n1_ := Aside0.mk (Kd.R_below (by (with_reducible repeat (first | apply Kd.R_alloc | apply Kd.R_drewN | apply Kd.R_drew)); exact HO348.out) hb); have n2_ := Aside0.mk (below_step (by repeat (first | (with_reducible first | exact HB.out | apply below_alloc | apply pw_below_drewN | apply below_drew1) | exact HB.out)) hb); clear HO_3; clear HO348; clear HB; have HO_3 := n0_; have HO348 := n1_; have HB := n2_; clear n0_ n1_ n2_; (try clear hb); (try clear hb2); (try clear hk); (try clear hi)) | ((with_reducible refine gate_dst (N := 171) rfl ?_); (try (refine gate_guard (by rfl) ?_; dsimp only)); refine Kd.R_make (Kd.int .i64) _ 3 rfl (N := 171) rfl 29 _ _ rfl (t322.length : Int) rfl rfl Try.underlying29 (.int .i64 0) 8 info3 rfl (by decide) (by omega) 0 (ok := fun _ => True) (okp := fun _ => True) rfl (fun _ hk => hk) trivial (of_decide_eq_true (by first | (with_reducible assumption) | assumption)) (Nat.le_trans (Nat.mul_le_mul_right _ (of_decide_eq_true (by first | (with_reducible assumption) | assumption) : (t322.length : Int).toNat ≤ 35184372088832)) (by omega)) (Below.refl _ _) (Nat.le_refl _) ?_; intro v353 w76 ho77 hb hg_ hnew_; clear hg_ hnew_; (first | rw [← Ny352.out] at ho77 | (simp only [Int.reduceToNat] at ho77; rw [← Ny352.out] at ho77)); have n0_ := Aside0.mk (Kd.R_below (by (with_reducible repeat (first | apply Kd.R_alloc | apply Kd.R_drewN | apply Kd.R_drew)); exact HO_3.out) hb); have n1_ := Aside0.mk (Kd.R_elder' (by (with_reducible repeat (first | apply Kd.R_alloc | apply Kd.R_drewN | apply Kd.R_drew)); exact HO348.out) (Kd.R_base ho77) hb); have n2_ := Aside0.mk (Kd.R_lower (Kd.R_new' ho77 (Kd.R_lt (by (with_reducible repeat (first | apply Kd.R_alloc | apply Kd.R_drewN | apply Kd.R_drew)); exact HO348.out))) (below_size (by repeat (first | (with_reducible first | exact HB.out | apply below_alloc | apply pw_below_drewN | apply below_drew1) | exact HB.out)))); have n3_ := Aside0.mk (below_step (by repeat (first | (with_reducible first | exact HB.out | apply below_alloc | apply pw_below_drewN | apply below_drew1) | exact HB.out)) hb); clear HO_3; clear HO348; clear HB; have HO_3 := n0_; have HO348 := n1_; have HO354 := n2_; have HB := n3_; clear n0_ n1_ n2_ n3_; clear hb ho77) | ((with_reducible refine gate_callee (f := 24) rfl ?_); refine goesL_ (some 173) rfl rfl Try.func24 (by kernel_rfl) rfl #[.slice A0 l0.length c0, .int .i64 7] rfl (by (try simp only [List.map_toArray, List.map_cons, List.map_nil]); first | done | rfl | (simp only [List.length_drop, List.length_take]; rfl)) ?_; (with_reducible refine (laws_at.calls _ _ l0 7 t355 _ ?side1 ?side2 A62.out).mono ?_); (case side1 => repeat (first | exact (Kd.C_below HR0.out HB.out) | (with_reducible refine Kd.C_alloc ?_ _) | (with_reducible refine Kd.C_drewN ?_ _) | (with_reducible refine Kd.C_drew ?_))); (case side2 => exact HC0.out); rintro e w' ⟨rfl, ⟨nd, rfl⟩⟩; refine ⟨_, rfl, ?_⟩; (try (rw [drewN_self w76]; generalize hq_ : World.drewN w76 _ = w76; have n0_ : Aside0 (Kd.R (Kd.int .i64) 3 w76 w.heap.size (fun k_ => some k_ ≠ (v353 : Value).ownBlock) (.slice (some ⟨go56, 0, none⟩) y346.length co56) y350) := ⟨by rw [← hq_]; exact (by (with_reducible repeat (first | apply Kd.R_alloc | apply Kd.R_drewN | apply Kd.R_drew)); exact Kd.R_mono HO348.out (fun _ hk => hk.2))⟩; have n1_ : Aside0 (Kd.R (Kd.int .i64) 3 w76 w.heap.size (fun k_ => some k_ ≠ (.slice (some ⟨go56, 0, none⟩) y346.length co56 : Value).ownBlock) v353 y352) := ⟨by rw [← hq_]; exact (by (with_reducible repeat (first | apply Kd.R_alloc | apply Kd.R_drewN | apply Kd.R_drew)); exact Kd.R_mono HO354.out (fun _ hk => hk.2))⟩; have n2_ : Aside0 (Kd.R k42 42 w76 w.heap.size (fun _ => True) (.slice Ao24 t322.length co24) t322) := ⟨by rw [← hq_]; exact (by (with_reducible repeat (first | apply Kd.R_alloc | apply Kd.R_drewN | apply Kd.R_drew)); exact HO_3.out)⟩; have n3_ : Aside0 (Below w.heap.size w w76) := ⟨by rw [← hq_]; exact (by repeat (first | (with_reducible first | exact HB.out | apply below_alloc | apply pw_below_drewN | apply below_drew1) | exact HB.out))⟩; clear HO348 HO354 HO_3 HB hq_; have HO348 := n0_; have HO354 := n1_; have HO_3 := n2_; have HB := n3_; clear n0_ n1_ n2_ n3_)); have p65 : 0 ≤ (t342 : Int) := of_decide_eq_true (by first | (with_reducible assumption) | assumption); have q65 : (t342 : Int) < ((y352.length : Int) : Int) := of_decide_eq_true (by first | (with_reducible assumption) | assumption); obtain ⟨go65, co65, eo65, gb65, gl65, cl65, HG65⟩ := Kd.R_form HO354.out (by omega); (first | cases eo65 | (injection eo65 with ea_ en_ ec_; (first | subst ea_ | (injection ea_ with ea_; subst ea_)); subst ec_; clear en_)); have GB65 := Aside0.mk gb65; have GG65 := Aside0.mk HG65; clear gb65 gl65 HG65; obtain ⟨hx65_0, hf65_0⟩ := Kd.R_celln 0 HO354.out (t342 : Int) p65 q65; replace p65 := eq_true p65; replace q65 := eq_true q65; have n_ := Aside0.mk (Kd.R_mono (ok' := (fun k_ => some k_ ≠ (.slice (some ⟨go56, 0, none⟩) y346.length co56 : Value).ownBlock)) HO354.out (fun k_ hk => (by first | exact hk | exact hk.2))); clear HO354; have HO354 := n_; clear n_; obtain ⟨hy78_, hz78_⟩ := Kd.R_celln 0 HO354.out (t342 : Int) (of_decide_eq_true (by first | (with_reducible assumption) | assumption)) (of_decide_eq_true (by first | (with_reducible assumption) | assumption)); have HP78 := Kd.R_putg HO354.out (t342 : Int) (Int.tmod t355 (wrap64 ((wrap64 (1 + (Int.tmod t340 20))) + 1)))) | ((with_reducible refine gate_store (t := 3) (p := 180) rfl ?_); refine store_event (t := 3) (p := 180) (v := ?vo_w79) (w1 := (w76.setCell ⟨go65, (t342 : Int).toNat, none⟩ (.int .i64 (Int.tmod t355 (wrap64 ((wrap64 (1 + (Int.tmod t340 20))) + 1)))))) ?hg ?ho ?hn ?hr ?_; (case ho => rfl); (case hg => rfl); (case hn => rfl); (case hr => first | (go_simp; done) | (go_simp; rfl)); intro w79 hw; have hg : w76.grownBy w79 (some go65) := (by rw [hw]; exact HP78.2); have hp_ : Kd.R (Kd.int .i64) 3 w79 w.heap.size (fun k_ => some k_ ≠ (.slice (some ⟨go56, 0, none⟩) y346.length co56 : Value).ownBlock) (.slice (some ⟨go65, 0, none⟩) y352.length co65) y356 := (by rw [hw, Ny356.out]; exact HP78.1); clear HP78; have n0_ := Aside0.mk (Kd.R_over' (v := (.slice (some ⟨go65, 0, none⟩) y352.length co65)) (by (with_reducible repeat (first | apply Kd.R_alloc | apply Kd.R_drewN | apply Kd.R_drew)); exact HO_3.out) (Kd.R_typed HO354.out) (by decide) hg); have n1_ := Aside0.mk (Kd.R_after (v := (.slice (some ⟨go65, 0, none⟩) y352.length co65)) (v1 := (.slice (some ⟨go65, 0, none⟩) y352.length co65)) (ok := (fun _ => True)) (by (with_reducible repeat (first | apply Kd.R_alloc | apply Kd.R_drewN | apply Kd.R_drew)); first | exact HO348.out | exact Kd.R_mono HO348.out (fun _ hk => ⟨trivial, hk⟩)) hg (.inl rfl)); have n2_ := Aside0.mk (hp_); have n3_ := Aside0.mk ((by rw [hw]; exact below_set (HB.out) GB65.out : Below w.heap.size w w79)); clear HO_3; clear HO348; clear HO354; clear HB; have HO_3 := n0_; have HO348 := n1_; have HO354 := n2_; have HB := n3_; clear n0_ n1_ n2_ n3_; clear hg hw hp_; have p67 : 0 ≤ (t343 : Int) := of_decide_eq_true (by first | (with_reducible assumption) | assumption); have q67 : (t343 : Int) < ((y352.length : Int) : Int) := of_decide_eq_true (by first | (with_reducible assumption) | assumption); obtain ⟨hx67_0, hf67_0⟩ := Kd.R_celln 0 HO354.out (t343 : Int) p67 q67; replace p67 := eq_true p67; replace q67 := eq_true q67; obtain ⟨hy80_, hz80_⟩ := Kd.R_celln 0 HO354.out (t343 : Int) (of_decide_eq_true (by first | (with_reducible assumption) | assumption)) (of_decide_eq_true (by first | (with_reducible assumption) | assumption)); have HP80 := Kd.R_putg HO354.out (t343 : Int) (wrap64 ((wrap64 (1 + (Int.tmod t340 20))) - (Int.tmod t355 (wrap64 ((wrap64 (1 + (Int.tmod t340 20))) + 1)))))) | ((with_reducible refine gate_store (t := 3) (p := 186) rfl ?_); refine store_event (t := 3) (p := 186) (v := ?vo_w81) (w1 := (w79.setCell ⟨go65, (t343 : Int).toNat, none⟩ (.int .i64 (wrap64 ((wrap64 (1 + (Int.tmod t340 20))) - (Int.tmod t355 (wrap64 ((wrap64 (1 + (Int.tmod t340 20))) + 1)))))))) ?hg ?ho ?hn ?hr ?_; (case ho => rfl); (case hg => rfl); (case hn => rfl); (case hr => first | (go_simp; done) | (go_simp; rfl)); intro w81 hw; have hg : w79.grownBy w81 (some go65) := (by rw [hw]; exact HP80.2); have hp_ : Kd.R (Kd.int .i64) 3 w81 w.heap.size (fun k_ => some k_ ≠ (.slice (some ⟨go56, 0, none⟩) y346.length co56 : Value).ownBlock) (.slice (some ⟨go65, 0, none⟩) y352.length co65) y357 := (by rw [hw, Ny357.out]; exact HP80.1); clear HP80; have n0_ := Aside0.mk (Kd.R_over' (v := (.slice (some ⟨go65, 0, none⟩) y352.length co65)) (by (with_reducible repeat (first | apply Kd.R_alloc | apply Kd.R_drewN | apply Kd.R_drew)); exact HO_3.out) (Kd.R_typed HO354.out) (by decide) hg); have n1_ := Aside0.mk (Kd.R_after (v := (.slice (some ⟨go65, 0, none⟩) y352.length co65)) (v1 := (.slice (some ⟨go65, 0, none⟩) y352.length co65)) (ok := (fun _ => True)) (by (with_reducible repeat (first | apply Kd.R_alloc | apply Kd.R_drewN | apply Kd.R_drew)); first | exact HO348.out | exact Kd.R_mono HO348.out (fun _ hk => ⟨trivial, hk⟩)) hg (.inl rfl)); have n2_ := Aside0.mk (hp_); have n3_ := Aside0.mk ((by rw [hw]; exact below_set (HB.out) GB65.out : Below w.heap.size w w81)); clear HO_3; clear HO348; clear HO354; clear HB; have HO_3 := n0_; have HO348 := n1_; have HO354 := n2_; have HB := n3_; clear n0_ n1_ n2_ n3_; clear hg hw hp_))
                                                  (try simp only [Act.put, List.setIfInBounds_toArray, List.set_cons_zero, List.set_cons_succ])
                                                  go_cut [200] (fun v200 wc => ∃ (kq : Nat) (x200_67 : Bool), v200 = .bool x200_67 ∧ Aside0 (laws_FnBlends.j4 kq t322 x200_67 = some r) ∧ Aside0 (kq ≤ kj44) ∧ Aside0 (Kd.R k42 42 wc w.heap.size (fun _ => True) (.slice Ao24 t322.length co24) t322) ∧ Aside0 (Below w.heap.size w wc))
                                                  case first =>
                                                    as_aux_lemma =>
                                                      have H := HC68.out
                                                      clear HC68
                                                      replace H := Option.bind_eq_some_iff.mp H
                                                      obtain ⟨t358, A820, H⟩ := H
                                                      replace H : (if t358 ≥ (wrap64 (100 + t341)) then ((impl_BlendCost.f kj44 t322 y357).bind fun t359 => ((impl_BlendCost.f kj44 t322 y350).bind fun t360 => (laws_FnBlends.j4 kj44 t322 (decide (t359 < t360))))) else (laws_FnBlends.j4 kj44 t322 false)) = some r := H
                                                      have A82 := Aside0.mk A820
                                                      clear A820
                                                      by_cases c83 : t358 ≥ (wrap64 (100 + t341))
                                                      · rw [if_pos c83] at H
                                                        have c83b0 : decide ((wrap64 (100 + t341)) ≤ t358) = true := decide_eq_true c83
                                                        clear c83
                                                        (first | rw [c83b0] | (simp only [i64_w, i32_w]; rw [c83b0]) | skip)
                                                        replace H := Option.bind_eq_some_iff.mp H
                                                        obtain ⟨t359, A840, H⟩ := H
                                                        replace H : ((impl_BlendCost.f kj44 t322 y350).bind fun t360 => (laws_FnBlends.j4 kj44 t322 (decide (t359 < t360)))) = some r := H
                                                        have A84 := Aside0.mk A840
                                                        clear A840
                                                        replace H := Option.bind_eq_some_iff.mp H
                                                        obtain ⟨t360, A850, H⟩ := H
                                                        replace H : (laws_FnBlends.j4 kj44 t322 (decide (t359 < t360))) = some r := H
                                                        have A85 := Aside0.mk A850
                                                        clear A850
                                                        have H' := Aside0.mk H
                                                        clear H
                                                        go_wp2_with (first | ((with_reducible refine gate_callee (f := 19) rfl ?_); refine goesL_ (some 189) rfl rfl Try.func19 (by kernel_rfl) rfl #[.slice Ao24 t322.length co24, .slice (some ⟨go65, 0, none⟩) y357.length co65] rfl (by (try simp only [List.map_toArray, List.map_cons, List.map_nil]); first | done | (rw [show y357.length = y352.length from (Kd.R_reads' HO354.out).1.symm] <;> rfl) | rfl | (simp only [List.length_drop, List.length_take]; rfl)) ?_; (with_reducible refine (impl_StrengthOf.calls kj44 _ _ t322 _ _ y357 t358 _ ?side1 ?side2 ?side3 ?side4 A82.out).mono ?_); (case side1 => repeat (first | exact (Kd.R_reads' HO_3.out).2.2 | (with_reducible refine Kd.C_alloc ?_ _) | (with_reducible refine Kd.C_drewN ?_ _) | (with_reducible refine Kd.C_drew ?_))); (case side2 => exact (Kd.R_reads' HO_3.out).2.1); (case side3 => repeat (first | exact (Kd.R_reads' HO354.out).2.2 | (with_reducible refine Kd.C_alloc ?_ _) | (with_reducible refine Kd.C_drewN ?_ _) | (with_reducible refine Kd.C_drew ?_))); (case side4 => rw [show y357.length = y352.length from (Kd.R_reads' HO354.out).1.symm]; exact (Kd.R_reads' HO354.out).2.1); rintro e w86 ⟨rfl, hb⟩; refine ⟨_, rfl, ?_⟩; have n0_ := Aside0.mk (Kd.R_below (by (with_reducible repeat (first | apply Kd.R_alloc | apply Kd.R_drewN | apply Kd.R_drew)); exact HO_3.out) hb); have n1_ := Aside0.mk (Kd.R_below (by (with_reducible repeat (first | apply Kd.R_alloc | apply Kd.R_drewN | apply Kd.R_drew)); exact HO348.out) hb); have n2_ := Aside0.mk (Kd.R_below (by (with_reducible repeat (first | apply Kd.R_alloc | apply Kd.R_drewN | apply Kd.R_drew)); exact HO354.out) hb); have n3_ := Aside0.mk (below_step (by repeat (first | (with_reducible first | exact HB.out | apply below_alloc | apply pw_below_drewN | apply below_drew1) | exact HB.out)) hb); clear HO_3; clear HO348; clear HO354; clear HB; have HO_3 := n0_; have HO348 := n1_; have HO354 := n2_; have HB := n3_; clear n0_ n1_ n2_ n3_; (try clear hb); (try clear hb2); (try clear hk); (try clear hi)) | (go_at_call 16; refine calls_of_args (args' := #[.slice Ao24 t322.length co24, .slice (some ⟨go65, 0, none⟩) y357.length co65]) (by first | (rw [show y357.length = y352.length from (Kd.R_reads' HO354.out).1.symm] <;> rfl) | rfl) ?_; (with_reducible refine (impl_BlendCost.calls kj44 _ _ t322 _ _ y357 t359 _ ?side1 ?side2 ?side3 ?side4 A84.out).mono ?_); (case side1 => repeat (first | exact (Kd.R_reads' HO_3.out).2.2 | (with_reducible refine Kd.C_alloc ?_ _) | (with_reducible refine Kd.C_drewN ?_ _) | (with_reducible refine Kd.C_drew ?_))); (case side2 => exact (Kd.R_reads' HO_3.out).2.1); (case side3 => repeat (first | exact (Kd.R_reads' HO354.out).2.2 | (with_reducible refine Kd.C_alloc ?_ _) | (with_reducible refine Kd.C_drewN ?_ _) | (with_reducible refine Kd.C_drew ?_))); (case side4 => rw [show y357.length = y352.length from (Kd.R_reads' HO354.out).1.symm]; exact (Kd.R_reads' HO354.out).2.1); rintro e w87 ⟨rfl, hb⟩; have n0_ := Aside0.mk (Kd.R_below (by (with_reducible repeat (first | apply Kd.R_alloc | apply Kd.R_drewN | apply Kd.R_drew)); exact HO_3.out) hb); have n1_ := Aside0.mk (Kd.R_below (by (with_reducible repeat (first | apply Kd.R_alloc | apply Kd.R_drewN | apply Kd.R_drew)); exact HO348.out) hb); have n2_ := Aside0.mk (Kd.R_below (by (with_reducible repeat (first | apply Kd.R_alloc | apply Kd.R_drewN | apply Kd.R_drew)); exact HO354.out) hb); have n3_ := Aside0.mk (below_step (by repeat (first | (with_reducible first | exact HB.out | apply below_alloc | apply pw_below_drewN | apply below_drew1) | exact HB.out)) hb); clear HO_3; clear HO348; clear HO354; clear HB; have HO_3 := n0_; have HO348 := n1_; have HO354 := n2_; have HB := n3_; clear n0_ n1_ n2_ n3_; (try clear hb); (try clear hb2); (try clear hk); (try clear hi)) | (go_at_call 16; refine calls_of_args (args' := #[.slice Ao24 t322.length co24, .slice (some ⟨go56, 0, none⟩) y350.length co56]) (by first | (rw [show y350.length = y346.length from (Kd.R_reads' HO348.out).1.symm] <;> rfl) | rfl) ?_; (with_reducible refine (impl_BlendCost.calls kj44 _ _ t322 _ _ y350 t360 _ ?side1 ?side2 ?side3 ?side4 A85.out).mono ?_); (case side1 => repeat (first | exact (Kd.R_reads' HO_3.out).2.2 | (with_reducible refine Kd.C_alloc ?_ _) | (with_reducible refine Kd.C_drewN ?_ _) | (with_reducible refine Kd.C_drew ?_))); (case side2 => exact (Kd.R_reads' HO_3.out).2.1); (case side3 => repeat (first | exact (Kd.R_reads' HO348.out).2.2 | (with_reducible refine Kd.C_alloc ?_ _) | (with_reducible refine Kd.C_drewN ?_ _) | (with_reducible refine Kd.C_drew ?_))); (case side4 => rw [show y350.length = y346.length from (Kd.R_reads' HO348.out).1.symm]; exact (Kd.R_reads' HO348.out).2.1); rintro e w88 ⟨rfl, hb⟩; have n0_ := Aside0.mk (Kd.R_below (by (with_reducible repeat (first | apply Kd.R_alloc | apply Kd.R_drewN | apply Kd.R_drew)); exact HO_3.out) hb); have n1_ := Aside0.mk (Kd.R_below (by (with_reducible repeat (first | apply Kd.R_alloc | apply Kd.R_drewN | apply Kd.R_drew)); exact HO348.out) hb); have n2_ := Aside0.mk (Kd.R_below (by (with_reducible repeat (first | apply Kd.R_alloc | apply Kd.R_drewN | apply Kd.R_drew)); exact HO354.out) hb); have n3_ := Aside0.mk (below_step (by repeat (first | (with_reducible first | exact HB.out | apply below_alloc | apply pw_below_drewN | apply below_drew1) | exact HB.out)) hb); clear HO_3; clear HO348; clear HO354; clear HB; have HO_3 := n0_; have HO348 := n1_; have HO354 := n2_; have HB := n3_; clear n0_ n1_ n2_ n3_; (try clear hb); (try clear hb2); (try clear hk); (try clear hi)))
                                                        go_meet
                                                        case rel => exact ⟨_, (decide (t359 < t360)), (by first | rfl | (simp; done) | (simp [*]; done)), H', ⟨by have := HK1.out; have := HJ22.out; have := HJ35.out; have := HJ44.out; first | omega | exact Nat.le_refl _⟩, ⟨by (with_reducible repeat (first | apply Kd.R_alloc | apply Kd.R_drewN | apply Kd.R_drew)); exact HO_3.out⟩, ⟨by repeat (first | (with_reducible first | exact HB.out | apply below_alloc | apply pw_below_drewN | apply below_drew1) | exact HB.out)⟩⟩
                                                      · rw [if_neg c83] at H
                                                        have c83b0 : decide ((wrap64 (100 + t341)) ≤ t358) = false := decide_eq_false c83
                                                        clear c83
                                                        (first | rw [c83b0] | (simp only [i64_w, i32_w]; rw [c83b0]) | skip)
                                                        have H' := Aside0.mk H
                                                        clear H
                                                        go_wp2_with (first | ((with_reducible refine gate_callee (f := 19) rfl ?_); refine goesL_ (some 189) rfl rfl Try.func19 (by kernel_rfl) rfl #[.slice Ao24 t322.length co24, .slice (some ⟨go65, 0, none⟩) y357.length co65] rfl (by (try simp only [List.map_toArray, List.map_cons, List.map_nil]); first | done | (rw [show y357.length = y352.length from (Kd.R_reads' HO354.out).1.symm] <;> rfl) | rfl | (simp only [List.length_drop, List.length_take]; rfl)) ?_; (with_reducible refine (impl_StrengthOf.calls kj44 _ _ t322 _ _ y357 t358 _ ?side1 ?side2 ?side3 ?side4 A82.out).mono ?_); (case side1 => repeat (first | exact (Kd.R_reads' HO_3.out).2.2 | (with_reducible refine Kd.C_alloc ?_ _) | (with_reducible refine Kd.C_drewN ?_ _) | (with_reducible refine Kd.C_drew ?_))); (case side2 => exact (Kd.R_reads' HO_3.out).2.1); (case side3 => repeat (first | exact (Kd.R_reads' HO354.out).2.2 | (with_reducible refine Kd.C_alloc ?_ _) | (with_reducible refine Kd.C_drewN ?_ _) | (with_reducible refine Kd.C_drew ?_))); (case side4 => rw [show y357.length = y352.length from (Kd.R_reads' HO354.out).1.symm]; exact (Kd.R_reads' HO354.out).2.1); rintro e w89 ⟨rfl, hb⟩; refine ⟨_, rfl, ?_⟩; have n0_ := Aside0.mk (Kd.R_below (by (with_reducible repeat (first | apply Kd.R_alloc | apply Kd.R_drewN | apply Kd.R_drew)); exact HO_3.out) hb); have n1_ := Aside0.mk (Kd.R_below (by (with_reducible repeat (first | apply Kd.R_alloc | apply Kd.R_drewN | apply Kd.R_drew)); exact HO348.out) hb); have n2_ := Aside0.mk (Kd.R_below (by (with_reducible repeat (first | apply Kd.R_alloc | apply Kd.R_drewN | apply Kd.R_drew)); exact HO354.out) hb); have n3_ := Aside0.mk (below_step (by repeat (first | (with_reducible first | exact HB.out | apply below_alloc | apply pw_below_drewN | apply below_drew1) | exact HB.out)) hb); clear HO_3; clear HO348; clear HO354; clear HB; have HO_3 := n0_; have HO348 := n1_; have HO354 := n2_; have HB := n3_; clear n0_ n1_ n2_ n3_; (try clear hb); (try clear hb2); (try clear hk); (try clear hi)))
                                                        go_meet
                                                        case rel => exact ⟨_, (false), (by first | rfl | (simp; done) | (simp [*]; done)), H', ⟨by have := HK1.out; have := HJ22.out; have := HJ35.out; have := HJ44.out; first | omega | exact Nat.le_refl _⟩, ⟨by (with_reducible repeat (first | apply Kd.R_alloc | apply Kd.R_drewN | apply Kd.R_drew)); exact HO_3.out⟩, ⟨by repeat (first | (with_reducible first | exact HB.out | apply below_alloc | apply pw_below_drewN | apply below_drew1) | exact HB.out)⟩⟩
                                                  case rest =>
                                                    clear HC68
                                                    try clear c1
                                                    try clear c2
                                                    try clear p2
                                                    try clear c3
                                                    try clear p3
                                                    try clear q3
                                                    try clear hx3
                                                    try clear c4
                                                    try clear c5
                                                    try clear p5
                                                    try clear q5
                                                    try clear hx5
                                                    try clear hf5
                                                    try clear c6
                                                    try clear p6
                                                    try clear q6
                                                    try clear hx6
                                                    try clear hf6
                                                    try clear c7
                                                    try clear c8
                                                    try clear c8b0
                                                    try clear c10
                                                    try clear c10b0
                                                    try clear c11
                                                    try clear c11b0
                                                    try clear c11b1
                                                    try clear c12
                                                    try clear c13
                                                    try clear c13b0
                                                    try clear c19
                                                    try clear c21
                                                    try clear c22
                                                    try clear c23
                                                    try clear c24
                                                    try clear c27
                                                    try clear c27b0
                                                    try clear c27b1
                                                    try clear c27b2
                                                    try clear c28
                                                    try clear c28b0
                                                    try clear c29
                                                    try clear c29b0
                                                    try clear c30
                                                    try clear c30b0
                                                    try clear p32
                                                    try clear q32
                                                    try clear hx32
                                                    try clear p33
                                                    try clear q33
                                                    try clear hx33
                                                    try clear c35
                                                    try clear c37
                                                    try clear c37b0
                                                    try clear c40
                                                    try clear c44
                                                    try clear c47
                                                    try clear c47b0
                                                    try clear c48
                                                    try clear c48b0
                                                    try clear c49
                                                    try clear c49b0
                                                    try clear c50
                                                    try clear c50b0
                                                    try clear c51
                                                    try clear c52
                                                    try clear c52b0
                                                    try clear c52b1
                                                    try clear c53
                                                    try clear c53b0
                                                    try clear c53b1
                                                    try clear c54
                                                    try clear c54b0
                                                    try clear c55
                                                    try clear c55b0
                                                    try clear p56
                                                    try clear q56
                                                    try clear hx56
                                                    try clear hf56
                                                    try clear c57
                                                    try clear c57b0
                                                    try clear c58
                                                    try clear c58b0
                                                    try clear p59
                                                    try clear q59
                                                    try clear hx59
                                                    try clear hf59
                                                    try clear c61
                                                    try clear c61b0
                                                    try clear c63
                                                    try clear c63b0
                                                    try clear c63b1
                                                    try clear c64
                                                    try clear c64b0
                                                    try clear p64
                                                    try clear p65
                                                    try clear q65
                                                    try clear hx65
                                                    try clear hf65
                                                    try clear c66
                                                    try clear c66b0
                                                    try clear p67
                                                    try clear q67
                                                    try clear hx67
                                                    try clear hf67
                                                    try clear c83
                                                    try clear c83b0
                                                    try clear hx329_0
                                                    try clear hx329_1
                                                    try clear hx329_2
                                                    try clear hx333_0
                                                    try clear hx333_1
                                                    try clear hx333_2
                                                    try clear hx334_0
                                                    try clear hx334_1
                                                    try clear hx334_2
                                                    try clear hx335_0
                                                    try clear hx335_1
                                                    try clear hx335_2
                                                    try clear hx56_0
                                                    try clear hx59_0
                                                    try clear hx65_0
                                                    try clear hx67_0
                                                    try clear p2
                                                    try clear p3
                                                    try clear p32
                                                    try clear p329
                                                    try clear p33
                                                    try clear p333
                                                    try clear p334
                                                    try clear p335
                                                    try clear p56
                                                    try clear p59
                                                    try clear p6
                                                    try clear p65
                                                    try clear p67
                                                    try clear q3
                                                    try clear q32
                                                    try clear q329
                                                    try clear q33
                                                    try clear q333
                                                    try clear q334
                                                    try clear q335
                                                    try clear q56
                                                    try clear q59
                                                    try clear q65
                                                    try clear q67
                                                    obtain ⟨kq, x200_67, rfl, HA, HJ67, HO_3, HB⟩ := hcut
                                                    cases kq with
                                                    | zero => exact absurd HA.out (by simp [laws_FnBlends.j4])
                                                    | succ kj67 =>
                                                      have H := HA.out
                                                      clear HA
                                                      simp only [laws_FnBlends.j4] at H
                                                      by_cases c90 : x200_67 = true
                                                      · subst c90
                                                        have H1 : (some false) = some r := by rw [if_pos rfl] at H; exact H
                                                        clear H
                                                        have H := H1
                                                        clear H1
                                                        exact absurd ((Option.some.inj H).trans HR_.out) (by decide)
                                                      · replace c90 := Bool.eq_false_iff.mpr c90
                                                        subst c90
                                                        have H1 : ((impl_FloursOk.f t322).bind fun t361 => (if t361 = true then (if 0 ≤ (t322.length : Int) then (if ((t322.length : Int) : Int).toNat ≤ 35184372088832 then ((impl_BlendCost.f kj67 t322 (List.replicate ((t322.length : Int) : Int).toNat 0)).bind fun t365 => (if t365 = 0 then ((impl_StrengthOf.f kj67 (([(⟨100, 1, 5⟩ : S42), (⟨200, 1, 5⟩ : S42)] : List (S42))) (([1, 1] : List Int))).bind fun t372 => (some (t372 == 150))) else (some false))) else (none)) else (none)) else (some false))) = some r := by rw [if_neg (show ¬ (false = true) by decide)] at H; exact H
                                                        clear H
                                                        have H := H1
                                                        clear H1
                                                        replace H := Option.bind_eq_some_iff.mp H
                                                        obtain ⟨t361, A910, H⟩ := H
                                                        replace H : (if t361 = true then (if 0 ≤ (t322.length : Int) then (if ((t322.length : Int) : Int).toNat ≤ 35184372088832 then ((impl_BlendCost.f kj67 t322 (List.replicate ((t322.length : Int) : Int).toNat 0)).bind fun t365 => (if t365 = 0 then ((impl_StrengthOf.f kj67 (([(⟨100, 1, 5⟩ : S42), (⟨200, 1, 5⟩ : S42)] : List (S42))) (([1, 1] : List Int))).bind fun t372 => (some (t372 == 150))) else (some false))) else (none)) else (none)) else (some false)) = some r := H
                                                        have A91 := Aside0.mk A910
                                                        clear A910
                                                        by_cases c92 : t361 = true
                                                        · subst c92
                                                          have H1 : (if 0 ≤ (t322.length : Int) then (if ((t322.length : Int) : Int).toNat ≤ 35184372088832 then ((impl_BlendCost.f kj67 t322 (List.replicate ((t322.length : Int) : Int).toNat 0)).bind fun t365 => (if t365 = 0 then ((impl_StrengthOf.f kj67 (([(⟨100, 1, 5⟩ : S42), (⟨200, 1, 5⟩ : S42)] : List (S42))) (([1, 1] : List Int))).bind fun t372 => (some (t372 == 150))) else (some false))) else (none)) else (none)) = some r := by rw [if_pos rfl] at H; exact H
                                                          clear H
                                                          have H := H1
                                                          clear H1
                                                          by_cases c93 : 0 ≤ (t322.length : Int)
                                                          · rw [if_pos c93] at H
                                                            have c93b0 := eq_true c93
                                                            have c93b1 : decide (0 ≤ (t322.length : Int)) = true := decide_eq_true c93
                                                            clear c93
                                                            by_cases c94 : ((t322.length : Int) : Int).toNat ≤ 35184372088832
                                                            · rw [if_pos c94] at H
                                                              have c94b0 := eq_true c94
                                                              have c94b1 : decide (((t322.length : Int) : Int).toNat ≤ 35184372088832) = true := decide_eq_true c94
                                                              clear c94
                                                              obtain ⟨y362, hy362⟩ : ∃ y_ : List Int, y_ = (List.replicate ((t322.length : Int) : Int).toNat 0) := ⟨_, rfl⟩
                                                              replace H : ((impl_BlendCost.f kj67 t322 y362).bind fun t365 => (if t365 = 0 then ((impl_StrengthOf.f kj67 (([(⟨100, 1, 5⟩ : S42), (⟨200, 1, 5⟩ : S42)] : List (S42))) (([1, 1] : List Int))).bind fun t372 => (some (t372 == 150))) else (some false))) = some r := by first | (rw [hy362]; with_reducible exact H) | (have H2_ := (Option.bind_some _ _).symm.trans H; rw [hy362]; with_reducible exact H2_) | (have H2_ := (Option.bind_some _ _).symm.trans H; with_reducible exact H2_) | with_reducible exact H | (rw [hy362]; exact H) | exact H
                                                              have Ny362 := Aside0.mk hy362
                                                              clear hy362
                                                              replace H := Option.bind_eq_some_iff.mp H
                                                              obtain ⟨t365, A950, H⟩ := H
                                                              replace H : (if t365 = 0 then ((impl_StrengthOf.f kj67 (([(⟨100, 1, 5⟩ : S42), (⟨200, 1, 5⟩ : S42)] : List (S42))) (([1, 1] : List Int))).bind fun t372 => (some (t372 == 150))) else (some false)) = some r := H
                                                              have A95 := Aside0.mk A950
                                                              clear A950
                                                              by_cases c96 : t365 = 0
                                                              · rw [if_pos c96] at H
                                                                have c96b0 : (t365 == 0) = true := beq_iff_eq.mpr c96
                                                                have c96b1 : (t365 != 0) = false := bne_eq_false_iff_eq.mpr c96
                                                                clear c96
                                                                obtain ⟨y366, hy366⟩ : ∃ y_ : List (S42), y_ = (([(⟨100, 1, 5⟩ : S42), (⟨200, 1, 5⟩ : S42)] : List (S42))) := ⟨_, rfl⟩
                                                                replace H : ((impl_StrengthOf.f kj67 y366 (([1, 1] : List Int))).bind fun t372 => (some (t372 == 150))) = some r := by first | (rw [hy366]; with_reducible exact H) | (have H2_ := (Option.bind_some _ _).symm.trans H; rw [hy366]; with_reducible exact H2_) | (have H2_ := (Option.bind_some _ _).symm.trans H; with_reducible exact H2_) | with_reducible exact H | (rw [hy366]; exact H) | exact H
                                                                have Ny366 := Aside0.mk hy366
                                                                clear hy366
                                                                obtain ⟨y369, hy369⟩ : ∃ y_ : List Int, y_ = (([1, 1] : List Int)) := ⟨_, rfl⟩
                                                                replace H : ((impl_StrengthOf.f kj67 y366 y369).bind fun t372 => (some (t372 == 150))) = some r := by first | (rw [hy369]; with_reducible exact H) | (have H2_ := (Option.bind_some _ _).symm.trans H; rw [hy369]; with_reducible exact H2_) | (have H2_ := (Option.bind_some _ _).symm.trans H; with_reducible exact H2_) | with_reducible exact H | (rw [hy369]; exact H) | exact H
                                                                have Ny369 := Aside0.mk hy369
                                                                clear hy369
                                                                replace H := Option.bind_eq_some_iff.mp H
                                                                obtain ⟨t372, A970, H⟩ := H
                                                                replace H : (some (t372 == 150)) = some r := H
                                                                have A97 := Aside0.mk A970
                                                                clear A970
                                                                obtain rfl := Option.some.inj H
                                                                go_wp2_with (first | ((with_reducible refine gate_callee (f := 12) rfl ?_); refine goesL_ (some 202) rfl rfl Try.func12 (by kernel_rfl) rfl #[.slice Ao24 t322.length co24] rfl (by (try simp only [List.map_toArray, List.map_cons, List.map_nil]); first | done | rfl | (simp only [List.length_drop, List.length_take]; rfl)) ?_; (with_reducible refine (impl_FloursOk.calls _ _ t322 true _ ?side1 ?side2 A91.out).mono ?_); (case side1 => repeat (first | exact (Kd.R_reads' HO_3.out).2.2 | (with_reducible refine Kd.C_alloc ?_ _) | (with_reducible refine Kd.C_drewN ?_ _) | (with_reducible refine Kd.C_drew ?_))); (case side2 => exact (Kd.R_reads' HO_3.out).2.1); rintro e w98 ⟨rfl, hb⟩; refine ⟨_, rfl, ?_⟩; have n0_ := Aside0.mk (Kd.R_below (by (with_reducible repeat (first | apply Kd.R_alloc | apply Kd.R_drewN | apply Kd.R_drew)); exact HO_3.out) hb); have n1_ := Aside0.mk (below_step (by repeat (first | (with_reducible first | exact HB.out | apply below_alloc | apply pw_below_drewN | apply below_drew1) | exact HB.out)) hb); clear HO_3; clear HB; have HO_3 := n0_; have HB := n1_; clear n0_ n1_; (try clear hb); (try clear hb2); (try clear hk); (try clear hi)) | ((with_reducible refine gate_dst (N := 207) rfl ?_); (try (refine gate_guard (by rfl) ?_; dsimp only)); refine Kd.R_make (Kd.int .i64) _ 3 rfl (N := 207) rfl 29 _ _ rfl (t322.length : Int) rfl rfl Try.underlying29 (.int .i64 0) 8 info3 rfl (by decide) (by omega) 0 (ok := fun _ => True) (okp := fun _ => True) rfl (fun _ hk => hk) trivial (of_decide_eq_true (by first | (with_reducible assumption) | assumption)) (Nat.le_trans (Nat.mul_le_mul_right _ (of_decide_eq_true (by first | (with_reducible assumption) | assumption) : (t322.length : Int).toNat ≤ 35184372088832)) (by omega)) (Below.refl _ _) (Nat.le_refl _) ?_; intro v363 w99 ho100 hb hg_ hnew_; clear hg_ hnew_; (first | rw [← Ny362.out] at ho100 | (simp only [Int.reduceToNat] at ho100; rw [← Ny362.out] at ho100)); have n0_ := Aside0.mk (Kd.R_below (by (with_reducible repeat (first | apply Kd.R_alloc | apply Kd.R_drewN | apply Kd.R_drew)); exact HO_3.out) hb); have n1_ := Aside0.mk (Kd.R_lower ho100 (below_size (by repeat (first | (with_reducible first | exact HB.out | apply below_alloc | apply pw_below_drewN | apply below_drew1) | exact HB.out)))); have n2_ := Aside0.mk (below_step (by repeat (first | (with_reducible first | exact HB.out | apply below_alloc | apply pw_below_drewN | apply below_drew1) | exact HB.out)) hb); clear HO_3; clear HB; have HO_3 := n0_; have HO364 := n1_; have HB := n2_; clear n0_ n1_ n2_; clear hb ho100; obtain ⟨Ao101, co101, eo101⟩ := Kd.R_slice HO364.out; subst eo101) | (go_at_call 16; (with_reducible refine (impl_BlendCost.calls kj67 _ _ t322 _ _ y362 t365 _ ?side1 ?side2 ?side3 ?side4 A95.out).mono ?_); (case side1 => repeat (first | exact (Kd.R_reads' HO_3.out).2.2 | (with_reducible refine Kd.C_alloc ?_ _) | (with_reducible refine Kd.C_drewN ?_ _) | (with_reducible refine Kd.C_drew ?_))); (case side2 => exact (Kd.R_reads' HO_3.out).2.1); (case side3 => repeat (first | exact (Kd.R_reads' HO364.out).2.2 | (with_reducible refine Kd.C_alloc ?_ _) | (with_reducible refine Kd.C_drewN ?_ _) | (with_reducible refine Kd.C_drew ?_))); (case side4 => exact (Kd.R_reads' HO364.out).2.1); rintro e w102 ⟨rfl, hb⟩; have n0_ := Aside0.mk (Kd.R_below (by (with_reducible repeat (first | apply Kd.R_alloc | apply Kd.R_drewN | apply Kd.R_drew)); exact HO_3.out) hb); have n1_ := Aside0.mk (Kd.R_below (by (with_reducible repeat (first | apply Kd.R_alloc | apply Kd.R_drewN | apply Kd.R_drew)); exact HO364.out) hb); have n2_ := Aside0.mk (below_step (by repeat (first | (with_reducible first | exact HB.out | apply below_alloc | apply pw_below_drewN | apply below_drew1) | exact HB.out)) hb); clear HO_3; clear HO364; clear HB; have HO_3 := n0_; have HO364 := n1_; have HB := n2_; clear n0_ n1_ n2_; (try clear hb); (try clear hb2); (try clear hk); (try clear hi)) | ((with_reducible refine gate_dst (N := 214) rfl ?_); (try (refine gate_guard (by rfl) ?_; dsimp only)); refine Kd.R_lit k42 _ 42 ?hg (N := 214) ?hd (xs := ([(⟨100, 1, 5⟩ : S42), (⟨200, 1, 5⟩ : S42)] : List (S42))) (inner := [.int .i64 100, .int .i64 1, .int .i64 5, .int .i64 200, .int .i64 1, .int .i64 5]) (ok := fun _ => True) (okp := fun _ => True) ?hr ?hp (fun _ hk => hk) trivial (Below.refl _ _) (Nat.le_refl _) (by simp) ?_; (case hd => rfl); (case hg => rfl); (case hr => first | (go_simp; done) | (go_simp; rfl)); (case hp => exact (Reps.c3 (show Kd.M k42 _ _ _ (⟨100, 1, 5⟩ : S42) [.int .i64 100, .int .i64 1, .int .i64 5] from (k42_mkM _ _ _ (⟨100, 1, 5⟩ : S42) )) (Reps.c3 (show Kd.M k42 _ _ _ (⟨200, 1, 5⟩ : S42) [.int .i64 200, .int .i64 1, .int .i64 5] from (k42_mkM _ _ _ (⟨200, 1, 5⟩ : S42) )) (Reps.none _ _)))); intro v367 w103 ho104 hb hg_ hnew_; clear hg_ hnew_; (first | rw [← Ny366.out] at ho104 | (simp only [Int.reduceToNat] at ho104; rw [← Ny366.out] at ho104)); have n0_ := Aside0.mk (Kd.R_elder' (by (with_reducible repeat (first | apply Kd.R_alloc | apply Kd.R_drewN | apply Kd.R_drew)); exact HO_3.out) (Kd.R_base ho104) hb); have n1_ := Aside0.mk (Kd.R_below (by (with_reducible repeat (first | apply Kd.R_alloc | apply Kd.R_drewN | apply Kd.R_drew)); exact HO364.out) hb); have n2_ := Aside0.mk (Kd.R_lower (Kd.R_new' ho104 (Kd.R_lt (by (with_reducible repeat (first | apply Kd.R_alloc | apply Kd.R_drewN | apply Kd.R_drew)); exact HO_3.out))) (below_size (by repeat (first | (with_reducible first | exact HB.out | apply below_alloc | apply pw_below_drewN | apply below_drew1) | exact HB.out)))); have n3_ := Aside0.mk (below_step (by repeat (first | (with_reducible first | exact HB.out | apply below_alloc | apply pw_below_drewN | apply below_drew1) | exact HB.out)) hb); clear HO_3; clear HO364; clear HB; have HO_3 := n0_; have HO364 := n1_; have HO368 := n2_; have HB := n3_; clear n0_ n1_ n2_ n3_; clear hb ho104) | ((with_reducible refine gate_dst (N := 215) rfl ?_); (try (refine gate_guard (by rfl) ?_; dsimp only)); refine Kd.R_lit (Kd.int .i64) _ 3 ?hg (N := 215) ?hd (xs := ([1, 1] : List Int)) (inner := [.int .i64 1, .int .i64 1]) (ok := fun _ => True) (okp := fun _ => True) ?hr ?hp (fun _ hk => hk) trivial (Below.refl _ _) (Nat.le_refl _) (by simp) ?_; (case hd => rfl); (case hg => rfl); (case hr => first | (go_simp; done) | (go_simp; rfl)); (case hp => exact (Reps.one (show Kd.M (Kd.int .i64) _ _ _ 1 [.int .i64 1] from rfl) (Reps.one (show Kd.M (Kd.int .i64) _ _ _ 1 [.int .i64 1] from rfl) (Reps.none _ _)))); intro v370 w105 ho106 hb hg_ hnew_; clear hg_ hnew_; (first | rw [← Ny369.out] at ho106 | (simp only [Int.reduceToNat] at ho106; rw [← Ny369.out] at ho106)); have n0_ := Aside0.mk (Kd.R_below (by (with_reducible repeat (first | apply Kd.R_alloc | apply Kd.R_drewN | apply Kd.R_drew)); exact HO_3.out) hb); have n1_ := Aside0.mk (Kd.R_elder' (by (with_reducible repeat (first | apply Kd.R_alloc | apply Kd.R_drewN | apply Kd.R_drew)); exact HO364.out) (Kd.R_base ho106) hb); have n2_ := Aside0.mk (Kd.R_below (by (with_reducible repeat (first | apply Kd.R_alloc | apply Kd.R_drewN | apply Kd.R_drew)); exact HO368.out) hb); have n3_ := Aside0.mk (Kd.R_lower (Kd.R_new' ho106 (Kd.R_lt (by (with_reducible repeat (first | apply Kd.R_alloc | apply Kd.R_drewN | apply Kd.R_drew)); exact HO364.out))) (below_size (by repeat (first | (with_reducible first | exact HB.out | apply below_alloc | apply pw_below_drewN | apply below_drew1) | exact HB.out)))); have n4_ := Aside0.mk (below_step (by repeat (first | (with_reducible first | exact HB.out | apply below_alloc | apply pw_below_drewN | apply below_drew1) | exact HB.out)) hb); clear HO_3; clear HO364; clear HO368; clear HB; have HO_3 := n0_; have HO364 := n1_; have HO368 := n2_; have HO371 := n3_; have HB := n4_; clear n0_ n1_ n2_ n3_ n4_; clear hb ho106; obtain ⟨Ao107, co107, eo107⟩ := Kd.R_slice HO368.out; subst eo107; obtain ⟨Ao108, co108, eo108⟩ := Kd.R_slice HO371.out; subst eo108) | (go_at_call 19; (with_reducible refine (impl_StrengthOf.calls kj67 _ _ y366 _ _ y369 t372 _ ?side1 ?side2 ?side3 ?side4 A97.out).mono ?_); (case side1 => repeat (first | exact (Kd.R_reads' HO368.out).2.2 | (with_reducible refine Kd.C_alloc ?_ _) | (with_reducible refine Kd.C_drewN ?_ _) | (with_reducible refine Kd.C_drew ?_))); (case side2 => exact (Kd.R_reads' HO368.out).2.1); (case side3 => repeat (first | exact (Kd.R_reads' HO371.out).2.2 | (with_reducible refine Kd.C_alloc ?_ _) | (with_reducible refine Kd.C_drewN ?_ _) | (with_reducible refine Kd.C_drew ?_))); (case side4 => exact (Kd.R_reads' HO371.out).2.1); rintro e w109 ⟨rfl, hb⟩; have n0_ := Aside0.mk (Kd.R_below (by (with_reducible repeat (first | apply Kd.R_alloc | apply Kd.R_drewN | apply Kd.R_drew)); exact HO_3.out) hb); have n1_ := Aside0.mk (Kd.R_below (by (with_reducible repeat (first | apply Kd.R_alloc | apply Kd.R_drewN | apply Kd.R_drew)); exact HO364.out) hb); have n2_ := Aside0.mk (Kd.R_below (by (with_reducible repeat (first | apply Kd.R_alloc | apply Kd.R_drewN | apply Kd.R_drew)); exact HO368.out) hb); have n3_ := Aside0.mk (Kd.R_below (by (with_reducible repeat (first | apply Kd.R_alloc | apply Kd.R_drewN | apply Kd.R_drew)); exact HO371.out) hb); have n4_ := Aside0.mk (below_step (by repeat (first | (with_reducible first | exact HB.out | apply below_alloc | apply pw_below_drewN | apply below_drew1) | exact HB.out)) hb); clear HO_3; clear HO364; clear HO368; clear HO371; clear HB; have HO_3 := n0_; have HO364 := n1_; have HO368 := n2_; have HO371 := n3_; have HB := n4_; clear n0_ n1_ n2_ n3_ n4_; (try clear hb); (try clear hb2); (try clear hk); (try clear hi)))
                                                                go_ret
                                                                exact ⟨by first | rfl | (simp [errW_none, errW_some] <;> rfl) | (simp [*, errW_none, errW_some] <;> rfl), by repeat (first | (with_reducible first | exact HB.out | apply below_alloc | apply pw_below_drewN | apply below_drew1) | exact HB.out)⟩
                                                              · rw [if_neg c96] at H
                                                                have c96b0 : (t365 == 0) = false := beq_eq_false_iff_ne.mpr c96
                                                                have c96b1 : (t365 != 0) = true := bne_iff_ne.mpr c96
                                                                exact absurd ((Option.some.inj H).trans HR_.out) (by decide)
                                                            · rw [if_neg c94] at H
                                                              exact absurd H (by simp)
                                                          · rw [if_neg c93] at H
                                                            exact absurd H (by simp)
                                                        · replace c92 := Bool.eq_false_iff.mpr c92
                                                          subst c92
                                                          have H1 : (some false) = some r := by rw [if_neg (show ¬ (false = true) by decide)] at H; exact H
                                                          clear H
                                                          have H := H1
                                                          clear H1
                                                          exact absurd ((Option.some.inj H).trans HR_.out) (by decide)
                                                · rw [if_neg c66] at H
                                                  exact absurd H (by simp)
                                              · rw [if_neg c64] at H
                                                exact absurd H (by simp)
                                        · rw [if_neg c58] at H
                                          exact absurd H (by simp)
                                      · rw [if_neg c57] at H
                                        exact absurd H (by simp)
                                    · rw [if_neg c55] at H
                                      exact absurd H (by simp)
                                  · rw [if_neg c54] at H
                                    exact absurd H (by simp)
                                · rw [if_neg c53] at H
                                  exact absurd H (by simp)
                              · rw [if_neg c52] at H
                                exact absurd H (by simp)
                      · replace c44 := Bool.eq_false_iff.mpr c44
                        subst c44
                        have H1 : ((impl_FloursOk.f t322).bind fun t373 => (if t373 = true then (if 0 ≤ (t322.length : Int) then (if ((t322.length : Int) : Int).toNat ≤ 35184372088832 then ((impl_BlendCost.f kj35 t322 (List.replicate ((t322.length : Int) : Int).toNat 0)).bind fun t377 => (if t377 = 0 then ((impl_StrengthOf.f kj35 (([(⟨100, 1, 5⟩ : S42), (⟨200, 1, 5⟩ : S42)] : List (S42))) (([1, 1] : List Int))).bind fun t384 => (some (t384 == 150))) else (some false))) else (none)) else (none)) else (some false))) = some r := by rw [if_neg (show ¬ (false = true) by decide)] at H; exact H
                        clear H
                        have H := H1
                        clear H1
                        replace H := Option.bind_eq_some_iff.mp H
                        obtain ⟨t373, A1100, H⟩ := H
                        replace H : (if t373 = true then (if 0 ≤ (t322.length : Int) then (if ((t322.length : Int) : Int).toNat ≤ 35184372088832 then ((impl_BlendCost.f kj35 t322 (List.replicate ((t322.length : Int) : Int).toNat 0)).bind fun t377 => (if t377 = 0 then ((impl_StrengthOf.f kj35 (([(⟨100, 1, 5⟩ : S42), (⟨200, 1, 5⟩ : S42)] : List (S42))) (([1, 1] : List Int))).bind fun t384 => (some (t384 == 150))) else (some false))) else (none)) else (none)) else (some false)) = some r := H
                        have A110 := Aside0.mk A1100
                        clear A1100
                        by_cases c111 : t373 = true
                        · subst c111
                          have H1 : (if 0 ≤ (t322.length : Int) then (if ((t322.length : Int) : Int).toNat ≤ 35184372088832 then ((impl_BlendCost.f kj35 t322 (List.replicate ((t322.length : Int) : Int).toNat 0)).bind fun t377 => (if t377 = 0 then ((impl_StrengthOf.f kj35 (([(⟨100, 1, 5⟩ : S42), (⟨200, 1, 5⟩ : S42)] : List (S42))) (([1, 1] : List Int))).bind fun t384 => (some (t384 == 150))) else (some false))) else (none)) else (none)) = some r := by rw [if_pos rfl] at H; exact H
                          clear H
                          have H := H1
                          clear H1
                          by_cases c112 : 0 ≤ (t322.length : Int)
                          · rw [if_pos c112] at H
                            have c112b0 := eq_true c112
                            have c112b1 : decide (0 ≤ (t322.length : Int)) = true := decide_eq_true c112
                            clear c112
                            by_cases c113 : ((t322.length : Int) : Int).toNat ≤ 35184372088832
                            · rw [if_pos c113] at H
                              have c113b0 := eq_true c113
                              have c113b1 : decide (((t322.length : Int) : Int).toNat ≤ 35184372088832) = true := decide_eq_true c113
                              clear c113
                              obtain ⟨y374, hy374⟩ : ∃ y_ : List Int, y_ = (List.replicate ((t322.length : Int) : Int).toNat 0) := ⟨_, rfl⟩
                              replace H : ((impl_BlendCost.f kj35 t322 y374).bind fun t377 => (if t377 = 0 then ((impl_StrengthOf.f kj35 (([(⟨100, 1, 5⟩ : S42), (⟨200, 1, 5⟩ : S42)] : List (S42))) (([1, 1] : List Int))).bind fun t384 => (some (t384 == 150))) else (some false))) = some r := by first | (rw [hy374]; with_reducible exact H) | (have H2_ := (Option.bind_some _ _).symm.trans H; rw [hy374]; with_reducible exact H2_) | (have H2_ := (Option.bind_some _ _).symm.trans H; with_reducible exact H2_) | with_reducible exact H | (rw [hy374]; exact H) | exact H
                              have Ny374 := Aside0.mk hy374
                              clear hy374
                              replace H := Option.bind_eq_some_iff.mp H
                              obtain ⟨t377, A1140, H⟩ := H
                              replace H : (if t377 = 0 then ((impl_StrengthOf.f kj35 (([(⟨100, 1, 5⟩ : S42), (⟨200, 1, 5⟩ : S42)] : List (S42))) (([1, 1] : List Int))).bind fun t384 => (some (t384 == 150))) else (some false)) = some r := H
                              have A114 := Aside0.mk A1140
                              clear A1140
                              by_cases c115 : t377 = 0
                              · rw [if_pos c115] at H
                                have c115b0 : (t377 == 0) = true := beq_iff_eq.mpr c115
                                have c115b1 : (t377 != 0) = false := bne_eq_false_iff_eq.mpr c115
                                clear c115
                                obtain ⟨y378, hy378⟩ : ∃ y_ : List (S42), y_ = (([(⟨100, 1, 5⟩ : S42), (⟨200, 1, 5⟩ : S42)] : List (S42))) := ⟨_, rfl⟩
                                replace H : ((impl_StrengthOf.f kj35 y378 (([1, 1] : List Int))).bind fun t384 => (some (t384 == 150))) = some r := by first | (rw [hy378]; with_reducible exact H) | (have H2_ := (Option.bind_some _ _).symm.trans H; rw [hy378]; with_reducible exact H2_) | (have H2_ := (Option.bind_some _ _).symm.trans H; with_reducible exact H2_) | with_reducible exact H | (rw [hy378]; exact H) | exact H
                                have Ny378 := Aside0.mk hy378
                                clear hy378
                                obtain ⟨y381, hy381⟩ : ∃ y_ : List Int, y_ = (([1, 1] : List Int)) := ⟨_, rfl⟩
                                replace H : ((impl_StrengthOf.f kj35 y378 y381).bind fun t384 => (some (t384 == 150))) = some r := by first | (rw [hy381]; with_reducible exact H) | (have H2_ := (Option.bind_some _ _).symm.trans H; rw [hy381]; with_reducible exact H2_) | (have H2_ := (Option.bind_some _ _).symm.trans H; with_reducible exact H2_) | with_reducible exact H | (rw [hy381]; exact H) | exact H
                                have Ny381 := Aside0.mk hy381
                                clear hy381
                                replace H := Option.bind_eq_some_iff.mp H
                                obtain ⟨t384, A1160, H⟩ := H
                                replace H : (some (t384 == 150)) = some r := H
                                have A116 := Aside0.mk A1160
                                clear A1160
                                obtain rfl := Option.some.inj H
                                go_wp2_with (first | ((with_reducible refine gate_callee (f := 24) rfl ?_); refine goesL_ (some 113) rfl rfl Try.func24 (by kernel_rfl) rfl #[.slice A0 l0.length c0, .int .i64 5] rfl (by (try simp only [List.map_toArray, List.map_cons, List.map_nil]); first | done | rfl | (simp only [List.length_drop, List.length_take]; rfl)) ?_; (with_reducible refine (laws_at.calls _ _ l0 5 t340 _ ?side1 ?side2 A41.out).mono ?_); (case side1 => repeat (first | exact (Kd.C_below HR0.out HB.out) | (with_reducible refine Kd.C_alloc ?_ _) | (with_reducible refine Kd.C_drewN ?_ _) | (with_reducible refine Kd.C_drew ?_))); (case side2 => exact HC0.out); rintro e w' ⟨rfl, ⟨nd, rfl⟩⟩; refine ⟨_, rfl, ?_⟩) | ((with_reducible refine gate_callee (f := 24) rfl ?_); refine goesL_ (some 117) rfl rfl Try.func24 (by kernel_rfl) rfl #[.slice A0 l0.length c0, .int .i64 6] rfl (by (try simp only [List.map_toArray, List.map_cons, List.map_nil]); first | done | rfl | (simp only [List.length_drop, List.length_take]; rfl)) ?_; (with_reducible refine (laws_at.calls _ _ l0 6 t341 _ ?side1 ?side2 A42.out).mono ?_); (case side1 => repeat (first | exact (Kd.C_below HR0.out (by repeat (first | (with_reducible first | exact HB.out | apply below_alloc | apply pw_below_drewN | apply below_drew1) | exact HB.out))) | (with_reducible refine Kd.C_alloc ?_ _) | (with_reducible refine Kd.C_drewN ?_ _) | (with_reducible refine Kd.C_drew ?_))); (case side2 => exact HC0.out); rintro e w' ⟨rfl, ⟨nd, rfl⟩⟩; refine ⟨_, rfl, ?_⟩) | ((with_reducible refine gate_callee (f := 21) rfl ?_); refine goesL_ (some 123) rfl rfl Try.func21 (by kernel_rfl) rfl #[.slice Ao24 t322.length co24, .int .i64 (wrap64 (1 + (Int.tmod t340 20))), .int .i64 (wrap64 (100 + t341))] rfl (by (try simp only [List.map_toArray, List.map_cons, List.map_nil]); first | done | rfl | (simp only [List.length_drop, List.length_take]; rfl)) ?_; (with_reducible refine (impl_CheapestTwo.calls kj35 _ _ t322 (wrap64 (1 + (Int.tmod t340 20))) (wrap64 (100 + t341)) t342 t343 t344 false _ ?side1 ?side2 A43.out).mono ?_); (case side1 => repeat (first | exact (Kd.R_reads' HO_3.out).2.2 | (with_reducible refine Kd.C_alloc ?_ _) | (with_reducible refine Kd.C_drewN ?_ _) | (with_reducible refine Kd.C_drew ?_))); (case side2 => exact (Kd.R_reads' HO_3.out).2.1); rintro e w117 ⟨rfl, hb⟩; refine ⟨_, rfl, ?_⟩; have n0_ := Aside0.mk (Kd.R_below (by (with_reducible repeat (first | apply Kd.R_alloc | apply Kd.R_drewN | apply Kd.R_drew)); exact HO_3.out) hb); have n1_ := Aside0.mk (below_step (by repeat (first | (with_reducible first | exact HB.out | apply below_alloc | apply pw_below_drewN | apply below_drew1) | exact HB.out)) hb); clear HO_3; clear HB; have HO_3 := n0_; have HB := n1_; clear n0_ n1_; (try clear hb); (try clear hb2); (try clear hk); (try clear hi)) | ((with_reducible refine gate_callee (f := 12) rfl ?_); refine goesL_ (some 202) rfl rfl Try.func12 (by kernel_rfl) rfl #[.slice Ao24 t322.length co24] rfl (by (try simp only [List.map_toArray, List.map_cons, List.map_nil]); first | done | rfl | (simp only [List.length_drop, List.length_take]; rfl)) ?_; (with_reducible refine (impl_FloursOk.calls _ _ t322 true _ ?side1 ?side2 A110.out).mono ?_); (case side1 => repeat (first | exact (Kd.R_reads' HO_3.out).2.2 | (with_reducible refine Kd.C_alloc ?_ _) | (with_reducible refine Kd.C_drewN ?_ _) | (with_reducible refine Kd.C_drew ?_))); (case side2 => exact (Kd.R_reads' HO_3.out).2.1); rintro e w118 ⟨rfl, hb⟩; refine ⟨_, rfl, ?_⟩; have n0_ := Aside0.mk (Kd.R_below (by (with_reducible repeat (first | apply Kd.R_alloc | apply Kd.R_drewN | apply Kd.R_drew)); exact HO_3.out) hb); have n1_ := Aside0.mk (below_step (by repeat (first | (with_reducible first | exact HB.out | apply below_alloc | apply pw_below_drewN | apply below_drew1) | exact HB.out)) hb); clear HO_3; clear HB; have HO_3 := n0_; have HB := n1_; clear n0_ n1_; (try clear hb); (try clear hb2); (try clear hk); (try clear hi)) | ((with_reducible refine gate_dst (N := 207) rfl ?_); (try (refine gate_guard (by rfl) ?_; dsimp only)); refine Kd.R_make (Kd.int .i64) _ 3 rfl (N := 207) rfl 29 _ _ rfl (t322.length : Int) rfl rfl Try.underlying29 (.int .i64 0) 8 info3 rfl (by decide) (by omega) 0 (ok := fun _ => True) (okp := fun _ => True) rfl (fun _ hk => hk) trivial (of_decide_eq_true (by first | (with_reducible assumption) | assumption)) (Nat.le_trans (Nat.mul_le_mul_right _ (of_decide_eq_true (by first | (with_reducible assumption) | assumption) : (t322.length : Int).toNat ≤ 35184372088832)) (by omega)) (Below.refl _ _) (Nat.le_refl _) ?_; intro v375 w119 ho120 hb hg_ hnew_; clear hg_ hnew_; (first | rw [← Ny374.out] at ho120 | (simp only [Int.reduceToNat] at ho120; rw [← Ny374.out] at ho120)); have n0_ := Aside0.mk (Kd.R_below (by (with_reducible repeat (first | apply Kd.R_alloc | apply Kd.R_drewN | apply Kd.R_drew)); exact HO_3.out) hb); have n1_ := Aside0.mk (Kd.R_lower ho120 (below_size (by repeat (first | (with_reducible first | exact HB.out | apply below_alloc | apply pw_below_drewN | apply below_drew1) | exact HB.out)))); have n2_ := Aside0.mk (below_step (by repeat (first | (with_reducible first | exact HB.out | apply below_alloc | apply pw_below_drewN | apply below_drew1) | exact HB.out)) hb); clear HO_3; clear HB; have HO_3 := n0_; have HO376 := n1_; have HB := n2_; clear n0_ n1_ n2_; clear hb ho120; obtain ⟨Ao121, co121, eo121⟩ := Kd.R_slice HO376.out; subst eo121) | (go_at_call 16; (with_reducible refine (impl_BlendCost.calls kj35 _ _ t322 _ _ y374 t377 _ ?side1 ?side2 ?side3 ?side4 A114.out).mono ?_); (case side1 => repeat (first | exact (Kd.R_reads' HO_3.out).2.2 | (with_reducible refine Kd.C_alloc ?_ _) | (with_reducible refine Kd.C_drewN ?_ _) | (with_reducible refine Kd.C_drew ?_))); (case side2 => exact (Kd.R_reads' HO_3.out).2.1); (case side3 => repeat (first | exact (Kd.R_reads' HO376.out).2.2 | (with_reducible refine Kd.C_alloc ?_ _) | (with_reducible refine Kd.C_drewN ?_ _) | (with_reducible refine Kd.C_drew ?_))); (case side4 => exact (Kd.R_reads' HO376.out).2.1); rintro e w122 ⟨rfl, hb⟩; have n0_ := Aside0.mk (Kd.R_below (by (with_reducible repeat (first | apply Kd.R_alloc | apply Kd.R_drewN | apply Kd.R_drew)); exact HO_3.out) hb); have n1_ := Aside0.mk (Kd.R_below (by (with_reducible repeat (first | apply Kd.R_alloc | apply Kd.R_drewN | apply Kd.R_drew)); exact HO376.out) hb); have n2_ := Aside0.mk (below_step (by repeat (first | (with_reducible first | exact HB.out | apply below_alloc | apply pw_below_drewN | apply below_drew1) | exact HB.out)) hb); clear HO_3; clear HO376; clear HB; have HO_3 := n0_; have HO376 := n1_; have HB := n2_; clear n0_ n1_ n2_; (try clear hb); (try clear hb2); (try clear hk); (try clear hi)) | ((with_reducible refine gate_dst (N := 214) rfl ?_); (try (refine gate_guard (by rfl) ?_; dsimp only)); refine Kd.R_lit k42 _ 42 ?hg (N := 214) ?hd (xs := ([(⟨100, 1, 5⟩ : S42), (⟨200, 1, 5⟩ : S42)] : List (S42))) (inner := [.int .i64 100, .int .i64 1, .int .i64 5, .int .i64 200, .int .i64 1, .int .i64 5]) (ok := fun _ => True) (okp := fun _ => True) ?hr ?hp (fun _ hk => hk) trivial (Below.refl _ _) (Nat.le_refl _) (by simp) ?_; (case hd => rfl); (case hg => rfl); (case hr => first | (go_simp; done) | (go_simp; rfl)); (case hp => exact (Reps.c3 (show Kd.M k42 _ _ _ (⟨100, 1, 5⟩ : S42) [.int .i64 100, .int .i64 1, .int .i64 5] from (k42_mkM _ _ _ (⟨100, 1, 5⟩ : S42) )) (Reps.c3 (show Kd.M k42 _ _ _ (⟨200, 1, 5⟩ : S42) [.int .i64 200, .int .i64 1, .int .i64 5] from (k42_mkM _ _ _ (⟨200, 1, 5⟩ : S42) )) (Reps.none _ _)))); intro v379 w123 ho124 hb hg_ hnew_; clear hg_ hnew_; (first | rw [← Ny378.out] at ho124 | (simp only [Int.reduceToNat] at ho124; rw [← Ny378.out] at ho124)); have n0_ := Aside0.mk (Kd.R_elder' (by (with_reducible repeat (first | apply Kd.R_alloc | apply Kd.R_drewN | apply Kd.R_drew)); exact HO_3.out) (Kd.R_base ho124) hb); have n1_ := Aside0.mk (Kd.R_below (by (with_reducible repeat (first | apply Kd.R_alloc | apply Kd.R_drewN | apply Kd.R_drew)); exact HO376.out) hb); have n2_ := Aside0.mk (Kd.R_lower (Kd.R_new' ho124 (Kd.R_lt (by (with_reducible repeat (first | apply Kd.R_alloc | apply Kd.R_drewN | apply Kd.R_drew)); exact HO_3.out))) (below_size (by repeat (first | (with_reducible first | exact HB.out | apply below_alloc | apply pw_below_drewN | apply below_drew1) | exact HB.out)))); have n3_ := Aside0.mk (below_step (by repeat (first | (with_reducible first | exact HB.out | apply below_alloc | apply pw_below_drewN | apply below_drew1) | exact HB.out)) hb); clear HO_3; clear HO376; clear HB; have HO_3 := n0_; have HO376 := n1_; have HO380 := n2_; have HB := n3_; clear n0_ n1_ n2_ n3_; clear hb ho124) | ((with_reducible refine gate_dst (N := 215) rfl ?_); (try (refine gate_guard (by rfl) ?_; dsimp only)); refine Kd.R_lit (Kd.int .i64) _ 3 ?hg (N := 215) ?hd (xs := ([1, 1] : List Int)) (inner := [.int .i64 1, .int .i64 1]) (ok := fun _ => True) (okp := fun _ => True) ?hr ?hp (fun _ hk => hk) trivial (Below.refl _ _) (Nat.le_refl _) (by simp) ?_; (case hd => rfl); (case hg => rfl); (case hr => first | (go_simp; done) | (go_simp; rfl)); (case hp => exact (Reps.one (show Kd.M (Kd.int .i64) _ _ _ 1 [.int .i64 1] from rfl) (Reps.one (show Kd.M (Kd.int .i64) _ _ _ 1 [.int .i64 1] from rfl) (Reps.none _ _)))); intro v382 w125 ho126 hb hg_ hnew_; clear hg_ hnew_; (first | rw [← Ny381.out] at ho126 | (simp only [Int.reduceToNat] at ho126; rw [← Ny381.out] at ho126)); have n0_ := Aside0.mk (Kd.R_below (by (with_reducible repeat (first | apply Kd.R_alloc | apply Kd.R_drewN | apply Kd.R_drew)); exact HO_3.out) hb); have n1_ := Aside0.mk (Kd.R_elder' (by (with_reducible repeat (first | apply Kd.R_alloc | apply Kd.R_drewN | apply Kd.R_drew)); exact HO376.out) (Kd.R_base ho126) hb); have n2_ := Aside0.mk (Kd.R_below (by (with_reducible repeat (first | apply Kd.R_alloc | apply Kd.R_drewN | apply Kd.R_drew)); exact HO380.out) hb); have n3_ := Aside0.mk (Kd.R_lower (Kd.R_new' ho126 (Kd.R_lt (by (with_reducible repeat (first | apply Kd.R_alloc | apply Kd.R_drewN | apply Kd.R_drew)); exact HO376.out))) (below_size (by repeat (first | (with_reducible first | exact HB.out | apply below_alloc | apply pw_below_drewN | apply below_drew1) | exact HB.out)))); have n4_ := Aside0.mk (below_step (by repeat (first | (with_reducible first | exact HB.out | apply below_alloc | apply pw_below_drewN | apply below_drew1) | exact HB.out)) hb); clear HO_3; clear HO376; clear HO380; clear HB; have HO_3 := n0_; have HO376 := n1_; have HO380 := n2_; have HO383 := n3_; have HB := n4_; clear n0_ n1_ n2_ n3_ n4_; clear hb ho126; obtain ⟨Ao127, co127, eo127⟩ := Kd.R_slice HO380.out; subst eo127; obtain ⟨Ao128, co128, eo128⟩ := Kd.R_slice HO383.out; subst eo128) | (go_at_call 19; (with_reducible refine (impl_StrengthOf.calls kj35 _ _ y378 _ _ y381 t384 _ ?side1 ?side2 ?side3 ?side4 A116.out).mono ?_); (case side1 => repeat (first | exact (Kd.R_reads' HO380.out).2.2 | (with_reducible refine Kd.C_alloc ?_ _) | (with_reducible refine Kd.C_drewN ?_ _) | (with_reducible refine Kd.C_drew ?_))); (case side2 => exact (Kd.R_reads' HO380.out).2.1); (case side3 => repeat (first | exact (Kd.R_reads' HO383.out).2.2 | (with_reducible refine Kd.C_alloc ?_ _) | (with_reducible refine Kd.C_drewN ?_ _) | (with_reducible refine Kd.C_drew ?_))); (case side4 => exact (Kd.R_reads' HO383.out).2.1); rintro e w129 ⟨rfl, hb⟩; have n0_ := Aside0.mk (Kd.R_below (by (with_reducible repeat (first | apply Kd.R_alloc | apply Kd.R_drewN | apply Kd.R_drew)); exact HO_3.out) hb); have n1_ := Aside0.mk (Kd.R_below (by (with_reducible repeat (first | apply Kd.R_alloc | apply Kd.R_drewN | apply Kd.R_drew)); exact HO376.out) hb); have n2_ := Aside0.mk (Kd.R_below (by (with_reducible repeat (first | apply Kd.R_alloc | apply Kd.R_drewN | apply Kd.R_drew)); exact HO380.out) hb); have n3_ := Aside0.mk (Kd.R_below (by (with_reducible repeat (first | apply Kd.R_alloc | apply Kd.R_drewN | apply Kd.R_drew)); exact HO383.out) hb); have n4_ := Aside0.mk (below_step (by repeat (first | (with_reducible first | exact HB.out | apply below_alloc | apply pw_below_drewN | apply below_drew1) | exact HB.out)) hb); clear HO_3; clear HO376; clear HO380; clear HO383; clear HB; have HO_3 := n0_; have HO376 := n1_; have HO380 := n2_; have HO383 := n3_; have HB := n4_; clear n0_ n1_ n2_ n3_ n4_; (try clear hb); (try clear hb2); (try clear hk); (try clear hi)))
                                go_ret
                                exact ⟨by first | rfl | (simp [errW_none, errW_some] <;> rfl) | (simp [*, errW_none, errW_some] <;> rfl), by repeat (first | (with_reducible first | exact HB.out | apply below_alloc | apply pw_below_drewN | apply below_drew1) | exact HB.out)⟩
                              · rw [if_neg c115] at H
                                have c115b0 : (t377 == 0) = false := beq_eq_false_iff_ne.mpr c115
                                have c115b1 : (t377 != 0) = true := bne_iff_ne.mpr c115
                                exact absurd ((Option.some.inj H).trans HR_.out) (by decide)
                            · rw [if_neg c113] at H
                              exact absurd H (by simp)
                          · rw [if_neg c112] at H
                            exact absurd H (by simp)
                        · replace c111 := Bool.eq_false_iff.mpr c111
                          subst c111
                          have H1 : (some false) = some r := by rw [if_neg (show ¬ (false = true) by decide)] at H; exact H
                          clear H
                          have H := H1
                          clear H1
                          exact absurd ((Option.some.inj H).trans HR_.out) (by decide)

/-- THE ONE PURE STATEMENT of laws_FnBlends. -/
def laws_FnBlends.Pure : Prop := ∀ (l0 : List Int), (l0.length ≤ maxLen ∧ ∀ x ∈ l0, (Lit.int .u8 x).wf = true) → ∃ k, laws_FnBlends.f k l0 = some true

end Go.Proofs.Ytkgpjndlpjjobaa.Q
